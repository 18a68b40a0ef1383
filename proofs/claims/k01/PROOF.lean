import PyProof.Rows.All
import Wide.All
import OpenK.AllK
import Wide.FinOn
import HandS.ForMost
import HandS.ForExc
import HandS.Flow
import HandS.CallLocal
import HandS.Style
import HandS.TupMul
import HandS.TupAny
import HandS.Conv
import HandS.IsInst
import HandS.ExcIs
import HandS.ExcField
import HandS.Zip
import HandS.Wide
import HandS.Deep
import HandS.Walk
import HandS.TryMany
import PyProof.Rows.InDataRows
import HandS.Text
import HandS.Codes
import PyProof.Rows.SortShellAny
import HandS.SortInts
import HandS.Iter
import KE.GoesMore
import KE.GoesEnum
import KE.GoesZip
import HandS.Comp
import HandS.NoneIn
import HandS.Call
import HandS.Exc
import HandS.ExcOwn
import HandS.CallSlots
import HandS.WordsExc
import HandS.List
import HandS.Defaults
import HandS.HeadHook2
import HandS.Head0
import HandS.Head1
import HandS.Head2
import HandS.HeadEnd
import HandS.EndBits
import PyProof.ExcBaseAll.ValueError
import Lean
import PySem.Challenge.RW_coinsmade_k01_main_rows_in_order
set_option Elab.async false
set_option linter.all false
set_option maxRecDepth 100000
set_option exponentiation.threshold 100
section
/-! Core: a small language with tree values, and its meaning. No model in sight. -/
namespace Py

/-- a value: lists are frozen (lst: nobody writes them any more) or owned by the one place that holds them (own); scr: the script -/
inductive D where
  | non | bl (b : Bool) | int (i : Int) | str (s : List Nat) | tup (ds : List D) | lst (ds : List D) | own (ds : List D) | fn (f : Nat) | scr (ns : List Int)
  deriving Inhabited

mutual
/-- no list of it is owned -/
def D.plain : D → Bool
  | .own _ => false
  | .tup ds => D.plains ds
  | _ => true
def D.plains : List D → Bool
  | [] => true
  | d :: r => D.plain d && D.plains r
end
mutual
/-- nobody writes it from now on -/
def D.frz : D → D
  | .own ds => .lst (D.frzs ds)
  | .tup ds => .tup (D.frzs ds)
  | d => d
def D.frzs : List D → List D
  | [] => []
  | d :: r => D.frz d :: D.frzs r
end

/-- the greatest length of a list, a text -/
def LIM : Nat := 16777216
/-- numbers that are multiplied stay below it -/
def BIG : Nat := 2 ^ 1048576
/-- divisors stay below it -/
def BIGD : Nat := 2 ^ 9000

inductive Xc where
  | unfit | cannot | toomany | badtext | nothing
  deriving DecidableEq

abbrev Env := List (Option D)
inductive R (α : Type) where
  | ok (a : α) (e : Env)
  | exc (c : Xc) (ps : List D) (e : Env)
  | bad
abbrev M (α : Type) := Env → R α
def M.pure {α : Type} (a : α) : M α := fun e => .ok a e
def R.bind {α β : Type} (r : R α) (f : α → M β) : R β := match r with
  | .ok a e => f a e
  | .exc c ps e => .exc c ps e
  | .bad => .bad
def M.bind {α β : Type} (m : M α) (f : α → M β) : M β := fun e => (m e).bind f
instance : Monad M where
  pure := M.pure
  bind := M.bind
def M.bad {α : Type} : M α := fun _ => .bad
def M.of {α : Type} : Option α → M α
  | some a => fun e => .ok a e
  | none => fun _ => .bad
def M.guard (b : Bool) : M Unit := fun e => match b with
  | true => .ok () e
  | false => .bad
/-- what a def hands back: its value and its arguments as they are then -/
inductive FR where
  | ok (d : D) (ds : List D)
  | exc (c : Xc) (ps : List D) (ds : List D)
  | bad
abbrev Ora := Nat → List D → FR

inductive Fl where
  | nx | rt (d : D) | bk | ct

/-! ### syntax -/
inductive Lit where
  | non | bl (b : Bool) | int (i : Int) | str (s : List Nat)
def Lit.d : Lit → D
  | .non => .non
  | .bl b => .bl b
  | .int i => .int i
  | .str s => .str s
inductive Bop where
  | add | sub | mul | fdiv | mod | pow
inductive Cop where
  | eq | ne | lt | le | gt | ge | isIn | notIn
inductive Ty where
  | int | bool | str | list | tuple
  deriving DecidableEq
/-- built-in functions by their names -/
inductive Bi where
  | len | abs | max | min | sum | any | all | sorted | int | str | list | tuple
  deriving DecidableEq
/-- methods that change nothing -/
inductive Mt where
  | count | index | join | split | replace
  deriving DecidableEq
inductive Tg where
  | nm (i : Nat)
  | tup (is : List Nat)
def Tg.slots : Tg → List Nat
  | .nm i => [i]
  | .tup is => is
mutual
inductive Ex where
  | var (i : Nat)
  | con (x : String) (d : D)
  | gfn (f : Nat)
  | lit (l : Lit)
  | tuple (es : Exs)
  | list (es : Exs)
  | neg (a : Ex)
  | not (a : Ex)
  | and (a b : Ex)
  | or (a b : Ex)
  | bin (o : Bop) (a b : Ex)
  | cmp (o : Cop) (a b : Ex)
  | isC (a : Ex) (l : Lit)
  | notC (a : Ex) (l : Lit)
  | chain (o1 o2 : Cop) (a b c : Ex)
  | chain3 (o1 o2 o3 : Cop) (a b c d : Ex)
  | ite (c a b : Ex)
  | call (f : Nat) (as : Exs)
  /-- keywords: the values by the callee's parameters, told by their places -/
  | calld (f : Nat) (as : Exs) (dl : List Lit)
  | callk (f : Nat) (ks : List Nat) (as : Exs)
  | callv (i : Nat) (as : Exs)
  | bi (b : Bi) (as : Exs)
  | rangeL (a : Ex)
  | isi (a : Ex) (ts : List Ty)
  | sset (a : Ex)
  | lset (a : Ex)
  | idx (a b : Ex)
  | sl (a : Ex) (lo hi : Op)
  | rev (a : Ex)
  | meth (m : Mt) (a : Ex) (as : Exs)
  | pop (i : Nat) (ks : Exs) (a : Op)
  | comp (e : Ex) (tg : Tg) (it : It) (c : Op)
  | comp2 (e : Ex) (tg : Tg) (it : It) (c : Op) (tg' : Tg) (it' : It) (c' : Op)
inductive Exs where
  | nil
  | cons (e : Ex) (r : Exs)
inductive Op where
  | none
  | some (e : Ex)
inductive It where
  | plain (e : Ex)
  | range1 (a : Ex)
  | range2 (a b : Ex)
  | range3 (a b c : Ex)
  | zip2 (a b : Ex)
  | enum (a : Ex)
end
mutual
inductive Sm where
  | set (i : Nat) (e : Ex)
  /-- names = as many expressions -/
  | par (is : List Nat) (es : Exs)
  /-- names = a tuple -/
  | unpack (is : List Nat) (e : Ex)
  | setIx (i : Nat) (ks : Exs) (k : Ex) (e : Ex)
  /-- x[a], y[b] = c, d -/
  | par2 (i : Nat) (a : Ex) (j : Nat) (b : Ex) (c d : Ex)
  | aug (i : Nat) (o : Bop) (e : Ex)
  | augIx (i : Nat) (ks : Exs) (k : Ex) (o : Bop) (e : Ex)
  | append (i : Nat) (ks : Exs) (e : Ex)
  | extend (i : Nat) (ks : Exs) (e : Ex)
  | expr (e : Ex)
  | ite (c : Ex) (a b : Sms)
  | loop (tg : Tg) (it : It) (b : Sms)
  | while (c : Ex) (b : Sms)
  | ret (e : Ex)
  | raise (c : Xc) (as : Exs)
  | tryx (b : Sms) (hs : Hds)
  | pass | brk | cont
inductive Sms where
  | nil
  | cons (s : Sm) (r : Sms)
/-- except clauses: the class, the name's slot, the suite's last word: a value that is handed back (ret) or kept in a slot -/
inductive Hds where
  | nil
  | cons (c : Xc) (i : Nat) (ret : Option Nat) (v : Hv) (r : Hds)
/-- what a suite tells: words, the error's field, whether it is a ValueError (always) -/
inductive Hv where
  | lit (l : Lit)
  | yes
  | iteYes (a b : Lit)
  | list (vs : List Hv)
  | field
end

/-- a def: how many parameters, the slots' names (parameters first), the body, the last parameters' defaults -/
structure Fn where
  np : Nat
  names : List String
  body : Sms
  dfl : List Lit := []

/-! ### values -/
mutual
def D.eqv : D → D → Bool
  | .non, .non => true
  | .bl a, .bl b => a == b
  | .bl a, .int j => (if a then (1 : Int) else 0) == j
  | .int i, .bl b => i == (if b then (1 : Int) else 0)
  | .int i, .int j => i == j
  | .str a, .str b => a == b
  | .tup xs, .tup ys => D.eqvs xs ys
  | .lst xs, .lst ys => D.eqvs xs ys
  | .lst xs, .own ys => D.eqvs xs ys
  | .own xs, .lst ys => D.eqvs xs ys
  | .own xs, .own ys => D.eqvs xs ys
  | _, _ => false
def D.eqvs : List D → List D → Bool
  | [], [] => true
  | x :: xs, y :: ys => D.eqv x y && D.eqvs xs ys
  | _, _ => false
end
mutual
/-- data of any depth, of no defs -/
def D.data : D → Bool
  | .fn _ => false
  | .scr _ => false
  | .str s => s.all fun c => decide (c < 1114112)
  | .tup ds => D.datas ds
  | .lst ds => D.datas ds
  | .own ds => D.datas ds
  | _ => true
def D.datas : List D → Bool
  | [] => true
  | d :: r => D.data d && D.datas r
end
mutual
def D.depth : D → Nat
  | .tup ds => D.depths ds + 1
  | .lst ds => D.depths ds + 1
  | .own ds => D.depths ds + 1
  | _ => 0
def D.depths : List D → Nat
  | [] => 0
  | d :: r => max (D.depth d) (D.depths r)
end
def D.truth : D → Option Bool
  | .non => some false
  | .bl b => some b
  | .int i => some (i != 0)
  | .str s => if s.length ≤ LIM then some (!s.isEmpty) else none
  | .tup ds => some (!ds.isEmpty)
  | .lst ds => some (!ds.isEmpty)
  | .own ds => some (!ds.isEmpty)
  | .fn _ => none
  | .scr _ => none
/-- the items of a list, a tuple -/
def D.items : D → Option (List D)
  | .tup ds => some ds
  | .lst ds => some ds
  | .own ds => some ds
  | _ => none
def D.list? : D → Option (List D)
  | .lst ds => some ds
  | .own ds => some ds
  | _ => none
def D.ints : List D → Option (List Int)
  | [] => some []
  | .int i :: r => (D.ints r).map (i :: ·)
  | _ :: _ => none
def D.bls : List D → Option (List Bool)
  | [] => some []
  | .bl b :: r => (D.bls r).map (b :: ·)
  | _ :: _ => none
def D.strs : List D → Option (List (List Nat))
  | [] => some []
  | .str b :: r => (D.strs r).map (b :: ·)
  | _ :: _ => none

/-- the place that an index tells -/
def ixN (n : Nat) (i : Int) : Option Nat := if 0 ≤ i then (if i < n then some i.toNat else none) else if -(n : Int) ≤ i then some (i + n).toNat else none
/-- a slice's bound -/
def cut (n d : Nat) : Option Int → Nat
  | none => d
  | some v => if v < 0 then (v + n).toNat else min v.toNat n
def slice {α : Type} (xs : List α) (lo hi : Option Int) : List α := (xs.drop (cut xs.length 0 lo)).take (cut xs.length xs.length hi - cut xs.length 0 lo)

def addSem : D → D → Option D
  | .int i, .int j => some (.int (i + j))
  | .str a, .str b => if a.length + b.length ≤ LIM then some (.str (a ++ b)) else none
  | .tup a, .tup b => if a.length + b.length ≤ LIM then some (.tup (a ++ b)) else none
  | a, b => match a.list?, b.list? with
    | some xs, some ys => if xs.length + ys.length ≤ LIM then some (.own (xs ++ ys)) else none
    | _, _ => none
def repSem (xs : List D) (k : Int) : Option (List D) := if xs.length ≤ LIM ∧ k ≤ LIM ∧ -(2 ^ 62) ≤ k ∧ xs.length * k.toNat ≤ LIM then some (List.replicate k.toNat xs).flatten else none
/-- not too much to multiply -/
def mulB (i j : Int) : Bool := decide (i.natAbs < 2 ^ 64) || (decide (j.natAbs < 2 ^ 64) || (decide (i.natAbs < BIG) && decide (j.natAbs < BIG)))
def mulSem : D → D → Option D
  | .int i, .int j => if mulB i j = true then some (.int (i * j)) else none
  | .str a, .int k => if a.length ≤ LIM ∧ k ≤ LIM ∧ -(2 ^ 62) ≤ k ∧ a.length * k.toNat ≤ LIM then some (.str (List.replicate k.toNat a).flatten) else none
  | .tup a, .int k => (repSem a k).map .tup
  | .lst a, .int k => (repSem a k).map .own
  | .own a, .int k => (repSem a k).map .own
  | _, _ => none
def binSem : Bop → D → D → Option D
  | .add, a, b => addSem a b
  | .sub, .int i, .int j => some (.int (i - j))
  | .mul, a, b => mulSem a b
  | .fdiv, .int i, .int j => if j ≠ 0 ∧ j.natAbs < BIGD then some (.int (i.fdiv j)) else none
  | .mod, .int i, .int j => if j ≠ 0 then some (.int (i.fmod j)) else none
  | .pow, .int i, .int j => if 0 ≤ j ∧ j ≤ 1000000 ∧ i.natAbs < 2 ^ 64 then some (.int (i ^ j.toNat)) else none
  | _, _, _ => none
def inSem (x : D) : D → Option Bool
  | .str b => (match x with
    | .str [c] => some (decide (c ∈ b))
    | _ => none)
  | y => match y.items with
    | some ds => if x.data && D.datas ds && decide (x.depth ≤ 60) && decide (D.depths ds ≤ 60) then some (ds.any fun d => D.eqv d x) else none
    | none => none
def eqSem (x y : D) : Option Bool := if x.data && y.data && decide (x.depth ≤ 60) && decide (y.depth ≤ 60) then some (D.eqv x y) else none
def ltStr : List Nat → List Nat → Bool
  | [], [] => false
  | [], _ :: _ => true
  | _ :: _, [] => false
  | x :: xs, y :: ys => if x = y then ltStr xs ys else decide (x < y)
def cmpSem : Cop → D → D → Option Bool
  | .eq, a, b => eqSem a b
  | .ne, a, b => (eqSem a b).map (!·)
  | .lt, .int i, .int j => some (decide (i < j))
  | .le, .int i, .int j => some (decide (i ≤ j))
  | .gt, .int i, .int j => some (decide (j < i))
  | .ge, .int i, .int j => some (decide (j ≤ i))
  | .isIn, a, b => inSem a b
  | .notIn, a, b => (inSem a b).map (!·)
  | _, _, _ => none
/-- x is None, x is True, x is False -/
def isSem : D → Lit → Option Bool
  | .non, .non => some true
  | .fn _, .non => some false
  | .bl _, .non => some false
  | .int _, .non => some false
  | .str _, .non => some false
  | .tup _, .non => some false
  | .lst _, .non => some false
  | .own _, .non => some false
  | .bl a, .bl b => some (a == b)
  | .non, .bl _ => some false
  | _, _ => none
def tyIs : D → Ty → Option Bool
  | .fn _, _ => none
  | .scr _, _ => none
  | .bl _, .bool => some true
  | .bl _, .int => some true
  | .int _, .int => some true
  | .str _, .str => some true
  | .tup _, .tuple => some true
  | .lst _, .list => some true
  | .own _, .list => some true
  | _, _ => some false
def tysIs (d : D) : List Ty → Option Bool
  | [] => some false
  | t :: r => match tyIs d t, tysIs d r with
    | some a, some b => some (a || b)
    | _, _ => none
def ixSem (x y : D) : Option D := match x, y with
  | .str s, .int i => if s.length ≤ LIM then (ixN s.length i).bind fun j => s[j]?.map fun c => .str [c] else none
  | x, .int i => x.items.bind fun ds => (ixN ds.length i).bind fun j => ds[j]?
  | _, _ => none
def slSem (x : D) (lo hi : Option Int) : Option D := match x with
  | .str s => if s.length ≤ LIM then some (.str (slice s lo hi)) else none
  | .tup ds => if D.plains ds then some (.tup (slice ds lo hi)) else none
  | .scr ns => some (.own (slice (ns.map .int) lo hi))
  | .lst ds => some (.own (slice ds lo hi))
  | .own ds => if D.plains ds then some (.own (slice ds lo hi)) else none
  | _ => none
def revSem : D → Option D
  | .lst ds => some (.own ds.reverse)
  | .own ds => if D.plains ds then some (.own ds.reverse) else none
  | _ => none
def lenSem : D → Option Nat
  | .str s => if s.length ≤ LIM then some s.length else none
  | d => d.items.map (·.length)
def maxL : List Int → Option Int
  | [] => none
  | x :: r => some (r.foldl (fun m y => if y > m then y else m) x)
def minL : List Int → Option Int
  | [] => none
  | x :: r => some (r.foldl (fun m y => if y < m then y else m) x)
/-- sorting by an order -/
def insB {α : Type} (le : α → α → Bool) (x : α) : List α → List α
  | [] => [x]
  | y :: r => if le x y then x :: y :: r else y :: insB le x r
def sortB {α : Type} (le : α → α → Bool) : List α → List α
  | [] => []
  | x :: r => insB le x (sortB le r)
def leI (a b : Int) : Bool := decide (a ≤ b)
def leStr (a b : List Nat) : Bool := !ltStr b a
def ltInts : List Int → List Int → Bool
  | [], [] => false
  | [], _ :: _ => true
  | _ :: _, [] => false
  | x :: xs, y :: ys => if x = y then ltInts xs ys else decide (x < y)
def leInts (a b : List Int) : Bool := !ltInts b a
/-- tuples of ints -/
def D.rows : List D → Option (List (List Int))
  | [] => some []
  | .tup ds :: r => match D.ints ds, D.rows r with
    | some ns, some rs => some (ns :: rs)
    | _, _ => none
  | _ :: _ => none
def rowD (ns : List Int) : D := .tup (ns.map .int)
def sortSem (ds : List D) : Option (List D) := match D.ints ds with
  | some ns => some ((sortB leI ns).map .int)
  | none => (D.strs ds).map fun ss => (sortB leStr ss).map .str
/-- each once, in the order of the first -/
def dedupD : List D → List D
  | [] => []
  | x :: r => x :: (dedupD r).filter fun y => !D.eqv y x
/-- figures of a number -/
def digitsAux : Nat → Nat → List Nat
  | 0, _ => []
  | f + 1, n => if n < 10 then [48 + n] else digitsAux f (n / 10) ++ [48 + n % 10]
def figures (n : Nat) : List Nat := digitsAux (n + 1) n
def strOfInt (i : Int) : List Nat := figures i.toNat
def intOfFigures (s : List Nat) : Nat := s.foldl (fun a c => a * 10 + (c - 48)) 0
/-- of one value -/
def bi1 (b : Bi) (d : D) : Option D := match b with
  | .len => (lenSem d).map fun n : Nat => .int n
  | .abs => (match d with
    | .int i => some (.int (if i < 0 then -i else i))
    | _ => none)
  | .max => (d.list?.bind D.ints).bind fun ns => (maxL ns).map .int
  | .min => (d.list?.bind D.ints).bind fun ns => (minL ns).map .int
  | .sum => (d.list?.bind D.ints).map fun ns => .int ns.sum
  | .any => (d.list?.bind D.bls).map fun bs => .bl (bs.any id)
  | .all => (d.list?.bind D.bls).map fun bs => .bl (bs.all id)
  | .sorted => (d.list?.bind sortSem).map .own
  | .int => (match d with
    | .int i => some (.int i)
    | .bl b => some (.int (if b then 1 else 0))
    | .str s => if s ≠ [] ∧ s.length ≤ 640 ∧ s.all (fun c => 48 ≤ c && c ≤ 57) then some (.int (intOfFigures s)) else none
    | _ => none)
  | .str => (match d with
    | .int i => if 0 ≤ i ∧ i < 2 ^ 1900 then some (.str (strOfInt i)) else none
    | _ => none)
  | .list => d.items.bind fun ds => if D.plains ds then some (.own ds) else none
  | .tuple => d.items.bind fun ds => if D.plains ds then some (.tup ds) else none
/-- of two ints -/
def bi2 (b : Bi) (x y : D) : Option D := match b with
  | .max => (match x, y with
    | .int i, .int j => some (.int (if j > i then j else i))
    | _, _ => none)
  | .min => (match x, y with
    | .int i, .int j => some (.int (if j < i then j else i))
    | _, _ => none)
  | _ => none
def biSem (b : Bi) : List D → Option D
  | [d] => bi1 b d
  | [x, y] => bi2 b x y
  | _ => none
/-- the places of sep in s are cut -/
def splitAux (sep : List Nat) (n : Nat) : Nat → List Nat → List Nat → List (List Nat)
  | 0, acc, _ => [acc]
  | _ + 1, acc, [] => [acc]
  | f + 1, acc, c :: r => if List.isPrefixOf sep (c :: r) then acc :: splitAux sep n f [] ((c :: r).drop n) else splitAux sep n f (acc ++ [c]) r
def split (s sep : List Nat) : List (List Nat) := splitAux sep sep.length (s.length + 1) [] s
def replaceAux (x y : List Nat) (n : Nat) : Nat → List Nat → List Nat
  | 0, s => s
  | _ + 1, [] => []
  | f + 1, c :: r => if List.isPrefixOf x (c :: r) then y ++ replaceAux x y n f ((c :: r).drop n) else c :: replaceAux x y n f r
def join (sep : List Nat) : List (List Nat) → List Nat
  | [] => []
  | [x] => x
  | x :: y :: r => x ++ sep ++ join sep (y :: r)
def joinLen (sep : List Nat) (ss : List (List Nat)) : Nat := (ss.map (·.length)).sum + sep.length * ss.length
def findD (x : D) : List D → Option Nat
  | [] => none
  | d :: r => if D.eqv d x then some 0 else (findD x r).map (· + 1)
def mtSem : Mt → D → List D → Option D
  | .count, d, [x] => d.items.bind fun ds => if x.data && D.datas ds && decide (x.depth ≤ 60) && decide (D.depths ds ≤ 60) then some (.int (ds.countP fun y => D.eqv y x)) else none
  | .index, d, [x] => d.list?.bind fun ds => if x.data && D.datas ds && decide (x.depth ≤ 60) && decide (D.depths ds ≤ 60) then (findD x ds).map fun k : Nat => .int k else none
  | .join, .str sep, [d] => (d.items.bind D.strs).bind fun ss => if joinLen sep ss ≤ LIM then some (.str (join sep ss)) else none
  | .split, .str s, [.str sep] => if sep.length = 1 ∧ s.length + 2 ≤ LIM then some (.own ((split s sep).map .str)) else none
  | .replace, .str s, [.str x, .str y] => if x.length = 1 ∧ s.length * (y.length + 1) ≤ LIM then some (.str (replaceAux x y x.length (s.length + 1) s)) else none
  | _, _, _ => none
/-- whose method it is -/
def mtTy : Mt → D → Bool
  | .count, d => d.list?.isSome
  | .index, d => d.list?.isSome
  | _, .str _ => true
  | _, _ => false
/-- what a loop walks -/
def itemsOf : D → Option (List D)
  | .str s => some (s.map fun c => .str [c])
  | d => d.items.map D.frzs
def rangeD (lo c : Int) (n : Nat) : List D := (List.range n).map fun i => .int (lo + (i : Nat) * c)
def rangeSz (a b c : Int) : Nat := if 0 < c then ((b - a + c - 1) / c).toNat else ((a - b - c - 1) / (-c)).toNat
def small (i : Int) : Bool := decide (-(2 ^ 62) ≤ i ∧ i < 2 ^ 62)
def zipD (xs ys : List D) : List D := List.zipWith (fun x y => .tup [x, y]) xs ys
def enumAux : Nat → List D → List D
  | _, [] => []
  | k, d :: r => .tup [.int k, d] :: enumAux (k + 1) r

/-! ### owned lists, by paths -/
/-- the list at the end of a path is changed; what comes of it -/
def modAt (f : List D → Option (List D × D)) : List Int → D → Option (D × D)
  | [], .own ds => (f ds).map fun r => (.own r.1, r.2)
  | k :: ks, .own ds => (ixN ds.length k).bind fun j => ds[j]?.bind fun d => (modAt f ks d).map fun r => (.own (ds.set j r.1), r.2)
  | k :: ks, .tup ds => (ixN ds.length k).bind fun j => ds[j]?.bind fun d => (modAt f ks d).map fun r => (.tup (ds.set j r.1), r.2)
  | _, _ => none
def getAt : List Int → D → Option D
  | [], d => some d
  | k :: ks, d => d.items.bind fun ds => (ixN ds.length k).bind fun j => ds[j]?.bind (getAt ks)
def getSlot (i : Nat) : M D := fun e => match e[i]? with
  | some (some d) => .ok d e
  | _ => .bad
def setSlot (i : Nat) (d : D) : M Unit := fun e => .ok () (e.set i (some d))
/-- while x runs, the slot i is not there -/
def hide {α : Type} (i : Nat) (x : M α) : M α := fun e => match e[i]? with
  | some o => match x (e.set i none) with
    | .ok a e' => .ok a (e'.set i o)
    | .exc c ps e' => .exc c ps (e'.set i o)
    | .bad => .bad
  | none => .bad
def modSlot (i : Nat) (ks : List Int) (f : List D → Option (List D × D)) : M D := fun e => match e[i]? with
  | some (some d) => (match modAt f ks d with
    | some r => .ok r.2 (e.set i (some r.1))
    | none => .bad)
  | _ => .bad
/-- at the end of the path stands an owned list -/
def peekAt (i : Nat) (js : List Int) : M Unit := do
  let c ← getSlot i
  match getAt js c with
  | some (.own _) => pure ()
  | _ => M.bad
def isPath : Ex → Bool
  | .var _ => true
  | .idx a _ => isPath a
  | _ => false
def litsOnly : Exs → Bool
  | .nil => true
  | .cons (.lit _) r => litsOnly r
  | .cons _ _ => false
/-- its reckoning looks at nothing that may change, and changes nothing -/
def quiet : Ex → Bool
  | .lit _ => true
  | .con _ _ => true
  | .list es => litsOnly es
  | .tuple es => litsOnly es
  | _ => false
/-- its reckoning changes nothing -/
def still : Ex → Bool
  | .var _ => true
  | .lit _ => true
  | .con _ _ => true
  | .neg (.lit _) => true
  | .bin .add (.var _) (.lit _) => true
  | .bin .sub (.var _) (.lit _) => true
  | _ => false
/-- an argument: a slot whose list is lent, or a value -/
inductive Ar where
  | slot (i : Nat)
  | val (d : D)
def Ar.frz : Ar → Ar
  | .val d => .val d.frz
  | a => a
/-- the values of arguments; what is lent leaves its slot -/
def lend : List Ar → M (List D)
  | [] => pure []
  | .val d :: r => do return d :: (← lend r)
  | .slot i :: r => do
    let d ← getSlot i
    (fun e => .ok () (e.set i none))
    return d :: (← lend r)
/-- back behind the call -/
def giveBack : List Ar → List D → Env → Env
  | .slot i :: r, d :: ds, e => giveBack r ds (e.set i (some d))
  | .val _ :: r, _ :: ds, e => giveBack r ds e
  | _, _, e => e
def callM (φ : List D → FR) (as : List Ar) : M D := do
  let ds ← lend as
  fun e => match φ ds with
    | .ok d ds' => .ok d (giveBack as ds' e)
    | .exc c ps ds' => .exc c ps (giveBack as ds' e)
    | .bad => .bad
def permute : List Nat → List Ar → Option (List Ar)
  | [], _ => some []
  | k :: ks, as => match as[k]?, permute ks as with
    | some a, some r => some (a :: r)
    | _, _ => none
def bindTg : Tg → D → M Unit
  | .nm i, d => setSlot i d
  | .tup is, d => match d.items with
    | some ds => if is.length = ds.length then (fun e => .ok () ((is.zip ds).foldl (fun e p => e.set p.1 (some p.2)) e)) else M.bad
    | none => M.bad
def wipeE (e : Env) : List Nat → Env
  | [] => e
  | v :: vs => (wipeE e vs).set v none
/-- the slots of a comprehension's names are as they were -/
def restore (e e' : Env) : List Nat → Env
  | [] => e'
  | v :: vs => (restore e e' vs).set v ((e[v]?).getD none)
def wipeM (vs : List Nat) : M Unit := fun e => .ok () (wipeE e vs)
/-- what the slots hold nobody writes -/
def plainAt (e : Env) (vs : List Nat) : Bool := vs.all fun v => match e[v]? with
  | some (some d) => d.plain
  | _ => true
/-- for each item -/
def compGo (tg : Tg) (c : M Bool) (x : M D) : List D → M (List D)
  | [] => pure []
  | d :: r => do
    wipeM tg.slots
    bindTg tg d
    if ← c then
      let y ← x
      return y :: (← compGo tg c x r)
    else compGo tg c x r
def compM (tg : Tg) (c : M Bool) (x : M D) (items : List D) : M D := fun e => match compGo tg c x items (wipeE e tg.slots) with
  | .ok xs e' => if xs.length ≤ LIM ∧ plainAt e tg.slots = true then .ok (.own xs) (restore e e' tg.slots) else .bad
  | _ => .bad
def compGo2 (tg : Tg) (c : M Bool) (its : M (List D)) (tg' : Tg) (c' : M Bool) (x : M D) : List D → M (List D)
  | [] => pure []
  | d :: r => do
    wipeM (tg.slots ++ tg'.slots)
    bindTg tg d
    if ← c then
      let js ← its
      let ys ← compGo tg' c' x js
      return ys ++ (← compGo2 tg c its tg' c' x r)
    else compGo2 tg c its tg' c' x r
def compM2 (tg : Tg) (c : M Bool) (its : M (List D)) (tg' : Tg) (c' : M Bool) (x : M D) (items : List D) : M D := fun e => match compGo2 tg c its tg' c' x items (wipeE e (tg.slots ++ tg'.slots)) with
  | .ok xs e' => if xs.length ≤ LIM ∧ plainAt e (tg.slots ++ tg'.slots) = true then .ok (.own xs) (restore e e' (tg.slots ++ tg'.slots)) else .bad
  | _ => .bad
/-- for each item: a loop -/
def forGo (tg : Tg) (b : M Fl) : List D → M Fl
  | [] => pure .nx
  | d :: r => do
    bindTg tg d
    match ← b with
    | .nx => forGo tg b r
    | .ct => forGo tg b r
    | .bk => pure .nx
    | .rt v => pure (.rt v)
/-- so many turns at most -/
def whileN (c : M Bool) (b : M Fl) : Nat → M Fl
  | 0 => M.bad
  | n + 1 => do
    if ← c then
      match ← b with
      | .nx => whileN c b n
      | .ct => whileN c b n
      | .bk => pure .nx
      | .rt v => pure (.rt v)
    else pure .nx
def asInt : D → M Int
  | .int i => pure i
  | _ => M.bad
def asInts : List D → M (List Int)
  | [] => pure []
  | .int i :: r => do return i :: (← asInts r)
  | _ :: _ => M.bad
def popAt (i : Option Int) (ds : List D) : Option (List D × D) := match i with
  | none => ds.getLast?.map fun d => (ds.dropLast, d)
  | some i => (ixN ds.length i).bind fun j => ds[j]?.map fun d => (ds.eraseIdx j, d)
def setAtD (k : Int) (v : D) (ds : List D) : Option (List D × D) := (ixN ds.length k).map fun j => (ds.set j v, .non)
mutual
def Hv.val (ps : List D) : Hv → Option D
  | .lit l => some l.d
  | .yes => some (.bl true)
  | .iteYes a _ => some a.d
  | .list vs => (Hv.vals ps vs).map .own
  | .field => ps[0]?
def Hv.vals (ps : List D) : List Hv → Option (List D)
  | [] => some []
  | v :: r => match Hv.val ps v, Hv.vals ps r with
    | some d, some ds => some (d :: ds)
    | _, _ => none
end
def catch_ (c : Xc) (ps : List D) : Hds → M Fl
  | .nil => fun e => .exc c ps e
  | .cons c' i ret v r => if c = c' then (do
      let d ← M.of (v.val ps)
      (fun e => .ok () (e.set i none))
      match ret with
      | none => pure (.rt d)
      | some k => do setSlot k d; pure .nx) else catch_ c ps r

/-- an expression: as a value that one may keep (o), as a value that is looked at at once (v), as a test (t) -/
structure Tri where
  o : M D
  v : M D
  t : M Bool
def tri (o : M D) : Tri := ⟨o, o, do M.of (← o).truth⟩
def keep (i : Nat) : M D := do
  let d ← getSlot i
  if d.plain then pure d else (do
    setSlot i d.frz
    pure d.frz)
section
variable (Φ : Ora) (wh : M Bool → M Fl → M Fl)
mutual
def ev : Ex → Tri
  | .var i => ⟨keep i, getSlot i, do M.of (← getSlot i).truth⟩
  | .con _ d => tri (pure d)
  | .gfn f => tri (pure (.fn f))
  | .lit l => tri (pure l.d)
  | .tuple es => tri do
    let ds ← evs es
    M.guard (decide (ds.length ≤ LIM))
    return .tup ds
  | .list es => tri do
    let ds ← evs es
    M.guard (decide (ds.length ≤ LIM))
    return .own ds
  | .neg a => tri do
    let i ← asInt (← (ev a).o)
    return .int (-i)
  | .not a => let o : M D := do
      let x ← (ev a).o
      let b ← M.of x.truth
      return .bl (!b)
    ⟨o, o, do return !(← (ev a).t)⟩
  | .and a b => let o : M D := do
      let x ← (ev a).o
      if ← M.of x.truth then (ev b).o else return x
    ⟨o, o, do if ← (ev a).t then (ev b).t else return false⟩
  | .or a b => let o : M D := do
      let x ← (ev a).o
      if ← M.of x.truth then return x else (ev b).o
    ⟨o, o, do if ← (ev a).t then return true else (ev b).t⟩
  | .bin o a b => tri do
    let x ← (ev a).o
    let y ← (ev b).o
    M.of (binSem o x.frz y.frz)
  | .cmp o a b => let t : M Bool := do
      let x ← if quiet b then (ev a).v else (ev a).o
      let y ← (ev b).v
      M.of (cmpSem o x y)
    let w : M D := do return .bl (← t)
    ⟨w, w, t⟩
  | .isC a l => let t : M Bool := do
      let x ← (ev a).v
      M.of (isSem x l)
    let w : M D := do return .bl (← t)
    ⟨w, w, t⟩
  | .notC a l => let t : M Bool := do
      let x ← (ev a).v
      let b ← M.of (isSem x l)
      return !b
    let w : M D := do return .bl (← t)
    ⟨w, w, t⟩
  | .chain o1 o2 a b c => let t : M Bool := do
      let x ← (ev a).o
      let y ← (ev b).o
      if ← M.of (cmpSem o1 x y) then do
        let z ← (ev c).o
        M.of (cmpSem o2 y z)
      else return false
    let w : M D := do return .bl (← t)
    ⟨w, w, t⟩
  | .chain3 o1 o2 o3 a b c d => let t : M Bool := do
      let x ← (ev a).o
      let y ← (ev b).o
      if ← M.of (cmpSem o1 x y) then do
        let z ← (ev c).o
        if ← M.of (cmpSem o2 y z) then do
          let w ← (ev d).o
          M.of (cmpSem o3 z w)
        else return false
      else return false
    let w : M D := do return .bl (← t)
    ⟨w, w, t⟩
  | .ite c a b => tri do if ← (ev c).t then (ev a).o else (ev b).o
  | .call f as => tri do callM (Φ f) (← evAs as)
  | .calld f as dl => tri do callM (Φ f) ((← evAs as) ++ dl.map fun l => .val l.d)
  | .callk f ks as => tri do
    let as ← evAs as
    callM (Φ f) (← M.of (permute ks (as.map Ar.frz)))
  | .callv i as => tri do
    match ← getSlot i with
    | .fn f => callM (Φ f) (← evAs as)
    | _ => M.bad
  | .bi b as => tri do M.of (biSem b (← evVs as))
  | .rangeL a => tri do
    let j ← asInt (← (ev a).o)
    M.guard (decide (-(2 ^ 62) ≤ j ∧ j ≤ LIM))
    return .own (rangeD 0 1 j.toNat)
  | .isi a ts => tri do return .bl (← M.of (tysIs (← (ev a).v) ts))
  | .sset a => tri do
    let ds ← M.of ((← (ev a).v).items)
    return .own (← M.of (sortSem (dedupD ds)))
  | .lset a => tri do
    let ds ← M.of ((← (ev a).v).items)
    M.guard (D.datas ds)
    return .int (dedupD ds).length
  | .idx a b => let v : M D := match a with
      | .var i => do
        let _ ← getSlot i
        let y ← (ev b).o
        let x ← getSlot i
        M.of (ixSem x y)
      | .idx _ _ => do
        let x ← (ev a).v
        M.guard (still b || x.plain)
        let y ← (ev b).o
        M.of (ixSem x y)
      | _ => do
        let x ← (ev a).o
        let y ← (ev b).o
        M.of (ixSem x y)
    ⟨do
      let d ← v
      M.guard d.plain
      return d, v, do M.of (← v).truth⟩
  | .sl a lo hi => tri (match a with
    | .var i => do
      let _ ← getSlot i
      let l ← evO lo
      let h ← evO hi
      let x ← getSlot i
      M.of (slSem x l h)
    | _ => do
      let x ← (ev a).o
      let l ← evO lo
      let h ← evO hi
      M.of (slSem x l h))
  | .rev a => tri do M.of (revSem (← (ev a).v))
  | .meth m a as => tri do
    let x ← (ev a).o
    M.guard (mtTy m x)
    let ys ← evVs as
    M.of (mtSem m x ys)
  | .pop i ks a => tri do
    let _ ← getSlot i
    let js ← evIxs ks
    peekAt i js
    let k ← (if js.isEmpty then evO a else hide i (evO a))
    modSlot i js (popAt k)
  | .comp e tg it c => tri do
    let items ← evIt it
    compM tg (evC c) (ev e).o items
  | .comp2 e tg it c tg' it' c' => tri do
    let items ← evIt it
    compM2 tg (evC c) (evIt it') tg' (evC c') (ev e).o items
def evs : Exs → M (List D)
  | .nil => pure []
  | .cons e r => do
    let d ← (ev e).o
    return d :: (← evs r)
/-- values that are looked at, at once: the last by sight -/
def evVs : Exs → M (List D)
  | .nil => pure []
  | .cons e .nil => do return [← (ev e).v]
  | .cons e r => do
    let d ← (ev e).o
    return d :: (← evVs r)
def evAs : Exs → M (List Ar)
  | .nil => pure []
  | .cons (.var i) r => do
    let d ← getSlot i
    return (if d.plain then .val d else .slot i) :: (← evAs r)
  | .cons e r => do
    let d ← (ev e).o
    return .val d :: (← evAs r)
def evIxs : Exs → M (List Int)
  | .nil => pure []
  | .cons e r => do
    let i ← asInt (← (ev e).o)
    return i :: (← evIxs r)
def evO : Op → M (Option Int)
  | .none => pure none
  | .some e => do return some (← asInt (← (ev e).o))
def evC : Op → M Bool
  | .none => pure true
  | .some e => (ev e).t
def evIt : It → M (List D)
  | .plain e => do M.of (itemsOf (← (ev e).o))
  | .range1 a => do
    let j ← asInt (← (ev a).o)
    M.guard (small j)
    return rangeD 0 1 j.toNat
  | .range2 a b => do
    let i ← asInt (← (ev a).o)
    let j ← asInt (← (ev b).o)
    M.guard (small i && small j)
    return rangeD i 1 (j - i).toNat
  | .range3 a b c => do
    let i ← asInt (← (ev a).o)
    let j ← asInt (← (ev b).o)
    let k ← asInt (← (ev c).o)
    M.guard (small i && small j && decide (k ≠ 0 ∧ -1000 < k ∧ k < 1000))
    return rangeD i k (rangeSz i j k)
  | .zip2 a b => do
    let xs ← M.of (itemsOf (← (ev a).o))
    let ys ← M.of (itemsOf (← (ev b).o))
    return zipD xs ys
  | .enum a => do
    let xs ← M.of (itemsOf (← (ev a).o))
    return enumAux 0 xs
end
abbrev evE (x : Ex) : M D := (ev Φ x).o
abbrev evV (x : Ex) : M D := (ev Φ x).v
abbrev evT (x : Ex) : M Bool := (ev Φ x).t
def moveOut (np : Nat) : Ex → M D
  | .var i => if i < np then evE Φ (.var i) else do
    let d ← getSlot i
    (fun e => .ok d (e.set i none))
  | e => evE Φ e
def augSem (o : Bop) (x y : D) : Option D := match o with
  | .add => (match x, y with
    | .int i, .int j => some (.int (i + j))
    | .str a, .str b => if a.length + b.length ≤ LIM then some (.str (a ++ b)) else none
    | _, _ => none)
  | .sub => (match x, y with
    | .int i, .int j => some (.int (i - j))
    | _, _ => none)
  | _ => none
mutual
def evS (np : Nat) : Sm → M Fl
  | .set i e => do
    let d ← evE Φ e
    setSlot i d
    pure .nx
  | .par is es => do
    let ds ← evs Φ es
    if is.length = ds.length then (fun e => .ok .nx ((is.zip ds).foldl (fun e p => e.set p.1 (some p.2)) e)) else M.bad
  | .unpack is e => do
    bindTg (.tup is) (← evE Φ e)
    pure .nx
  | .setIx i ks k e => do
    let v ← evE Φ e
    let _ ← getSlot i
    let js ← evIxs Φ ks
    let k ← (if js.isEmpty then evE Φ k else hide i (evE Φ k))
    let k ← asInt k
    let _ ← modSlot i js (setAtD k v)
    pure .nx
  | .par2 i a j b c d => do
    let v ← evE Φ c
    let w ← evE Φ d
    let _ ← getSlot i
    let k ← asInt (← evE Φ a)
    let _ ← modSlot i [] (setAtD k v)
    let _ ← getSlot j
    let k ← asInt (← evE Φ b)
    let _ ← modSlot j [] (setAtD k w)
    pure .nx
  | .aug i o e => do
    let x ← getSlot i
    let y ← evE Φ e
    let z ← M.of (augSem o x y)
    setSlot i z
    pure .nx
  | .augIx i ks k o e => do
    let _ ← getSlot i
    let js ← evIxs Φ ks
    let k ← (if js.isEmpty then evE Φ k else hide i (evE Φ k))
    let k ← asInt k
    let c ← getSlot i
    let x ← M.of ((getAt js c).bind fun c => ixSem c (.int k))
    M.guard x.plain
    let y ← (if js.isEmpty then evE Φ e else hide i (evE Φ e))
    let z ← M.of (augSem o x y)
    let _ ← modSlot i js (setAtD k z)
    pure .nx
  | .append i ks e => do
    let _ ← getSlot i
    let js ← evIxs Φ ks
    peekAt i js
    let v ← (if js.isEmpty then evE Φ e else hide i (evE Φ e))
    let _ ← modSlot i js fun ds => if ds.length < LIM then some (ds ++ [v], .non) else none
    pure .nx
  | .extend i ks e => do
    let _ ← getSlot i
    let js ← evIxs Φ ks
    peekAt i js
    let v ← (if js.isEmpty then evE Φ e else hide i (evE Φ e))
    let vs ← M.of v.list?
    let _ ← modSlot i js fun ds => if ds.length + vs.length ≤ LIM then some (ds ++ vs, .non) else none
    pure .nx
  | .expr e => do
    let _ ← evE Φ e
    pure .nx
  | .ite c a b => do if ← evT Φ c then evSs np a else evSs np b
  | .loop tg it b => do
    let items ← evIt Φ it
    forGo tg (evSs np b) items
  | .while c b => wh (evT Φ c) (evSs np b)
  | .ret e => do return .rt (← moveOut Φ np e)
  | .raise c as => do
    let ds ← evs Φ as
    fun e => .exc c ds e
  | .tryx b hs => fun e => match evSs np b e with
    | .exc c ps e' => catch_ c ps hs e'
    | r => r
  | .pass => pure .nx
  | .brk => pure .bk
  | .cont => pure .ct
def evSs (np : Nat) : Sms → M Fl
  | .nil => pure .nx
  | .cons s r => do
    match ← evS np s with
    | .nx => evSs np r
    | f => pure f
end
end

/-! ### which slots a body stores -/
mutual
def Sm.stores : Sm → List Nat
  | .set i _ => [i]
  | .par is _ => is
  | .unpack is _ => is
  | .aug i _ _ => [i]
  | .ite _ a b => a.stores ++ b.stores
  | .loop tg _ b => tg.slots ++ b.stores
  | .while _ b => b.stores
  | .tryx b hs => b.stores ++ hs.stores
  | _ => []
def Sms.stores : Sms → List Nat
  | .nil => []
  | .cons s r => s.stores ++ r.stores
def Hds.stores : Hds → List Nat
  | .nil => []
  | .cons _ i ret _ r => i :: (match ret with
    | some k => [k]
    | none => []) ++ r.stores
end
/-- the arguments behind the call: what was frozen is as it was; an owned one is what its parameter's slot tells -/
def backArgs : Nat → List D → Env → Option (List D)
  | _, [], _ => some []
  | k, d :: ds, e => if d.plain then (backArgs (k + 1) ds e).map (d :: ·) else match e[k]?, backArgs (k + 1) ds e with
    | some (some x), some r => some (x :: r)
    | _, _ => none
def FR.back (o : Option (List D)) (f : List D → FR) : FR := match o with
  | some ds => f ds
  | none => .bad
def okArgs (st : List Nat) : Nat → List D → Bool
  | _, [] => true
  | k, d :: ds => (d.plain || !st.contains k) && okArgs st (k + 1) ds
def runFn (Φ : Ora) (wh : M Bool → M Fl → M Fl) (f : Fn) (ds : List D) : FR :=
  if ds.length = f.np ∧ okArgs f.body.stores 0 ds = true then
    match evSs Φ wh f.np f.body (ds.map some ++ List.replicate (f.names.length - f.np) none) with
    | .ok (.rt d) e => FR.back (backArgs 0 ds e) (.ok d)
    | .ok .nx e => FR.back (backArgs 0 ds e) (.ok .non)
    | .exc c ps e => FR.back (backArgs 0 ds e) (.exc c ps)
    | _ => .bad
  else .bad
/-- the defs of a table call each other, so deep -/
def run (T : Nat → Option Fn) (wh : M Bool → M Fl → M Fl) : Nat → Ora
  | 0, _, _ => .bad
  | n + 1, f, as => match T f with
    | some fn => runFn (run T wh n) wh fn as
    | none => .bad
end Py
end
section
/-! S1: what a value of Core is in the layer's heap -/
namespace Py
open L2 (V Hp HO St TE TT TS TA TG TI Ends VK XK WX SqL SqT Rd upd upd_same upd_ne)
abbrev Adr := PySem.Addr
abbrev AS := Adr → Prop

/-- where the defs and the classes of errors stand -/
structure G where
  K : PySem.W.Frag
  mg : PySem.Str → Option PySem.Value
  fa : Nat → Adr
  kn : Nat → Bool
  xc : Xc → Bool
  ca : Xc → Adr

/-- the script: locked, or written -/
def ScrL (g : G) (H : Hp) (a : Adr) (vs : List V) : Prop :=
  (∃ o, H a = some (.frz o (.lst vs))) ∨
    ∃ (o : PySem.Obj) (its : Array PySem.Value) (n : Nat), g.K.lookup a = some o ∧ o.cls = .type "list" ∧ o.dict = none ∧ o.data = .seq its n ∧ its.size ≤ PySem.sizeLine ∧ L2.Vals vs its.toList

mutual
def Rep (g : G) (H : Hp) (F : AS) : V → D → AS → Prop
  | v, .non, _ => v = .non
  | v, .bl b, _ => v = .bl b
  | v, .int i, _ => v = .int i
  | v, .str s, _ => v = .str ⟨s.toArray⟩
  | v, .fn f, _ => v = .ref (g.fa f) ∧ g.kn f = true
  | v, .tup ds, S => ∃ a vs, v = .ref a ∧ SqT g.K H a vs ∧ Reps g H F vs ds S
  | v, .scr ns, _ => ∃ a, v = .ref a ∧ ScrL g H a (ns.map V.int)
  | v, .lst ds, _ => ∃ a vs, v = .ref a ∧ H a = some (.lst vs) ∧ F a ∧ Reps g H F vs ds (fun _ => False)
  | v, .own ds, S => ∃ a vs, v = .ref a ∧ H a = some (.lst vs) ∧ S a ∧ Reps g H F vs ds (fun b => S b ∧ b ≠ a)
def Reps (g : G) (H : Hp) (F : AS) : List V → List D → AS → Prop
  | vs, [], _ => vs = []
  | vs, d :: ds, S => ∃ v r S1 S2, vs = v :: r ∧ (∀ b, S1 b → S b) ∧ (∀ b, S2 b → S b) ∧ (∀ b, S1 b → ¬ S2 b) ∧ Rep g H F v d S1 ∧ Reps g H F r ds S2
end
abbrev none_ : AS := fun _ => False
abbrev all_ : AS := fun _ => True

variable {g : G} {H H1 H2 H' : Hp} {F F1 F2 F' : AS} {S S1 S2 S' T : AS}

theorem ScrL.sql {a : Adr} {vs : List V} (h : ScrL g H a vs) : SqL g.K H a vs := by
  rcases h with ⟨o, h⟩ | h
  · exact .inl (.inr ⟨o, h⟩)
  · exact .inr h

mutual
theorem Rep.mono : ∀ {d : D} {v : V} {S S' : AS}, Rep g H F v d S → (∀ b, S b → S' b) → Rep g H F v d S'
  | .non, _, _, _, h, _ => h
  | .bl _, _, _, _, h, _ => h
  | .int _, _, _, _, h, _ => h
  | .str _, _, _, _, h, _ => h
  | .fn _, _, _, _, h, _ => h
  | .scr _, _, _, _, h, _ => h
  | .tup ds, v, S, S', h, k => by
    obtain ⟨a, vs, e, q, r⟩ := h
    exact ⟨a, vs, e, q, Reps.mono r k⟩
  | .lst ds, v, S, S', h, k => h
  | .own ds, v, S, S', h, k => by
    obtain ⟨a, vs, e, q, s, r⟩ := h
    exact ⟨a, vs, e, q, k _ s, Reps.mono r fun b hb => ⟨k b hb.1, hb.2⟩⟩
theorem Reps.mono : ∀ {ds : List D} {vs : List V} {S S' : AS}, Reps g H F vs ds S → (∀ b, S b → S' b) → Reps g H F vs ds S'
  | [], _, _, _, h, _ => h
  | d :: ds, _, _, _, h, k => by
    obtain ⟨v, r, S1, S2, e, h1, h2, h3, p, q⟩ := h
    exact ⟨v, r, S1, S2, e, fun b hb => k b (h1 b hb), fun b hb => k b (h2 b hb), h3, p, q⟩
end

/-- frozen things stay: H1, F1 come later -/
structure Later (H : Hp) (F : AS) (H1 : Hp) (F1 : AS) : Prop where
  keep : ∀ a o, H a = some o → (∀ xs, o = .lst xs → F a) → H1 a = some o
  grow : ∀ a, F a → F1 a
  trk : ∀ a, H1 a = none → H a = none
theorem Later.refl : Later H F H F := ⟨fun _ _ h _ => h, fun _ h => h, fun _ h => h⟩
theorem Later.trans (a : Later H F H1 F1) (b : Later H1 F1 H2 F2) : Later H F H2 F2 :=
  ⟨fun x o h k => b.keep x o (a.keep x o h k) fun xs e => a.grow x (k xs e), fun x h => b.grow x (a.grow x h), fun x h => a.trk x (b.trk x h)⟩
/-- S may be written, the rest stays; S' may be written behind it -/
structure Aft (S : AS) (H : Hp) (F : AS) (S' : AS) (H' : Hp) (F' : AS) : Prop where
  keep : ∀ a o, H a = some o → (∀ xs, o = .lst xs → ¬ S a) → H' a = some o
  grow : ∀ a, F a → F' a
  new : ∀ a, F' a → F a ∨ S a ∨ H a = none
  trk : ∀ a, H' a = none → H a = none
  sub : ∀ a, S' a → S a ∨ H a = none
  own : ∀ a, S' a → ¬ F' a ∧ H' a ≠ none
  ftr : ∀ a, F' a → H' a ≠ none
/-- S is owned; what is frozen is there -/
structure Own (S : AS) (H : Hp) (F : AS) : Prop where
  s : ∀ a, S a → ¬ F a ∧ H a ≠ none
  f : ∀ a, F a → H a ≠ none
theorem Own.less (o : Own S H F) (h : ∀ a, T a → S a) : Own T H F := ⟨fun a t => o.s a (h a t), o.f⟩
theorem Aft.ow (x : Aft S H F S1 H1 F1) : Own S1 H1 F1 := ⟨x.own, x.ftr⟩
theorem Aft.refl (o : Own S H F) : Aft S H F S H F := ⟨fun _ _ h _ => h, fun _ h => h, fun _ h => .inl h, fun _ h => h, fun _ h => .inl h, o.s, o.f⟩
theorem Aft.trans (x : Aft S H F S1 H1 F1) (y : Aft S1 H1 F1 S2 H2 F2) : Aft S H F S2 H2 F2 where
  keep := fun a o h k => y.keep a o (x.keep a o h k) fun xs e s => (x.sub a s).elim (k xs e) fun z => by rw [h] at z; cases z
  grow := fun a h => y.grow a (x.grow a h)
  new := fun a h => (y.new a h).elim (fun z => x.new a z) fun z => z.elim (fun s => .inr (x.sub a s)) fun z => .inr (.inr (x.trk a z))
  trk := fun a h => x.trk a (y.trk a h)
  sub := fun a s => (y.sub a s).elim (fun s => x.sub a s) fun z => .inr (x.trk a z)
  own := y.own
  ftr := y.ftr
theorem Aft.weak (x : Aft S H F S1 H1 F1) (h : ∀ a, S2 a → S1 a) : Aft S H F S2 H1 F1 := ⟨x.keep, x.grow, x.new, x.trk, fun a s => x.sub a (h a s), fun a s => x.own a (h a s), x.ftr⟩
/-- more was owned ahead -/
theorem Aft.more (x : Aft S H F S1 H1 F1) (h : ∀ a, S a → T a) : Aft T H F S1 H1 F1 :=
  ⟨fun a o e k => x.keep a o e fun xs z s => k xs z (h a s), x.grow, fun a z => (x.new a z).imp_right fun z => z.imp_left (h a), x.trk, fun a s => (x.sub a s).imp_left (h a), x.own, x.ftr⟩
theorem Aft.later (x : Aft S H F S1 H1 F1) (o : Own S H F) : Later H F H1 F1 := ⟨fun a ob h k => x.keep a ob h fun xs e s => (o.s a s).1 (k xs e), x.grow, x.trk⟩
/-- what is owned apart stays owned, and apart -/
theorem Aft.apart (x : Aft S H F S1 H1 F1) (o : Own T H F) (d : ∀ a, T a → ¬ S a) : Own T H1 F1 ∧ ∀ a, T a → ¬ S1 a :=
  ⟨⟨fun a t => ⟨fun z => (x.new a z).elim (o.s a t).1 fun z => z.elim (d a t) (o.s a t).2, fun z => (o.s a t).2 (x.trk a z)⟩, x.ftr⟩, fun a t s => (x.sub a s).elim (d a t) (o.s a t).2⟩
/-- .. with it -/
theorem Aft.frame (x : Aft S H F S1 H1 F1) (o : Own T H F) (d : ∀ a, T a → ¬ S a) : Aft (fun a => S a ∨ T a) H F (fun a => S1 a ∨ T a) H1 F1 where
  keep := fun a ob h k => x.keep a ob h fun xs e s => k xs e (.inl s)
  grow := x.grow
  new := fun a z => (x.new a z).imp_right fun z => z.imp_left .inl
  trk := x.trk
  sub := fun a s => s.elim (fun s => (x.sub a s).imp_left .inl) fun t => .inl (.inr t)
  own := fun a s => s.elim (x.own a) ((x.apart o d).1.s a)
  ftr := x.ftr

mutual
/-- a value whose owned lists stand apart from what is written -/
theorem Rep.stay : ∀ {d : D} {v : V} {P : AS}, Rep g H F v d P → (∀ a o, H a = some o → (∀ xs, o = .lst xs → P a ∨ F a) → H1 a = some o) → (∀ a, F a → F1 a) → Rep g H1 F1 v d P
  | .non, _, _, h, _, _ => h
  | .bl _, _, _, h, _, _ => h
  | .int _, _, _, h, _, _ => h
  | .str _, _, _, h, _, _ => h
  | .fn _, _, _, h, _, _ => h
  | .scr _, _, _, h, k, _ => by
    obtain ⟨a, e, q⟩ := h
    refine ⟨a, e, ?_⟩
    rcases q with ⟨o, q⟩ | q
    · exact .inl ⟨o, k a _ q (by intro xs z; cases z)⟩
    · exact .inr q
  | .tup ds, v, P, h, k, f => by
    obtain ⟨a, vs, e, q, r⟩ := h
    refine ⟨a, vs, e, ?_, Reps.stay r k f⟩
    rcases q with (q | ⟨o, q⟩) | q
    · exact .inl (.inl (k a _ q (by intro xs z; cases z)))
    · exact .inl (.inr ⟨o, k a _ q (by intro xs z; cases z)⟩)
    · exact .inr q
  | .lst ds, v, P, h, k, f => by
    obtain ⟨a, vs, e, q, s, r⟩ := h
    exact ⟨a, vs, e, k a _ q (fun xs z => .inr s), f a s, Reps.stay r (fun a o z c => k a o z fun xs y => (c xs y).elim (fun z => z.elim) .inr) f⟩
  | .own ds, v, P, h, k, f => by
    obtain ⟨a, vs, e, q, s, r⟩ := h
    exact ⟨a, vs, e, k a _ q (fun xs _ => .inl s), s, Reps.stay r (fun a o z c => k a o z fun xs y => (c xs y).imp_left And.left) f⟩
theorem Reps.stay : ∀ {ds : List D} {vs : List V} {P : AS}, Reps g H F vs ds P → (∀ a o, H a = some o → (∀ xs, o = .lst xs → P a ∨ F a) → H1 a = some o) → (∀ a, F a → F1 a) → Reps g H1 F1 vs ds P
  | [], _, _, h, _, _ => h
  | d :: ds, _, _, h, k, f => by
    obtain ⟨v, r, S1, S2, e, h1, h2, h3, p, q⟩ := h
    exact ⟨v, r, S1, S2, e, h1, h2, h3, Rep.stay p (fun a o z c => k a o z fun xs y => (c xs y).imp_left (h1 a)) f, Reps.stay q (fun a o z c => k a o z fun xs y => (c xs y).imp_left (h2 a)) f⟩
end
/-- what is owned apart is as it was -/
theorem Rep.after {d : D} {v : V} (r : Rep g H F v d T) (x : Aft S H F S1 H1 F1) (o : Own S H F) (dj : ∀ a, T a → ¬ S a) : Rep g H1 F1 v d T :=
  r.stay (fun a ob h k => x.keep a ob h fun xs e s => (k xs e).elim (fun t => dj a t s) fun f => (o.s a s).1 f) x.grow
theorem Reps.after {ds : List D} {vs : List V} (r : Reps g H F vs ds T) (x : Aft S H F S1 H1 F1) (o : Own S H F) (dj : ∀ a, T a → ¬ S a) : Reps g H1 F1 vs ds T :=
  r.stay (fun a ob h k => x.keep a ob h fun xs e s => (k xs e).elim (fun t => dj a t s) fun f => (o.s a s).1 f) x.grow
theorem Rep.later {d : D} {v : V} (r : Rep g H F v d none_) (x : Later H F H1 F1) : Rep g H1 F1 v d none_ := r.stay (fun a ob h k => x.keep a ob h fun xs e => (k xs e).elim (fun z => z.elim) id) x.grow
theorem Reps.later {ds : List D} {vs : List V} (r : Reps g H F vs ds none_) (x : Later H F H1 F1) : Reps g H1 F1 vs ds none_ := r.stay (fun a ob h k => x.keep a ob h fun xs e => (k xs e).elim (fun z => z.elim) id) x.grow

mutual
theorem Rep.plain : ∀ {d : D} {v : V} {P : AS}, d.plain = true → Rep g H F v d P → Rep g H F v d none_
  | .non, _, _, _, h => h
  | .bl _, _, _, _, h => h
  | .int _, _, _, _, h => h
  | .str _, _, _, _, h => h
  | .fn _, _, _, _, h => h
  | .scr _, _, _, _, h => h
  | .tup ds, v, P, k, h => by
    obtain ⟨a, vs, e, q, r⟩ := h
    exact ⟨a, vs, e, q, Reps.plain k r⟩
  | .lst ds, v, P, _, h => h
  | .own ds, v, P, k, h => by cases k
theorem Reps.plain : ∀ {ds : List D} {vs : List V} {P : AS}, D.plains ds = true → Reps g H F vs ds P → Reps g H F vs ds none_
  | [], _, _, _, h => h
  | d :: ds, _, _, k, h => by
    obtain ⟨v, r, S1, S2, e, h1, h2, h3, p, q⟩ := h
    have k2 : (D.plain d && D.plains ds) = true := k
    rw [Bool.and_eq_true] at k2
    exact ⟨v, r, none_, none_, e, fun b z => z.elim, fun b z => z.elim, fun b z => z.elim, Rep.plain k2.1 p, Reps.plain k2.2 q⟩
end
mutual
theorem Rep.freeze : ∀ {d : D} {v : V} {P : AS}, Rep g H F v d P → (∀ a, F a → F1 a) → (∀ a, P a → F1 a) → Rep g H F1 v d.frz none_
  | .non, _, _, h, _, _ => h
  | .bl _, _, _, h, _, _ => h
  | .int _, _, _, h, _, _ => h
  | .str _, _, _, h, _, _ => h
  | .fn _, _, _, h, _, _ => h
  | .scr _, _, _, h, _, _ => h
  | .tup ds, v, P, h, k, f => by
    obtain ⟨a, vs, e, q, r⟩ := h
    exact ⟨a, vs, e, q, Reps.freeze r k f⟩
  | .lst ds, v, P, h, k, f => h.stay (P := P) (g := g) (H := H) (F := F) (d := .lst ds) (fun a o z _ => z) k
  | .own ds, v, P, h, k, f => by
    obtain ⟨a, vs, e, q, s, r⟩ := h
    exact ⟨a, vs, e, q, f a s, Reps.freeze r k fun b hb => f b hb.1⟩
theorem Reps.freeze : ∀ {ds : List D} {vs : List V} {P : AS}, Reps g H F vs ds P → (∀ a, F a → F1 a) → (∀ a, P a → F1 a) → Reps g H F1 vs (D.frzs ds) none_
  | [], _, _, h, _, _ => h
  | d :: ds, _, _, h, k, f => by
    obtain ⟨v, r, S1, S2, e, h1, h2, h3, p, q⟩ := h
    exact ⟨v, r, none_, none_, e, fun b z => z.elim, fun b z => z.elim, fun b z => z.elim, Rep.freeze p k fun b hb => f b (h1 b hb), Reps.freeze q k fun b hb => f b (h2 b hb)⟩
end
mutual
theorem plain_frz : ∀ d : D, d.frz.plain = true
  | .non => rfl
  | .bl _ => rfl
  | .int _ => rfl
  | .str _ => rfl
  | .fn _ => rfl
  | .scr _ => rfl
  | .tup ds => plains_frzs ds
  | .lst ds => rfl
  | .own ds => rfl
theorem plains_frzs : ∀ ds : List D, D.plains (D.frzs ds) = true
  | [] => rfl
  | d :: ds => by
    show (D.plain d.frz && D.plains (D.frzs ds)) = true
    rw [plain_frz d, plains_frzs ds]; rfl
end
theorem Reps.length : ∀ {ds : List D} {vs : List V} {P : AS}, Reps g H F vs ds P → vs.length = ds.length
  | [], _, _, h => by rw [show _ = [] from h]; rfl
  | d :: ds, _, _, h => by
    obtain ⟨v, r, S1, S2, e, h1, h2, h3, p, q⟩ := h
    rw [e, List.length_cons, List.length_cons, Reps.length q]
theorem Reps.get : ∀ {ds : List D} {vs : List V} {P : AS} {i : Nat} {d : D}, Reps g H F vs ds P → ds[i]? = some d → ∃ v, vs[i]? = some v ∧ Rep g H F v d P
  | [], _, _, _, _, _, e => by simp at e
  | d :: ds, _, _, 0, d', h, e => by
    obtain ⟨v, r, S1, S2, rfl, h1, h2, h3, p, q⟩ := h
    have e : d = d' := by simpa using e
    subst e
    exact ⟨v, rfl, p.mono h1⟩
  | d :: ds, _, _, i + 1, d', h, e => by
    obtain ⟨v, r, S1, S2, rfl, h1, h2, h3, p, q⟩ := h
    obtain ⟨v', e', p'⟩ := Reps.get (i := i) q (by simpa using e)
    exact ⟨v', by simpa using e', p'.mono h2⟩
theorem Reps.cons {v : V} {vs : List V} {d : D} {ds : List D} {P P1 P2 : AS} (h1 : ∀ b, P1 b → P b) (h2 : ∀ b, P2 b → P b) (h3 : ∀ b, P1 b → ¬ P2 b) (p : Rep g H F v d P1) (q : Reps g H F vs ds P2) : Reps g H F (v :: vs) (d :: ds) P :=
  ⟨v, vs, P1, P2, rfl, h1, h2, h3, p, q⟩
theorem Reps.cons0 {v : V} {vs : List V} {d : D} {ds : List D} (p : Rep g H F v d none_) (q : Reps g H F vs ds none_) : Reps g H F (v :: vs) (d :: ds) none_ :=
  Reps.cons (fun _ z => z) (fun _ z => z) (fun _ z => z.elim) p q
theorem Reps.append : ∀ {ds es : List D} {vs ws : List V} {P P1 P2 : AS}, (∀ b, P1 b → P b) → (∀ b, P2 b → P b) → (∀ b, P1 b → ¬ P2 b) → Reps g H F vs ds P1 → Reps g H F ws es P2 → Reps g H F (vs ++ ws) (ds ++ es) P
  | [], es, vs, ws, P, P1, P2, h1, h2, h3, p, q => by
    rw [show vs = [] from p]
    exact q.mono h2
  | d :: ds, es, vs, ws, P, P1, P2, h1, h2, h3, p, q => by
    obtain ⟨v, r, S1, S2, rfl, k1, k2, k3, p1, p2⟩ := p
    refine ⟨v, r ++ ws, S1, fun b => S2 b ∨ P2 b, rfl, fun b hb => h1 b (k1 b hb), fun b hb => hb.elim (fun z => h1 b (k2 b z)) (h2 b), fun b hb z => z.elim (k3 b hb) (h3 b (k1 b hb)), p1, ?_⟩
    exact Reps.append (fun b => .inl) (fun b => .inr) (fun b hb z => h3 b (k2 b hb) z) p2 q
theorem Reps.append0 {ds es : List D} {vs ws : List V} (p : Reps g H F vs ds none_) (q : Reps g H F ws es none_) : Reps g H F (vs ++ ws) (ds ++ es) none_ :=
  Reps.append (fun _ z => z) (fun _ z => z) (fun _ z => z.elim) p q
theorem Reps.drop : ∀ {ds : List D} {vs : List V} {P : AS} (n : Nat), Reps g H F vs ds P → Reps g H F (vs.drop n) (ds.drop n) P
  | ds, vs, P, 0, h => h
  | [], vs, P, n + 1, h => by rw [show vs = [] from h]; rfl
  | d :: ds, vs, P, n + 1, h => by
    obtain ⟨v, r, S1, S2, rfl, k1, k2, k3, p1, p2⟩ := h
    exact (Reps.drop n p2).mono k2
theorem Reps.take : ∀ {ds : List D} {vs : List V} {P : AS} (n : Nat), Reps g H F vs ds P → Reps g H F (vs.take n) (ds.take n) P
  | ds, vs, P, 0, h => rfl
  | [], vs, P, n + 1, h => by rw [show vs = [] from h]; rfl
  | d :: ds, vs, P, n + 1, h => by
    obtain ⟨v, r, S1, S2, rfl, k1, k2, k3, p1, p2⟩ := h
    exact ⟨v, r.take n, S1, S2, rfl, k1, k2, k3, p1, Reps.take n p2⟩
theorem Reps.snoc0 {v : V} {vs : List V} {d : D} {ds : List D} (q : Reps g H F vs ds none_) (p : Rep g H F v d none_) : Reps g H F (vs ++ [v]) (ds ++ [d]) none_ := q.append0 (Reps.cons0 p rfl)
theorem Reps.reverse0 : ∀ {ds : List D} {vs : List V}, Reps g H F vs ds none_ → Reps g H F vs.reverse ds.reverse none_
  | [], vs, h => by rw [show vs = [] from h]; rfl
  | d :: ds, vs, h => by
    obtain ⟨v, r, S1, S2, rfl, k1, k2, k3, p1, p2⟩ := h
    rw [List.reverse_cons, List.reverse_cons]
    exact (Reps.reverse0 (p2.mono k2)).snoc0 (p1.mono k1)
theorem Reps.rep0 {ds : List D} {vs : List V} (h : Reps g H F vs ds none_) : ∀ n : Nat, Reps g H F (List.replicate n vs).flatten (List.replicate n ds).flatten none_
  | 0 => rfl
  | n + 1 => by
    rw [List.replicate_succ, List.replicate_succ, List.flatten_cons, List.flatten_cons]
    exact h.append0 (Reps.rep0 h n)
theorem Reps.eraseIdx : ∀ {ds : List D} {vs : List V} {P : AS} (i : Nat), Reps g H F vs ds P → Reps g H F (vs.eraseIdx i) (ds.eraseIdx i) P
  | [], vs, P, i, h => by rw [show vs = [] from h]; cases i <;> rfl
  | d :: ds, vs, P, 0, h => by
    obtain ⟨v, r, S1, S2, rfl, k1, k2, k3, p1, p2⟩ := h
    exact p2.mono k2
  | d :: ds, vs, P, i + 1, h => by
    obtain ⟨v, r, S1, S2, rfl, k1, k2, k3, p1, p2⟩ := h
    exact ⟨v, r.eraseIdx i, S1, S2, rfl, k1, k2, k3, p1, Reps.eraseIdx i p2⟩
/-- an item and the rest, apart -/
theorem Reps.split : ∀ {ds : List D} {vs : List V} {P : AS} {i : Nat} {d : D}, Reps g H F vs ds P → ds[i]? = some d →
    ∃ (v : V) (P1 P2 : AS), vs[i]? = some v ∧ (∀ b, P1 b → P b) ∧ (∀ b, P2 b → P b) ∧ (∀ b, P1 b → ¬ P2 b) ∧ Rep g H F v d P1 ∧
      ∀ {H1 : Hp} {F1 : AS} {v' : V} {d' : D} {P1' Q : AS}, (∀ b, P1' b → Q b) → (∀ b, P2 b → Q b) → (∀ b, P1' b → ¬ P2 b) → Rep g H1 F1 v' d' P1' → (∀ a o, H a = some o → (∀ xs, o = .lst xs → P2 a ∨ F a) → H1 a = some o) → (∀ a, F a → F1 a) → Reps g H1 F1 (vs.set i v') (ds.set i d') Q
  | [], _, _, _, _, _, e => by simp at e
  | d :: ds, _, P, 0, d', h, e => by
    obtain ⟨v, r, S1, S2, rfl, h1, h2, h3, p, q⟩ := h
    have e : d = d' := by simpa using e
    subst e
    exact ⟨v, S1, S2, rfl, h1, h2, h3, p, fun k1 k2 k3 p' st gr => ⟨_, r, _, S2, rfl, k1, k2, k3, p', q.stay st gr⟩⟩
  | d :: ds, _, P, i + 1, d', h, e => by
    obtain ⟨v, r, S1, S2, rfl, h1, h2, h3, p, q⟩ := h
    obtain ⟨v', P1, P2, e', k1, k2, k3, p', f⟩ := Reps.split (i := i) q (by simpa using e)
    refine ⟨v', P1, fun b => P2 b ∨ S1 b, by simpa using e', fun b hb => h2 b (k1 b hb), fun b hb => hb.elim (fun z => h2 b (k2 b z)) (h1 b), fun b hb z => z.elim (k3 b hb) fun s => h3 b s (k1 b hb), p', fun {H1 F1 w d' P1' Q} j1 j2 j3 p'' st gr => ?_⟩
    refine ⟨v, r.set i w, S1, fun b => P1' b ∨ P2 b, rfl, fun b hb => j2 b (.inr hb), fun b hb => hb.elim (j1 b) fun z => j2 b (.inl z), fun b hb z => z.elim (fun z => j3 b z (.inr hb)) fun z => h3 b hb (k2 b z), p.stay (fun a o z c => st a o z fun xs y => (c xs y).imp_left .inr) gr, ?_⟩
    exact f (fun b => .inl) (fun b => .inr) (fun b hb z => j3 b hb (.inl z)) p'' (fun a o z c => st a o z fun xs y => (c xs y).imp_left .inl) gr
end Py
end
section
/-! S2: states, readings -/
namespace Py
open L2 (V Hp HO St TE TT TS TA TG TI Ends VK XK WX SqL SqT Rd upd upd_same upd_ne PE PT PA PS PSs PG PI PW Cx)
variable {g : G} {H H0 H1 H2 H' : Hp} {F F0 F1 F2 F' : AS} {S S0 S1 S2 S' Se Se' Sv P T : AS} {σ : St} {e e' : Env} {W : WX}

/-- the slots are what the environment says; what they own lies in S, apart -/
def Ma (g : G) (H : Hp) (F : AS) (e : Env) (σ : St) (S : AS) : Prop :=
  ∃ T : Nat → AS, (∀ i d, e[i]? = some (some d) → ∃ v, σ[i]? = some (some v) ∧ Rep g H F v d (T i)) ∧ (∀ i a, T i a → S a) ∧ (∀ i j a, T i a → T j a → i = j) ∧ e.length ≤ σ.length
/-- an error's own dict -/
def ExP (g : G) (H : Hp) (F : AS) (c : Xc) (ps : List D) (dd : Option Adr) : Prop :=
  g.xc c = true ∧ ((ps = [] ∧ dd = none) ∨ ∃ x v d, c = .badtext ∧ ps = [d] ∧ dd = some x ∧ H x = some (.xd [(("line" : PySem.Str), v)]) ∧ Rep g H F v d none_)
/-- from (S0, H0, F0) on: now (H, F), the environment owns Se, P is owned besides -/
structure Cur (g : G) (σ : St) (S0 : AS) (H0 : Hp) (F0 : AS) (e : Env) (H : Hp) (F : AS) (Se P : AS) : Prop where
  aft : Aft S0 H0 F0 (fun a => Se a ∨ P a) H F
  dj : ∀ a, Se a → ¬ P a
  mt : Ma g H F e σ Se
theorem Cur.start (o : Own S H F) (m : Ma g H F e σ S) : Cur g σ S H F e H F S none_ := ⟨(Aft.refl o).weak fun a h => h.elim id False.elim, fun _ _ z => z, m⟩
theorem Cur.ownE (c : Cur g σ S0 H0 F0 e H F Se P) : Own Se H F := c.aft.ow.less fun _ => .inl
theorem Cur.ownP (c : Cur g σ S0 H0 F0 e H F Se P) : Own P H F := c.aft.ow.less fun _ => .inr
theorem Cur.less (c : Cur g σ S0 H0 F0 e H F Se P) (h : ∀ a, T a → P a) : Cur g σ S0 H0 F0 e H F Se T := ⟨c.aft.weak fun a z => z.imp_right (h a), fun a s t => c.dj a s (h a t), c.mt⟩
theorem Cur.none (c : Cur g σ S0 H0 F0 e H F Se P) : Cur g σ S0 H0 F0 e H F Se none_ := c.less fun _ z => z.elim
/-- a step from here on -/
theorem Cur.step (c : Cur g σ S0 H0 F0 e H F Se P) (c' : Cur g σ Se H F e' H' F' Se' Sv) : Cur g σ S0 H0 F0 e' H' F' Se' (fun a => P a ∨ Sv a) := by
  have f := c'.aft.frame c.ownP fun a p s => c.dj a s p
  have ap := c'.aft.apart c.ownP fun a p s => c.dj a s p
  refine ⟨(c.aft.trans f).weak fun a z => ?_, fun a s z => ?_, c'.mt⟩
  · rcases z with z | z | z
    · exact .inl (.inl z)
    · exact .inr z
    · exact .inl (.inr z)
  · rcases z with z | z
    · exact ap.2 a z (.inl s)
    · exact c'.dj a s z
theorem Cur.apart (c : Cur g σ S0 H0 F0 e H F Se P) (c' : Cur g σ Se H F e' H' F' Se' Sv) : ∀ a, P a → ¬ Sv a := fun a p z => (c'.aft.apart c.ownP fun a p s => c.dj a s p).2 a p (.inr z)
theorem Cur.kept {v : V} {d : D} (c : Cur g σ S0 H0 F0 e H F Se P) (c' : Cur g σ Se H F e' H' F' Se' Sv) (r : Rep g H F v d T) (h : ∀ a, T a → P a) : Rep g H' F' v d T := r.after c'.aft c.ownE fun a t s => c.dj a s (h a t)
theorem Cur.kepts {vs : List V} {ds : List D} (c : Cur g σ S0 H0 F0 e H F Se P) (c' : Cur g σ Se H F e' H' F' Se' Sv) (r : Reps g H F vs ds T) (h : ∀ a, T a → P a) : Reps g H' F' vs ds T := r.after c'.aft c.ownE fun a t s => c.dj a s (h a t)
theorem Cur.later (c : Cur g σ S0 H0 F0 e H F Se P) (o : Own S0 H0 F0) : Later H0 F0 H F := c.aft.later o

/-- an outcome: Ok tells of a value; an error is wished for -/
def Out {α : Type} (g : G) (W : WX) (σ : St) (S : AS) (H : Hp) (F : AS) (r : R α) (Ok : α → Env → Prop) : Prop := match r with
  | .ok a e' => Ok a e'
  | .exc c ps e' => ∀ dd H' F' S', Aft S H F S' H' F' → Ma g H' F' e' σ S' → ExP g H' F' c ps dd → W (.ref (g.ca c)) dd σ H'
  | .bad => False
theorem Out.mono {α : Type} {r : R α} {Ok Ok' : α → Env → Prop} (o : Out g W σ S H F r Ok) (h : ∀ a e', r = .ok a e' → Ok a e' → Ok' a e') : Out g W σ S H F r Ok' := by
  cases r with
  | ok a e' => exact h a e' rfl o
  | exc c ps e' => exact o
  | bad => exact o
theorem Out.bind {α β : Type} {r : R α} {f : α → M β} {Ok : β → Env → Prop} (o : Out g W σ S H F (r.bind f) Ok) : Out g W σ S H F r (fun a e' => Out g W σ S H F (f a e') Ok) := by
  cases r with
  | ok a e' => exact o
  | exc c ps e' => exact o
  | bad => exact o
theorem Out.rebase {α : Type} {r : R α} {Ok : α → Env → Prop} (o : Out g W σ S0 H0 F0 r Ok) (c : Cur g σ S0 H0 F0 e H F Se P) : Out g W σ Se H F r Ok := by
  cases r with
  | ok a e' => exact o
  | exc c' ps e' => exact fun dd H' F' S' a m x => o dd H' F' S' (c.aft.trans (a.more fun _ => .inl)) m x
  | bad => exact o

/-- readings: of a value, of a view, of a test, of values -/
def UE (g : G) (W : WX) (m : M D) : TE := fun σ H Q => ∃ e F S, Own S H F ∧ Ma g H F e σ S ∧
  Out g W σ S H F (m e) fun d e' => ∀ v H' F' Se Sv, Cur g σ S H F e' H' F' Se Sv → Rep g H' F' v d Sv → Q v H'
def UV (g : G) (W : WX) (m : M D) : TE := fun σ H Q => ∃ e F S, Own S H F ∧ Ma g H F e σ S ∧
  Out g W σ S H F (m e) fun d e' => ∀ v H' F' Se, Cur g σ S H F e' H' F' Se none_ → Rep g H' F' v d all_ → Q v H'
def UT (g : G) (W : WX) (m : M Bool) : TT := fun σ H Q => ∃ e F S, Own S H F ∧ Ma g H F e σ S ∧
  Out g W σ S H F (m e) fun b e' => ∀ H' F' Se, Cur g σ S H F e' H' F' Se none_ → Q b H'
def UL (g : G) (W : WX) (m : M (List D)) : TA := fun σ H Q => ∃ e F S, Own S H F ∧ Ma g H F e σ S ∧
  Out g W σ S H F (m e) fun ds e' => ∀ vs H' F' Se Sv, Cur g σ S H F e' H' F' Se Sv → Reps g H' F' vs ds Sv → Q vs H'
theorem Cur.ue {m : M D} {Ok : D → Env → Prop} {Q : VK} (c : Cur g σ S0 H0 F0 e H F Se P) (o : Out g W σ S0 H0 F0 (m e) Ok)
    (k : ∀ d e', m e = .ok d e' → Ok d e' → ∀ v H' F' Se' Sv, Cur g σ Se H F e' H' F' Se' Sv → Cur g σ S0 H0 F0 e' H' F' Se' (fun a => P a ∨ Sv a) → Rep g H' F' v d Sv → Q v H') : UE g W m σ H Q :=
  ⟨e, F, Se, c.ownE, c.mt, (o.rebase c).mono fun d e' z w v H' F' Se' Sv c' r => k d e' z w v H' F' Se' Sv c' (c.step c') r⟩
theorem Cur.uv {m : M D} {Ok : D → Env → Prop} {Q : VK} (c : Cur g σ S0 H0 F0 e H F Se P) (o : Out g W σ S0 H0 F0 (m e) Ok)
    (k : ∀ d e', m e = .ok d e' → Ok d e' → ∀ v H' F' Se', Cur g σ Se H F e' H' F' Se' none_ → Cur g σ S0 H0 F0 e' H' F' Se' P → Rep g H' F' v d all_ → Q v H') : UV g W m σ H Q :=
  ⟨e, F, Se, c.ownE, c.mt, (o.rebase c).mono fun d e' z w v H' F' Se' c' r => k d e' z w v H' F' Se' c' ((c.step c').less fun _ => .inl) r⟩
theorem Cur.ut {m : M Bool} {Ok : Bool → Env → Prop} {Q : Bool → Hp → Prop} (c : Cur g σ S0 H0 F0 e H F Se P) (o : Out g W σ S0 H0 F0 (m e) Ok)
    (k : ∀ d e', m e = .ok d e' → Ok d e' → ∀ H' F' Se', Cur g σ Se H F e' H' F' Se' none_ → Cur g σ S0 H0 F0 e' H' F' Se' P → Q d H') : UT g W m σ H Q :=
  ⟨e, F, Se, c.ownE, c.mt, (o.rebase c).mono fun d e' z w H' F' Se' c' => k d e' z w H' F' Se' c' ((c.step c').less fun _ => .inl)⟩
theorem Cur.ul {m : M (List D)} {Ok : List D → Env → Prop} {Q : List V → Hp → Prop} (c : Cur g σ S0 H0 F0 e H F Se P) (o : Out g W σ S0 H0 F0 (m e) Ok)
    (k : ∀ d e', m e = .ok d e' → Ok d e' → ∀ vs H' F' Se' Sv, Cur g σ Se H F e' H' F' Se' Sv → Cur g σ S0 H0 F0 e' H' F' Se' (fun a => P a ∨ Sv a) → Reps g H' F' vs d Sv → Q vs H') : UL g W m σ H Q :=
  ⟨e, F, Se, c.ownE, c.mt, (o.rebase c).mono fun d e' z w v H' F' Se' Sv c' r => k d e' z w v H' F' Se' Sv c' (c.step c') r⟩
section
variable {X : Cx} {ex : PySem.Expr}
theorem pe_weak {t t' : TE} (h : PE X ex t) (k : ∀ σ H Q, t' σ H Q → t σ H Q) : PE X ex t' := ⟨fun pins s σ H Q I w => h.run pins s σ H Q I (k σ H Q w)⟩
theorem pt_weak {t t' : TT} (h : PT X ex t) (k : ∀ σ H Q, t' σ H Q → t σ H Q) : PT X ex t' := ⟨fun pins s σ H Q I w => h.run pins s σ H Q I (k σ H Q w)⟩
theorem pw_weak {t t' : TT} (h : PW X ex t) (k : ∀ σ H Q, t' σ H Q → t σ H Q) : PW X ex t' := ⟨fun wh pins s σ H Q I w => h.run wh pins s σ H Q I (k σ H Q w)⟩
theorem pa_weak {es : List PySem.Expr} {t t' : TA} (h : PA X es t) (k : ∀ σ H Q, t' σ H Q → t σ H Q) : PA X es t' := ⟨fun pos pins s σ H Q I w => h.run pos pins s σ H Q I (k σ H Q w)⟩
theorem ps_weak {st : PySem.Stmt} {t t' : TS} (h : PS X st t) (k : ∀ D σ H, t' D σ H → t D σ H) : PS X st t' := ⟨fun pins s σ H D I w => h.run pins s σ H D I (k D σ H w)⟩
theorem pss_weak {st : List PySem.Stmt} {t t' : TS} (h : PSs X st t) (k : ∀ D σ H, t' D σ H → t D σ H) : PSs X st t' := ⟨fun pins s σ H D I w => h.run pins s σ H D I (k D σ H w)⟩
end
theorem uv_ue {m : M D} {Q : VK} (h : UV g W m σ H Q) : UE g W m σ H Q := by
  obtain ⟨e, F, S, o, mt, out⟩ := h
  exact ⟨e, F, S, o, mt, out.mono fun d e' _ k v H' F' Se Sv c r => k v H' F' Se c.none (r.mono fun _ _ => trivial)⟩
/-! ### slots -/
theorem Ma.get {i : Nat} {d : D} (m : Ma g H F e σ S) (h : e[i]? = some (some d)) : ∃ v, σ[i]? = some (some v) ∧ Rep g H F v d S := by
  obtain ⟨T, a, b, c, l⟩ := m
  obtain ⟨v, x, r⟩ := a i d h
  exact ⟨v, x, r.mono (b i)⟩
/-- a slot and the others, apart -/
theorem Ma.split {i : Nat} (m : Ma g H F e σ S) : ∃ S1 S2, (∀ a, S1 a → S a) ∧ (∀ a, S2 a → S a) ∧ (∀ a, S1 a → ¬ S2 a) ∧ Ma g H F (e.set i none) σ S2 ∧ ∀ d, e[i]? = some (some d) → ∃ v, σ[i]? = some (some v) ∧ Rep g H F v d S1 := by
  obtain ⟨T, a, b, c, l⟩ := m
  refine ⟨T i, fun x => ∃ j, j ≠ i ∧ T j x, b i, fun x ⟨j, _, z⟩ => b j x z, fun x z ⟨j, n, w⟩ => n (c _ _ _ w z), ⟨fun j => fun x => j ≠ i ∧ T j x, fun j d h => ?_, fun j x z => ⟨j, z⟩, fun j k x z w => c j k x z.2 w.2, by simpa using l⟩, fun d h => a i d h⟩
  have n : j ≠ i := by
    rintro rfl
    by_cases hl : j < e.length
    · rw [List.getElem?_set_self hl] at h; cases h
    · rw [List.getElem?_eq_none (by simpa using hl)] at h; cases h
  rw [List.getElem?_set_ne (Ne.symm n)] at h
  obtain ⟨v, x, r⟩ := a j d h
  exact ⟨v, x, r.mono fun b z => ⟨n, z⟩⟩
theorem Ma.stay (m : Ma g H F e σ S) (k : ∀ a o, H a = some o → (∀ xs, o = .lst xs → S a ∨ F a) → H1 a = some o) (f : ∀ a, F a → F1 a) : Ma g H1 F1 e σ S := by
  obtain ⟨T, a, b, c, l⟩ := m
  refine ⟨T, fun i d h => ?_, b, c, l⟩
  obtain ⟨v, x, r⟩ := a i d h
  exact ⟨v, x, r.stay (fun p o z w => k p o z fun xs y => (w xs y).imp_left (b i p)) f⟩
theorem Ma.mono (m : Ma g H F e σ S) (h : ∀ a, S a → S1 a) : Ma g H F e σ S1 := by
  obtain ⟨T, a, b, c, l⟩ := m
  exact ⟨T, a, fun i x z => h x (b i x z), c, l⟩
theorem Ma.wipe {i : Nat} (m : Ma g H F e σ S) : Ma g H F (e.set i none) σ S := by
  obtain ⟨T, a, b, c, l⟩ := m
  refine ⟨T, fun j d h => a j d ?_, b, c, by simpa using l⟩
  by_cases n : i = j
  · subst n
    by_cases hl : i < e.length
    · rw [List.getElem?_set_self hl] at h; cases h
    · rw [List.getElem?_eq_none (by simpa using hl)] at h; cases h
  · rwa [List.getElem?_set_ne n] at h
/-- a slot is filled: the environment's slot with a value that stands there -/
theorem Ma.fill {i : Nat} {d : D} {v : V} (m : Ma g H F (e.set i none) σ S1) (x : σ[i]? = some (some v)) (r : Rep g H F v d S2) (h1 : ∀ a, S1 a → S a) (h2 : ∀ a, S2 a → S a) (dj : ∀ a, S1 a → ¬ S2 a) : Ma g H F (e.set i (some d)) σ S := by
  obtain ⟨T, a, b, c, l⟩ := m
  refine ⟨fun j => if j = i then S2 else T j, fun j d' h => ?_, fun j y z => ?_, fun j k y z w => ?_, by simpa using l⟩
  · by_cases n : j = i
    · subst n
      simp only [if_true]
      by_cases hl : j < e.length
      · rw [List.getElem?_set_self hl] at h
        cases h
        exact ⟨v, x, r⟩
      · rw [List.getElem?_eq_none (by simpa using hl)] at h; cases h
    · rw [List.getElem?_set_ne (Ne.symm n)] at h
      simp only [if_neg n]
      exact a j d' (by rw [List.getElem?_set_ne (Ne.symm n)]; exact h)
  · by_cases n : j = i
    · simp only [if_pos n] at z; exact h2 y z
    · simp only [if_neg n] at z; exact h1 y (b j y z)
  · by_cases n : j = i <;> by_cases n' : k = i
    · rw [n, n']
    · simp only [if_pos n, if_neg n'] at z w
      exact (dj y (b k y w) z).elim
    · simp only [if_neg n, if_pos n'] at z w
      exact (dj y (b j y z) w).elim
    · simp only [if_neg n, if_neg n'] at z w
      exact c j k y z w
/-- a slot is stored: both sides -/
theorem Ma.store {i : Nat} {d : D} {v : V} (m : Ma g H F e σ S1) (r : Rep g H F v d S2) (h1 : ∀ a, S1 a → S a) (h2 : ∀ a, S2 a → S a) (dj : ∀ a, S1 a → ¬ S2 a) : Ma g H F (e.set i (some d)) (σ.set i (some v)) S := by
  have m' := m.wipe (i := i)
  have l0 : e.length ≤ σ.length := by obtain ⟨T, a, b, c, l⟩ := m; exact l
  obtain ⟨T, a, b, c, l⟩ := m'
  have m2 : Ma g H F (e.set i none) (σ.set i (some v)) S1 := by
    refine ⟨T, fun j d' h => ?_, b, c, by simpa using l⟩
    have n : j ≠ i := by
      rintro rfl
      by_cases hl : j < e.length
      · rw [List.getElem?_set_self hl] at h; cases h
      · rw [List.getElem?_eq_none (by simpa using hl)] at h; cases h
    obtain ⟨w, x, r⟩ := a j d' h
    exact ⟨w, by rw [List.getElem?_set_ne (Ne.symm n)]; exact x, r⟩
  by_cases hl : i < σ.length
  · exact m2.fill (by rw [List.getElem?_set_self hl]) r h1 h2 dj
  · have e1 : e.set i (some d) = e.set i none := by
      rw [List.set_eq_of_length_le (by omega), List.set_eq_of_length_le (by omega)]
    rw [e1]
    exact m2.mono h1
theorem Ma.forget {i : Nat} {o : Option V} (m : Ma g H F e σ S) : Ma g H F (e.set i none) (σ.set i o) S := by
  have m' := m.wipe (i := i)
  obtain ⟨T, a, b, c, l⟩ := m'
  refine ⟨T, fun j d' h => ?_, b, c, by simpa using l⟩
  have n : j ≠ i := by
    rintro rfl
    by_cases hl : j < e.length
    · rw [List.getElem?_set_self hl] at h; cases h
    · rw [List.getElem?_eq_none (by simpa using hl)] at h; cases h
  obtain ⟨w, x, r⟩ := a j d' h
  exact ⟨w, by rw [List.getElem?_set_ne (Ne.symm n)]; exact x, r⟩
/-! ### what a new object does -/
theorem Aft.fresh {a : Adr} {o : HO} (ow : Own S H F) (h : H a = none) (hS : ∀ b, S' b → S b ∨ b = a) : Aft S H F S' (upd H a o) F where
  keep := fun b ob e k => by
    have n : b ≠ a := by rintro rfl; rw [h] at e; cases e
    rw [upd_ne n]; exact e
  grow := fun _ z => z
  new := fun _ z => .inl z
  trk := fun b z => by
    by_cases n : b = a
    · subst n; exact h
    · rw [upd_ne n] at z; exact z
  sub := fun b z => (hS b z).imp_right fun n => by rw [n]; exact h
  own := fun b z => by
    by_cases n : b = a
    · subst n
      exact ⟨fun f => ow.f b f h, by rw [upd_same]; exact fun z => by cases z⟩
    · rcases hS b z with s | s
      · exact ⟨(ow.s b s).1, by rw [upd_ne n]; exact (ow.s b s).2⟩
      · exact absurd s n
  ftr := fun b z => by
    have n : b ≠ a := by rintro rfl; exact ow.f b z h
    rw [upd_ne n]; exact ow.f b z
/-- an owned list is written -/
theorem Aft.write {a : Adr} {xs ys : List V} (ow : Own S H F) (h : H a = some (.lst xs)) (ha : S a) : Aft S H F S (upd H a (.lst ys)) F where
  keep := fun b ob e k => by
    have n : b ≠ a := by rintro rfl; rw [h] at e; cases e; exact k xs rfl ha
    rw [upd_ne n]; exact e
  grow := fun _ z => z
  new := fun _ z => .inl z
  trk := fun b z => by
    by_cases n : b = a
    · subst n; rw [upd_same] at z; cases z
    · rw [upd_ne n] at z; exact z
  sub := fun b z => .inl z
  own := fun b z => ⟨(ow.s b z).1, by
    by_cases n : b = a
    · subst n; rw [upd_same]; exact fun z => by cases z
    · rw [upd_ne n]; exact (ow.s b z).2⟩
  ftr := fun b z => by
    by_cases n : b = a
    · subst n; rw [upd_same]; exact fun z => by cases z
    · rw [upd_ne n]; exact ow.f b z
/-- T is frozen -/
theorem Aft.freeze (ow : Own S H F) (hT : ∀ a, T a → S a) : Aft S H F (fun a => S a ∧ ¬ T a) H (fun a => F a ∨ T a) where
  keep := fun _ _ h _ => h
  grow := fun _ => .inl
  new := fun a z => z.imp_right fun t => .inl (hT a t)
  trk := fun _ h => h
  sub := fun a z => .inl z.1
  own := fun a z => ⟨fun h => h.elim (ow.s a z.1).1 z.2, (ow.s a z.1).2⟩
  ftr := fun a z => z.elim (ow.f a) fun t => (ow.s a (hT a t)).2
end Py
end
section
/-! S3a: names, constants, displays, truth -/
namespace Py
open L2 (V Hp HO St TE TT TS TA TG TI Ends VK XK WX SqL SqT Rd upd upd_same upd_ne PE PT PA PS PSs PG PI PW Cx)
variable {g : G} {H H0 H1 H2 H' : Hp} {F F0 F1 F2 F' : AS} {S S0 S1 S2 S' Se Se' Sv P T : AS} {σ : St} {e e' : Env} {W : WX}
theorem LIM_eq : PySem.sizeLine = LIM := by rw [PySem.sizeLine_eq]; rfl

/-! ### ends of readings -/
/-- a value that stands already, or a new object -/
def Fin (g : G) (H : Hp) (F : AS) (Q : VK) (d : D) : Prop := (∀ v, Rep g H F v d none_ → Q v H) ∧ ∀ p o, H p = none → Rep g (upd H p o) F (.ref p) d (fun b => b = p) → Q (.ref p) (upd H p o)
theorem Cur.fin {d : D} {Q : VK} (c : Cur g σ S0 H0 F0 e H F Se P) (k : ∀ v H' F' Se Sv, Cur g σ S0 H0 F0 e H' F' Se Sv → Rep g H' F' v d Sv → Q v H') : Fin g H F Q d := by
  refine ⟨fun v r => k v H F Se none_ c.none r, fun p o h r => k (.ref p) _ F Se (fun b => b = p) ?_ r⟩
  have a1 : Aft Se H F (fun a => Se a ∨ a = p) (upd H p o) F := Aft.fresh c.ownE h fun b z => z
  refine ⟨(c.aft.weak fun a => .inl).trans a1, fun a s z => ?_, c.mt.stay (fun a ob z k => ?_) fun _ z => z⟩
  · subst z; exact (c.ownE.s a s).2 h
  · have n : a ≠ p := by rintro rfl; rw [h] at z; cases z
    rw [upd_ne n]; exact z
/-- what was there is there behind a new object -/
theorem Rep.fresh {d : D} {v : V} {p : Adr} {o : HO} (r : Rep g H F v d T) (h : H p = none) : Rep g (upd H p o) F v d T := r.stay (fun a ob z _ => by
  have n : a ≠ p := by rintro rfl; rw [h] at z; cases z
  rw [upd_ne n]; exact z) fun _ z => z
theorem Reps.fresh {ds : List D} {vs : List V} {p : Adr} {o : HO} (r : Reps g H F vs ds T) (h : H p = none) : Reps g (upd H p o) F vs ds T := r.stay (fun a ob z _ => by
  have n : a ≠ p := by rintro rfl; rw [h] at z; cases z
  rw [upd_ne n]; exact z) fun _ z => z
theorem Fin.lst {Q : VK} {ds : List D} {vs : List V} {p : Adr} (f : Fin g H F Q (.own ds)) (h : H p = none) (r : Reps g H F vs ds none_) : Q (.ref p) (upd H p (.lst vs)) :=
  f.2 p _ h ⟨p, vs, rfl, upd_same, rfl, (r.fresh h).mono fun _ z => z.elim⟩
theorem Fin.tup {Q : VK} {ds : List D} {vs : List V} {p : Adr} (f : Fin g H F Q (.tup ds)) (h : H p = none) (r : Reps g H F vs ds none_) : Q (.ref p) (upd H p (.tup vs)) :=
  f.2 p _ h ⟨p, vs, rfl, .inl (.inl upd_same), (r.fresh h).mono fun _ z => z.elim⟩

section
variable {X : Cx}
/-! ### names -/
def Nam (X : Cx) (i : Nat) (x : PySem.Str) : Prop := X.N[i]? = some x ∧ L2.Vis X.env.scope x ∧ (x == ("__debug__" : PySem.Str)) = false ∧ (x == ("__classdict__" : PySem.Str)) = false
theorem u_var {i : Nat} {x : PySem.Str} {pos : PySem.Pos} (n : Nam X i x) : PE X (.Name x pos) (UE g W (keep i)) := by
  refine pe_weak (L2.pe_var n.1 n.2.1 n.2.2.1 n.2.2.2) fun σ H Q h => ?_
  obtain ⟨e, F, S, o, mt, out⟩ := h
  have hm : keep i e = (getSlot i e).bind (fun d => if d.plain = true then (pure d : M D) else M.bind (setSlot i d.frz) fun _ => pure d.frz) := rfl
  rw [hm] at out
  unfold getSlot at out
  cases hs : e[i]? with
  | none => rw [hs] at out; exact out.elim
  | some od =>
    cases od with
    | none => rw [hs] at out; exact out.elim
    | some d =>
      rw [hs] at out
      have out1 : Out g W σ S H F ((if d.plain = true then (pure d : M D) else M.bind (setSlot i d.frz) fun _ => pure d.frz) e) _ := out
      obtain ⟨S1, S2, h1, h2, dj, m2, k⟩ := mt.split (i := i)
      obtain ⟨v, hv, r⟩ := k d hs
      refine ⟨v, hv, ?_⟩
      by_cases hp : d.plain = true
      · rw [if_pos hp] at out1
        exact out1 v H F S none_ (Cur.start o mt) (r.plain hp)
      · rw [if_neg hp] at out1
        refine out1 v H (fun a => F a ∨ S1 a) S2 none_ ⟨(Aft.freeze o h1).weak fun a z => z.elim (fun z => ⟨h2 a z, fun w => dj a w z⟩) False.elim, fun _ _ z => z, ?_⟩ (r.freeze (fun _ => .inl) fun _ => .inr)
        exact (m2.stay (fun a ob z _ => z) fun _ => .inl).fill (S1 := S2) (S2 := none_) hv (r.freeze (fun _ => .inl) fun _ => .inr) (fun _ z => z) (fun _ z => z.elim) fun _ _ z => z
theorem u_slot {i : Nat} {x : PySem.Str} {pos : PySem.Pos} (n : Nam X i x) : PE X (.Name x pos) (UV g W (getSlot i)) := by
  refine pe_weak (L2.pe_var n.1 n.2.1 n.2.2.1 n.2.2.2) fun σ H Q h => ?_
  obtain ⟨e, F, S, o, mt, out⟩ := h
  unfold getSlot at out
  cases hs : e[i]? with
  | none => rw [hs] at out; exact out.elim
  | some od =>
    cases od with
    | none => rw [hs] at out; exact out.elim
    | some d =>
      rw [hs] at out
      obtain ⟨v, hv, r⟩ := mt.get hs
      exact ⟨v, hv, out v H F S (Cur.start o mt) (r.mono fun _ _ => trivial)⟩
/-- a constant of the module -/
def ConOk (g : G) (x : PySem.Str) (d : D) : Prop := ∃ v u, g.mg x = some u ∧ L2.RelV v u ∧ ∀ H F, Rep g H F v d none_
theorem u_pure {ex : PySem.Expr} {v : V} {d : D} (h : PE X ex (L2.tC v)) (r : ∀ H F, Rep g H F v d none_) : PE X ex (UE g W (pure d)) := by
  refine pe_weak h fun σ H Q w => ?_
  obtain ⟨e, F, S, o, mt, out⟩ := w
  exact out v H F S none_ (Cur.start o mt) (r H F)
theorem u_con {x : PySem.Str} {d : D} {pos : PySem.Pos} (hg : L2.Gl X x) (hmg : X.mg = g.mg) (c : ConOk g x d) (hd : (x == ("__debug__" : PySem.Str)) = false) : PE X (.Name x pos) (UE g W (pure d)) := by
  obtain ⟨v, u, hm, rv, r⟩ := c
  exact u_pure (L2.pe_glob hg (by rw [hmg]; exact hm) rv hd) r
def litConst : Lit → PySem.Const
  | .non => .none
  | .bl b => .bool b
  | .int i => .int i
  | .str s => .str ⟨s.toArray⟩
theorem rep_lit {l : Lit} : ∃ v, (∀ {X : Cx} {j pos}, PE X (.Constant (litConst l) j pos) (L2.tC v)) ∧ ∀ (g : G) (H : Hp) (F : AS), Rep g H F v l.d none_ := by
  cases l with
  | non => exact ⟨.non, L2.pe_non, fun _ _ _ => rfl⟩
  | bl b => exact ⟨.bl b, L2.pe_bl, fun _ _ _ => rfl⟩
  | int i => exact ⟨.int i, L2.pe_int, fun _ _ _ => rfl⟩
  | str s => exact ⟨.str ⟨s.toArray⟩, L2.pe_str, fun _ _ _ => rfl⟩
theorem u_lit {l : Lit} {j pos} : PE X (.Constant (litConst l) j pos) (UE g W (pure l.d)) := by
  obtain ⟨v, h, r⟩ := rep_lit (l := l)
  exact u_pure h (r g)
/-! ### argument lists, displays -/
theorem u_nil : PA X [] (UL g W (pure [])) := pa_weak L2.pa_nil fun σ H Q h => by
  obtain ⟨e, F, S, o, mt, out⟩ := h
  exact out [] H F S none_ (Cur.start o mt) rfl
theorem u_cons {ex : PySem.Expr} {es : List PySem.Expr} {m : M D} {ms : M (List D)} (h : PE X ex (UE g W m)) (hr : PA X es (UL g W ms)) (hs : PySem.starEach (ex :: es) X.env = (false, PySem.eval ex X.env) :: PySem.starEach es X.env) :
    PA X (ex :: es) (UL g W (do
      let d ← m
      return d :: (← ms))) := by
  refine pa_weak (L2.pa_cons h hr hs) fun σ H Q w => ?_
  obtain ⟨e, F, S, o, mt, out⟩ := w
  have c0 := Cur.start o mt
  refine c0.ue (Out.bind out) fun d e1 _ o1 v H1 F1 Se1 Sv1 c1 c1' r1 => ?_
  refine c1'.ul (Out.bind o1) fun ds e2 _ o2 vs H2 F2 Se2 Sv2 c2 c2' r2 => ?_
  refine o2 (v :: vs) H2 F2 Se2 _ c2' ?_
  have ap := c1'.apart c2
  exact Reps.cons (P1 := Sv1) (P2 := Sv2) (fun b z => .inl (.inr z)) (fun b z => .inr z) (fun b z => ap b (.inr z)) (c1'.kept c2 r1 fun a z => .inr z) r2
theorem guard_ok {b : Bool} {α : Type} {f : Unit → M α} {Ok : α → Env → Prop} (o : Out g W σ S H F ((M.guard b e).bind f) Ok) : b = true ∧ Out g W σ S H F (f () e) Ok := by
  cases b with
  | true => exact ⟨rfl, o⟩
  | false => exact o.elim
theorem of_ok {α β : Type} {x : Option α} {f : α → M β} {Ok : β → Env → Prop} (o : Out g W σ S H F ((M.of x e).bind f) Ok) : ∃ a, x = some a ∧ Out g W σ S H F (f a e) Ok := by
  cases x with
  | some a => exact ⟨a, rfl, o⟩
  | none => exact o.elim
theorem of_end {α : Type} {x : Option α} {Ok : α → Env → Prop} (o : Out g W σ S H F (M.of x e) Ok) : ∃ a, x = some a ∧ Ok a e := by
  cases x with
  | some a => exact ⟨a, rfl, o⟩
  | none => exact o.elim
theorem u_tuple {es : List PySem.Expr} {ms : M (List D)} {k pos} (h : PA X es (UL g W ms)) : PE X (.Tuple es k pos) (UE g W (do
    let ds ← ms
    M.guard (decide (ds.length ≤ LIM))
    return .tup ds)) := by
  refine pe_weak (L2.pe_tup h) fun σ H Q w => ?_
  obtain ⟨e, F, S, o, mt, out⟩ := w
  refine (Cur.start o mt).ul (Out.bind out) fun ds e1 _ o1 vs H1 F1 Se1 Sv1 c1 c1' r1 => ?_
  obtain ⟨hl, o2⟩ := guard_ok o1
  have hl : ds.length ≤ LIM := of_decide_eq_true hl
  refine ⟨by rw [r1.length, LIM_eq]; exact hl, fun p hp => ?_⟩
  have ow := c1.ownP
  have a1 : Aft (fun a => Se1 a ∨ Sv1 a) H1 F1 (fun a => Se1 a ∨ Sv1 a) (upd H1 p (.tup vs)) F1 := Aft.fresh c1.aft.ow hp fun b z => .inl z
  have ne : ∀ a ob, H1 a = some ob → upd H1 p (.tup vs) a = some ob := fun a ob z => by
    have n : a ≠ p := by rintro rfl; rw [hp] at z; cases z
    rw [upd_ne n]; exact z
  refine o2 (.ref p) _ F1 Se1 Sv1 ⟨c1.aft.trans a1, c1.dj, c1.mt.stay (fun a ob z _ => ne a ob z) fun _ z => z⟩ ⟨p, vs, rfl, .inl (.inl upd_same), r1.fresh hp⟩
theorem u_list {es : List PySem.Expr} {ms : M (List D)} {pos} (h : PA X es (UL g W ms)) : PE X (.List es pos) (UE g W (do
    let ds ← ms
    M.guard (decide (ds.length ≤ LIM))
    return .own ds)) := by
  refine pe_weak (L2.pe_lst h) fun σ H Q w => ?_
  obtain ⟨e, F, S, o, mt, out⟩ := w
  refine (Cur.start o mt).ul (Out.bind out) fun ds e1 _ o1 vs H1 F1 Se1 Sv1 c1 c1' r1 => ?_
  obtain ⟨hl, o2⟩ := guard_ok o1
  have hl : ds.length ≤ LIM := of_decide_eq_true hl
  refine ⟨by rw [r1.length, LIM_eq]; exact hl, fun p hp => ?_⟩
  have a1 : Aft (fun a => Se1 a ∨ Sv1 a) H1 F1 (fun a => Se1 a ∨ (Sv1 a ∨ a = p)) (upd H1 p (.lst vs)) F1 := Aft.fresh c1.aft.ow hp fun b z => z.elim (fun z => .inl (.inl z)) fun z => z.elim (fun z => .inl (.inr z)) .inr
  have ne : ∀ a ob, H1 a = some ob → upd H1 p (.lst vs) a = some ob := fun a ob z => by
    have n : a ≠ p := by rintro rfl; rw [hp] at z; cases z
    rw [upd_ne n]; exact z
  refine o2 (.ref p) _ F1 Se1 (fun a => Sv1 a ∨ a = p) ⟨c1.aft.trans a1, fun a s z => z.elim (c1.dj a s) fun z => ?_, c1.mt.stay (fun a ob z _ => ne a ob z) fun _ z => z⟩ ⟨p, vs, rfl, upd_same, .inr rfl, (r1.fresh hp).mono fun b z => ⟨.inl z, ?_⟩⟩
  · subst z; exact (c1.ownE.s a s).2 hp
  · rintro rfl; exact (c1.ownP.s b z).2 hp
/-! ### truth -/
theorem tru_of {d : D} {v : V} {b : Bool} (r : Rep g H F v d P) (h : d.truth = some b) : L2.TruV g.K v H b := by
  cases d with
  | non => cases (show v = .non from r); cases h; rfl
  | bl c => cases (show v = .bl c from r); cases h; rfl
  | int i => cases (show v = .int i from r); cases h; rfl
  | str s =>
    cases (show v = .str ⟨s.toArray⟩ from r)
    have h : (if s.length ≤ LIM then some (!s.isEmpty) else none) = some b := h
    by_cases hl : s.length ≤ LIM
    · rw [if_pos hl] at h
      cases h
      refine ⟨by rw [LIM_eq]; simpa [PySem.Str.length] using hl, ?_⟩
      cases s with
      | nil => simp [PySem.Str.length]
      | cons a l => simp [PySem.Str.length]; omega
    · rw [if_neg hl] at h; cases h
  | tup ds =>
    obtain ⟨a, vs, rfl, q, rs⟩ := r
    cases h
    refine .inr (.inl ⟨vs, q, ?_⟩)
    have := rs.length
    cases ds <;> cases vs <;> simp at this ⊢
  | lst ds =>
    obtain ⟨a, vs, rfl, q, _, rs⟩ := r
    cases h
    refine .inl ⟨vs, .inl (.inl q), ?_⟩
    have := rs.length
    cases ds <;> cases vs <;> simp at this ⊢
  | own ds =>
    obtain ⟨a, vs, rfl, q, s, rs⟩ := r
    cases h
    refine .inl ⟨vs, .inl (.inl q), ?_⟩
    have := rs.length
    cases ds <;> cases vs <;> simp at this ⊢
  | fn f => cases h
  | scr f => cases h
end
end Py
end
section
/-! S3b: operators -/
namespace Py
open L2 (V Hp HO St TE TT TS TA TG TI Ends VK XK WX SqL SqT Rd upd upd_same upd_ne PE PT PA PS PSs PG PI PW Cx R2 OpR)
variable {g : G} {H H0 H1 H2 H' : Hp} {F F0 F1 F2 F' : AS} {S S0 S1 S2 S' Se Se' Sv P T : AS} {σ : St} {e e' : Env} {W : WX}

/-! ### data -/
mutual
def D.py : D → PySem.PyData
  | .non => .none
  | .bl b => .bool b
  | .int i => .int i
  | .str s => .str ⟨s.toArray⟩
  | .tup ds => .tuple (D.pys ds)
  | .lst ds => .list (D.pys ds)
  | .own ds => .list (D.pys ds)
  | .fn _ => .none
  | .scr _ => .none
def D.pys : List D → List PySem.PyData
  | [] => []
  | d :: r => D.py d :: D.pys r
end
mutual
theorem Rep.dp : ∀ {d : D} {v : V} {P : AS}, d.data = true → Rep g H F v d P → L2.Dp g.K H v d.py
  | .non, _, _, _, h => by cases (show _ = V.non from h); exact .non
  | .bl b, _, _, _, h => by cases (show _ = V.bl b from h); exact .bl b
  | .int i, _, _, _, h => by cases (show _ = V.int i from h); exact .int i
  | .str s, _, _, _, h => by cases (show _ = V.str ⟨s.toArray⟩ from h); exact .str _
  | .fn f, _, _, k, h => by cases k
  | .scr f, _, _, k, h => by cases k
  | .tup ds, _, _, k, h => by
    obtain ⟨a, vs, rfl, q, r⟩ := h
    exact .tup q (Reps.dp k r)
  | .lst ds, _, _, k, h => by
    obtain ⟨a, vs, rfl, q, _, r⟩ := h
    exact .lst (.inl (.inl q)) (Reps.dp k r)
  | .own ds, _, _, k, h => by
    obtain ⟨a, vs, rfl, q, _, r⟩ := h
    exact .lst (.inl (.inl q)) (Reps.dp k r)
theorem Reps.dp : ∀ {ds : List D} {vs : List V} {P : AS}, D.datas ds = true → Reps g H F vs ds P → L2.DpAll g.K H vs (D.pys ds)
  | [], _, _, _, h => by rw [show _ = [] from h]; exact .nil
  | d :: ds, _, _, k, h => by
    obtain ⟨v, r, S1, S2, rfl, h1, h2, h3, p, q⟩ := h
    have k2 : (D.data d && D.datas ds) = true := k
    rw [Bool.and_eq_true] at k2
    exact .cons (Rep.dp k2.1 p) (Reps.dp k2.2 q)
end
mutual
theorem py_lay : ∀ d : D, d.data = true → d.py.canLay0 = true
  | .non, _ => by simp [D.py, PySem.PyData.canLay0]
  | .bl b, _ => by simp [D.py, PySem.PyData.canLay0]
  | .int i, _ => by simp [D.py, PySem.PyData.canLay0]
  | .str s, h => by
    have h : s.all (fun c => decide (c < 1114112)) = true := h
    simp only [D.py, PySem.PyData.canLay0, PySem.PyData.strOk]
    simpa using h
  | .fn f, k => by cases k
  | .scr f, k => by cases k
  | .tup ds, k => by
    simp only [D.py, PySem.PyData.canLay0]
    exact pys_lay ds k
  | .lst ds, k => by
    simp only [D.py, PySem.PyData.canLay0]
    exact pys_lay ds k
  | .own ds, k => by
    simp only [D.py, PySem.PyData.canLay0]
    exact pys_lay ds k
theorem pys_lay : ∀ ds : List D, D.datas ds = true → PySem.PyData.canLayAll0 (D.pys ds) = true
  | [], _ => by simp [D.pys, PySem.PyData.canLayAll0]
  | d :: ds, k => by
    have k2 : (D.data d && D.datas ds) = true := k
    rw [Bool.and_eq_true] at k2
    simp only [D.pys, PySem.PyData.canLayAll0, py_lay d k2.1, pys_lay ds k2.2, Bool.and_true]
end
mutual
theorem py_depth : ∀ d : D, d.py.depth = d.depth
  | .non => by simp [D.py, PySem.PyData.depth, D.depth]
  | .bl b => by simp [D.py, PySem.PyData.depth, D.depth]
  | .int i => by simp [D.py, PySem.PyData.depth, D.depth]
  | .str s => by simp [D.py, PySem.PyData.depth, D.depth]
  | .fn f => by simp [D.py, PySem.PyData.depth, D.depth]
  | .scr f => by simp [D.py, PySem.PyData.depth, D.depth]
  | .tup ds => by simp only [D.py, PySem.PyData.depth, D.depth, pys_depth ds]
  | .lst ds => by simp only [D.py, PySem.PyData.depth, D.depth, pys_depth ds]
  | .own ds => by simp only [D.py, PySem.PyData.depth, D.depth, pys_depth ds]
theorem pys_depth : ∀ ds : List D, PySem.PyData.depthAll (D.pys ds) = D.depths ds
  | [] => by simp [D.pys, PySem.PyData.depthAll, D.depths]
  | d :: ds => by simp only [D.pys, PySem.PyData.depthAll, D.depths, py_depth d, pys_depth ds]
end
mutual
theorem py_eqv : ∀ x y : D, x.data = true → y.data = true → PySem.PyData.eqv x.py y.py = D.eqv x y
  | .non, y, _, hy => by cases y <;> first | (cases hy; done) | simp [D.py, PySem.PyData.eqv, D.eqv]
  | .bl a, y, _, hy => by cases y <;> first | (cases hy; done) | simp [D.py, PySem.PyData.eqv, D.eqv]
  | .int i, y, _, hy => by cases y <;> first | (cases hy; done) | simp [D.py, PySem.PyData.eqv, D.eqv]
  | .str s, y, _, hy => by
    cases y with
    | str t =>
      simp only [D.py, PySem.PyData.eqv, D.eqv]
      by_cases h : s = t
      · subst h; simp
      · have h1 : (s == t) = false := by simpa using h
        rw [h1]
        have h2 : ¬ (⟨s.toArray⟩ : PySem.Str) = ⟨t.toArray⟩ := fun e => h (by injection e with e; simpa using congrArg Array.toList e)
        exact beq_eq_false_iff_ne.mpr h2
    | fn _ => cases hy
    | scr _ => cases hy
    | _ => simp [D.py, PySem.PyData.eqv, D.eqv]
  | .fn _, y, hx, _ => by cases hx
  | .scr _, y, hx, _ => by cases hx
  | .tup xs, y, hx, hy => by
    cases y with
    | tup ys => simp only [D.py, PySem.PyData.eqv, D.eqv]; exact pys_eqv xs ys hx hy
    | fn _ => cases hy
    | scr _ => cases hy
    | _ => simp [D.py, PySem.PyData.eqv, D.eqv]
  | .lst xs, y, hx, hy => by
    cases y with
    | lst ys => simp only [D.py, PySem.PyData.eqv, D.eqv]; exact pys_eqv xs ys hx hy
    | own ys => simp only [D.py, PySem.PyData.eqv, D.eqv]; exact pys_eqv xs ys hx hy
    | fn _ => cases hy
    | scr _ => cases hy
    | _ => simp [D.py, PySem.PyData.eqv, D.eqv]
  | .own xs, y, hx, hy => by
    cases y with
    | lst ys => simp only [D.py, PySem.PyData.eqv, D.eqv]; exact pys_eqv xs ys hx hy
    | own ys => simp only [D.py, PySem.PyData.eqv, D.eqv]; exact pys_eqv xs ys hx hy
    | fn _ => cases hy
    | scr _ => cases hy
    | _ => simp [D.py, PySem.PyData.eqv, D.eqv]
theorem pys_eqv : ∀ xs ys : List D, D.datas xs = true → D.datas ys = true → PySem.PyData.eqvAll (D.pys xs) (D.pys ys) = D.eqvs xs ys
  | [], [], _, _ => by simp [D.pys, PySem.PyData.eqvAll, D.eqvs]
  | [], y :: ys, _, _ => by simp [D.pys, PySem.PyData.eqvAll, D.eqvs]
  | x :: xs, [], _, _ => by simp [D.pys, PySem.PyData.eqvAll, D.eqvs]
  | x :: xs, y :: ys, hx, hy => by
    have k1 : (D.data x && D.datas xs) = true := hx
    have k2 : (D.data y && D.datas ys) = true := hy
    rw [Bool.and_eq_true] at k1 k2
    simp only [D.pys, PySem.PyData.eqvAll, D.eqvs, py_eqv x y k1.1 k2.1, pys_eqv xs ys k1.2 k2.2]
end
theorem py_shaped {d : D} (h : d.data = true) (k : d.depth ≤ 60) : PySem.SeqAt.shaped d.py = true := by
  unfold PySem.SeqAt.shaped
  rw [py_lay d h, py_depth]
  simp; omega
theorem pys_any (x : D) (hx : x.data = true) : ∀ ds : List D, D.datas ds = true → ((D.pys ds).any fun z => PySem.PyData.eqv z x.py) = ds.any fun d => D.eqv d x
  | [], _ => rfl
  | d :: ds, h => by
    have k1 : (D.data d && D.datas ds) = true := h
    rw [Bool.and_eq_true] at k1
    show (PySem.PyData.eqv d.py x.py || (D.pys ds).any _) = _
    rw [py_eqv d x k1.1 hx, pys_any x hx ds k1.2]; rfl

/-! ### readings of two operands -/
section
variable {X : Cx} {a b : PySem.Expr} {pos : PySem.Pos} {ma mb : M D}
/-- two values, frozen, then an operator by values -/
theorem u_two {f : D → D → Option D} {r : R2} (ha : PE X a (UE g W ma)) (hb : PE X b (UE g W mb)) {ex : PySem.Expr} (h : PE X ex (L2.tOp r (UE g W ma) (UE g W mb)))
    (k : ∀ v w H F Q x y d, Rep g H F v x none_ → Rep g H F w y none_ → f x y = some d → Fin g H F Q d → r v w H Q) : PE X ex (UE g W (do
      let x ← ma
      let y ← mb
      M.of (f x.frz y.frz))) := by
  refine pe_weak h fun σ H Q w => ?_
  obtain ⟨e, F, S, o, mt, out⟩ := w
  refine (Cur.start o mt).ue (Out.bind out) fun x e1 _ o1 v H1 F1 Se1 Sv1 c1 c1' r1 => ?_
  refine c1'.ue (Out.bind o1) fun y e2 _ o2 u H2 F2 Se2 Sv2 c2 c2' r2 => ?_
  obtain ⟨d, hd, ok⟩ := of_end o2
  have r1' := c1'.kept c2 r1 fun a z => .inr z
  have fr := Aft.freeze (T := fun a => (none_ a ∨ Sv1 a) ∨ Sv2 a) c2'.aft.ow fun a z => .inr z
  have c3 : Cur g σ S H F e2 H2 (fun a => F2 a ∨ ((none_ a ∨ Sv1 a) ∨ Sv2 a)) Se2 none_ := by
    refine ⟨(c2'.aft.trans fr).weak fun a z => z.elim (fun z => ⟨.inl z, c2'.dj a z⟩) False.elim, fun _ _ z => z, c2'.mt.stay (fun a ob z _ => z) fun _ => .inl⟩
  exact k v u H2 _ Q _ _ d (r1'.freeze (fun _ => .inl) fun a z => .inr (.inl (.inr z))) (r2.freeze (fun _ => .inl) fun a z => .inr (.inr z)) hd (c3.fin ok)
end
/-! ### + - * // % ** -/
theorem str_app (a b : List Nat) : ((⟨a.toArray⟩ : PySem.Str) ++ ⟨b.toArray⟩ : PySem.Str) = ⟨(a ++ b).toArray⟩ := by
  show PySem.Str.append _ _ = _
  unfold PySem.Str.append
  simp
theorem str_len (a : List Nat) : (⟨a.toArray⟩ : PySem.Str).length = a.length := by simp [PySem.Str.length]
def rAddX (K : PySem.W.Frag) : R2 := fun x y H Q => L2.rI0 (fun i j => .int (i + j)) x y H Q ∨ ((∃ i j, x = .str i ∧ y = .str j ∧ i.length + j.length ≤ PySem.sizeLine ∧ Q (.str (i ++ j)) H) ∨ (L2.rCatA K x y H Q ∨ L2.rCat x y H Q))
theorem op_addX {X : Cx} : OpR X (PySem.binaryOp .Add) (rAddX X.K) := L2.op_add.or (L2.op_add_str.or (L2.op_catA.or L2.op_cat))
theorem Rep.list {d : D} {ds : List D} {v : V} (h : d.list? = some ds) (r : Rep g H F v d P) : ∃ a vs, v = .ref a ∧ H a = some (.lst vs) ∧ Reps g H F vs ds P := by
  cases d with
  | lst es => cases h; obtain ⟨a, vs, e, q, _, r⟩ := r; exact ⟨a, vs, e, q, r.mono fun _ z => z.elim⟩
  | own es => cases h; obtain ⟨a, vs, e, q, _, r⟩ := r; exact ⟨a, vs, e, q, r.mono fun _ z => z.1⟩
  | _ => cases h
theorem Rep.items {d : D} {ds : List D} {v : V} (h : d.items = some ds) (r : Rep g H F v d P) : ∃ a vs, v = .ref a ∧ (SqL g.K H a vs ∨ SqT g.K H a vs) ∧ Reps g H F vs ds P := by
  cases d with
  | lst es => cases h; obtain ⟨a, vs, e, q, _, r⟩ := r; exact ⟨a, vs, e, .inl (.inl (.inl q)), r.mono fun _ z => z.elim⟩
  | own es => cases h; obtain ⟨a, vs, e, q, _, r⟩ := r; exact ⟨a, vs, e, .inl (.inl (.inl q)), r.mono fun _ z => z.1⟩
  | tup es => cases h; obtain ⟨a, vs, e, q, r⟩ := r; exact ⟨a, vs, e, .inr q, r⟩
  | _ => cases h
theorem Reps.nil_iff {vs : List V} {ds : List D} (r : Reps g H F vs ds P) : vs = [] ↔ ds = [] := by
  have := r.length
  cases vs <;> cases ds <;> simp at this ⊢
theorem add_ok {v w : V} {Q : VK} {x y d : D} (rx : Rep g H F v x none_) (ry : Rep g H F w y none_) (h : addSem x y = some d) (f : Fin g H F Q d) : rAddX g.K v w H Q := by
  have lists : ∀ xs ys : List D, x.list? = some xs → y.list? = some ys → (if xs.length + ys.length ≤ LIM then some (D.own (xs ++ ys)) else none) = some d → rAddX g.K v w H Q := fun xs ys hx hy h => by
    by_cases hl : xs.length + ys.length ≤ LIM
    · rw [if_pos hl] at h
      cases h
      obtain ⟨a, vs, rfl, ha, ra⟩ := rx.list hx
      obtain ⟨b, ws, rfl, hb, rb⟩ := ry.list hy
      refine .inr (.inr (.inr ⟨a, b, vs, ws, rfl, rfl, ha, hb, by rw [ra.length, rb.length, LIM_eq]; exact hl, fun p hp => f.lst hp (ra.append0 rb)⟩))
    · rw [if_neg hl] at h; cases h
  cases x with
  | int i =>
    cases y with
    | int j =>
      cases h
      cases (show v = .int i from rx); cases (show w = .int j from ry)
      exact .inl ⟨i, j, rfl, rfl, f.1 (.int (i + j)) (show Rep g H F (.int (i + j)) (.int (i + j)) none_ from rfl)⟩
    | _ => cases h
  | str s =>
    cases y with
    | str t =>
      have h : (if s.length + t.length ≤ LIM then some (D.str (s ++ t)) else none) = some d := h
      by_cases hl : s.length + t.length ≤ LIM
      · rw [if_pos hl] at h
        cases h
        cases (show v = .str ⟨s.toArray⟩ from rx); cases (show w = .str ⟨t.toArray⟩ from ry)
        exact .inr (.inl ⟨_, _, rfl, rfl, by rw [str_len, str_len, LIM_eq]; exact hl, by rw [str_app]; exact f.1 _ rfl⟩)
      · rw [if_neg hl] at h; cases h
    | _ => cases h
  | tup xs =>
    cases y with
    | tup ys =>
      have h : (if xs.length + ys.length ≤ LIM then some (D.tup (xs ++ ys)) else none) = some d := h
      by_cases hl : xs.length + ys.length ≤ LIM
      · rw [if_pos hl] at h
        cases h
        obtain ⟨a, vs, rfl, ha, ra⟩ := rx
        obtain ⟨b, ws, rfl, hb, rb⟩ := ry
        refine .inr (.inr (.inl ⟨a, b, vs, ws, rfl, rfl, ha, hb, by rw [ra.length, rb.length, LIM_eq]; exact hl, fun z => ?_, fun z z2 => ?_, fun _ _ p hp => f.tup hp (ra.append0 rb)⟩))
        · have e := ra.nil_iff.mp z
          subst e
          exact f.1 (.ref b) ⟨b, ws, rfl, hb, rb⟩
        · have e := rb.nil_iff.mp z2
          subst e
          rw [List.append_nil] at f
          exact f.1 (.ref a) ⟨a, vs, rfl, ha, ra⟩
      · rw [if_neg hl] at h; cases h
    | _ => cases h
  | lst xs =>
    cases y with
    | lst ys => exact lists xs ys rfl rfl h
    | own ys => exact lists xs ys rfl rfl h
    | _ => cases h
  | own xs =>
    cases y with
    | lst ys => exact lists xs ys rfl rfl h
    | own ys => exact lists xs ys rfl rfl h
    | _ => cases h
  | _ => cases y <;> cases h
/-! #### * -/
theorem bits_of {i : Int} (h : i.natAbs < BIG) : PySem.Builtin.Int.intBits i ≤ 2 ^ 20 := by
  unfold PySem.Builtin.Int.intBits
  split
  · exact Nat.zero_le _
  · have h2 : i.natAbs < 2 ^ 1048576 := h
    have := PySem.Flt.log2_lt_of (k := 1048576) (by decide) h2
    omega
def CMulX (i j : Int) : Prop := mulB i j = true
theorem bits_64 {i : Int} (h : i.natAbs < 2 ^ 64) : PySem.Builtin.Int.intBits i ≤ 64 := PySem.intBits_le_64 (by omega) (by omega)
theorem cmul_ok {i j : Int} (h : CMulX i j) : PySem.IntMulOk i j := by
  unfold CMulX mulB at h
  simp only [Bool.or_eq_true, Bool.and_eq_true, decide_eq_true_eq] at h
  rcases h with h | h | h
  · exact .of_left (bits_64 h)
  · exact .of_right (bits_64 h)
  · exact .of_bits (bits_of h.1) (bits_of h.2)
theorem op_mulX {X : Cx} : OpR X (PySem.binaryOp .Mult) (L2.rI CMulX fun i j => .int (i * j)) := L2.opI fun _ _ _ _ _ _ _ hc q => PyProof.Rows.mul_int q (cmul_ok hc)
end Py
end
section
set_option maxHeartbeats 4000000
/-! S3c: * of tuples, texts; the rest of the operators -/
namespace L2
open PySem PySem.Spec PyProof.Rows
theorem tuple_mulS (l : Addr) (items : Array Value) (n : Nat) (sl : Array (Option Value)) (dd : Option Addr) (x : Int) (u : Tok) (c0 : (decide (x < -(2 ^ 63)) || decide (x ≥ 2 ^ 63)) = false) (c1 : (items.isEmpty || x == 1) = true) :
    Meets (Builtin.«tuple.__mul__» ⟨[.ref l, .int x u], []⟩) (fun _ R s => s.heap.get? l = some { cls := .type "tuple", dict := dd, data := .seq items n, slots := sl } ∧
      R (.ok (.ret (Value.ref l))) s) :=
  .of_wp fun prog w A R s h => by
    obtain ⟨hp, g, d, tk, os⟩ := s
    obtain ⟨hl, h⟩ := h
    have f1 := AutoSeq1.idx_int
    wp_walk using wpAny_loadPart' hl
    repeat (first
      | (refine wpAny_ite_false (decide_eq_false (by rw [c0]; exact Bool.false_ne_true)) ?_; wp_walk using wpAny_loadPart' hl)
      | (refine wpAny_ite_true (decide_eq_true (by rw [c1])) ?_; wp_walk using wpAny_loadPart' hl))
    exact ⟨_, rfl, h⟩
theorem tuple_mulZ (l : Addr) (items : Array Value) (n : Nat) (sl : Array (Option Value)) (dd : Option Addr) (x : Int) (u : Tok) (c0 : (decide (x < -(2 ^ 63)) || decide (x ≥ 2 ^ 63)) = false) (c1 : (items.isEmpty || x == 1) = false) (c2 : (decide (x ≤ 0) || items.isEmpty) = true) :
    Meets (Builtin.«tuple.__mul__» ⟨[.ref l, .int x u], []⟩) (fun _ R s => s.heap.get? l = some { cls := .type "tuple", dict := dd, data := .seq items n, slots := sl } ∧
      R (.ok (.ret (Value.ref s.heap.objs.size))) { s with heap := s.heap.push { cls := Value.type "tuple", data := Data.seq #[] }, toks := s.toks }) :=
  .of_wp fun prog w A R s h => by
    obtain ⟨hp, g, d, tk, os⟩ := s
    obtain ⟨hl, h⟩ := h
    have f1 := AutoSeq1.idx_int
    have h0 : ¬ (#[] : Array Value).size > sizeLine := by simp
    wp_walk using wpAny_loadPart' hl
    repeat (first
      | (refine wpAny_ite_false (decide_eq_false (by rw [c0]; exact Bool.false_ne_true)) ?_; wp_walk using wpAny_loadPart' hl)
      | (refine wpAny_ite_false (decide_eq_false (by rw [c1]; exact Bool.false_ne_true)) ?_; wp_walk using wpAny_loadPart' hl)
      | (refine wpAny_ite_true (decide_eq_true (by rw [c2])) ?_; wp_walk using wpAny_loadPart' hl)
      | (refine wpAny_ite_false (decide_eq_false h0) ?_; wp_walk using wpAny_loadPart' hl))
    exact ⟨_, rfl, h⟩

section
variable {X : Cx}
/-- a tuple times an int -/
def rRepA (K : PySem.W.Frag) : R2 := fun x y H Q => ∃ l k xs, x = .ref l ∧ y = .int k ∧ SqT K H l xs ∧ -(2 ^ 62) ≤ k ∧ k ≤ 16777216 ∧ xs.length * k.toNat ≤ 16777216 ∧
  ((xs = [] ∨ k = 1) → Q (.ref l) H) ∧ (¬ (xs = [] ∨ k = 1) → ∀ p, H p = none → Q (.ref p) (upd H p (.tup (List.replicate k.toNat xs).flatten)))
theorem op_repA : OpR X (binaryOp .Mult) (rRepA X.K) := by
  intro pins s σ H x y v u Q I rx ry h
  obtain ⟨l, k, xs, rfl, rfl, hT, h1, h2, hz, q1, q2⟩ := h
  cases rx
  obtain ⟨t, rfl⟩ := ry
  obtain ⟨its, r, ⟨⟨cls, dd, data, sl⟩, ho, hc, n, hd⟩, hs⟩ := I.tuple hT
  simp only at hc hd
  subst hc hd
  have hle : its.length = xs.length := r.length.symm
  have hsz0 : its.toArray.size = xs.length := by rw [List.size_toArray, hle]
  have hemp : its.toArray.isEmpty = xs.isEmpty := by
    cases its <;> cases xs <;> simp at hle ⊢
  have c0 : (decide (k < -(2 ^ 63)) || decide (k ≥ 2 ^ 63)) = false := by
    rw [decide_eq_false (by omega), decide_eq_false (by omega)] <;> rfl
  have road : ∀ {R : Result → Shared → Prop}, codeAny (model X.prog X.w) (X.A.under (.call (.builtin "tuple.__mul__") ⟨[.ref l, .int k t], []⟩)) (.call (.builtin "tuple.__mul__") ⟨[.ref l, .int k t], []⟩) R s → True := fun _ => trivial
  by_cases hc1 : xs = [] ∨ k = 1
  · have c1 : (its.toArray.isEmpty || k == 1) = true := by
      rw [hemp]
      rcases hc1 with e | e
      · rw [e]; rfl
      · rw [e]; simp
    refine wpAny_binaryOp_repeat_ref (T := "tuple") (U := "int") (by decide) ⟨_, ho, rfl⟩ (fun s' => typeIs_int s' k t) noFill_tuple_mul F.fills_int_mul F.slot_int_rmul repeat_tuple F.slot_int_index.lookup
      (call_meets F.slot_int_rmul (typeIs_int s k t) F.entry_int_rmul (F.args_int_rmul_2 _ _) (int_rmul_tuple k t l its.toArray n dd sl)
        ⟨ho, rfl, ⟨_, ho, rfl⟩, call_meets F.slot_tuple_mul ⟨_, ho, rfl⟩ F.entry_tuple_mul (F.args_tuple_mul_2 _ _) (tuple_mulS l its.toArray n sl dd k t c0 c1) ⟨ho, ?_⟩⟩)
    exact ⟨.ref l, H, I, rfl, q1 hc1⟩
  · have hne : xs ≠ [] := fun e => hc1 (.inl e)
    have hk1 : k ≠ 1 := fun e => hc1 (.inr e)
    have hi : its.toArray.isEmpty = false := by rw [hemp]; cases xs <;> simp at hne ⊢
    have c1 : (its.toArray.isEmpty || k == 1) = false := by
      rw [hi, Bool.false_or]
      exact beq_eq_false_iff_ne.mpr hk1
    by_cases hk : k ≤ 0
    · have c2 : (decide (k ≤ 0) || its.toArray.isEmpty) = true := by rw [decide_eq_true hk]; rfl
      refine wpAny_binaryOp_repeat_ref (T := "tuple") (U := "int") (by decide) ⟨_, ho, rfl⟩ (fun s' => typeIs_int s' k t) noFill_tuple_mul F.fills_int_mul F.slot_int_rmul repeat_tuple F.slot_int_index.lookup
        (call_meets F.slot_int_rmul (typeIs_int s k t) F.entry_int_rmul (F.args_int_rmul_2 _ _) (int_rmul_tuple k t l its.toArray n dd sl)
          ⟨ho, rfl, ⟨_, ho, rfl⟩, call_meets F.slot_tuple_mul ⟨_, ho, rfl⟩ F.entry_tuple_mul (F.args_tuple_mul_2 _ _) (tuple_mulZ l its.toArray n sl dd k t c0 c1 c2) ⟨ho, ?_⟩⟩)
      have e0 : (List.replicate k.toNat xs).flatten = [] := by rw [show k.toNat = 0 by omega]; rfl
      refine ⟨.ref s.heap.objs.size, _, I.laid (t' := s.toks) (o := .tup (List.replicate k.toNat xs).flatten) (fun b ob q => Heap.get?_push_of_some _ q) (Nat.le_refl _) ?_, rfl, q2 hc1 _ (I.hok.fresh (Nat.le_refl _))⟩
      rw [e0]
      exact ⟨by simp, [], .nil, IsTup.new _ _⟩
    · have flen : (List.replicate k.toNat its).flatten.length ≤ sizeLine := by
        rw [PyProof.Rows.lm_len_rep_flat, hle, sizeLine_eq, Nat.mul_comm]
        exact hz
      have hm : ((its.toArray.size : Nat) : Int) * k ≤ 16777216 := by
        have e1 : ((its.toArray.size : Nat) : Int) * k = ((xs.length * k.toNat : Nat) : Int) := by
          rw [hsz0, Int.natCast_mul, Int.toNat_of_nonneg (by omega)]
        rw [e1]
        omega
      have c2 : (decide (k ≤ 0) || its.toArray.isEmpty) = false := by
        rw [hi, Bool.or_false]
        exact decide_eq_false hk
      have c4 : Builtin.Tuple.tupleTooMany (((its.toArray.size : Nat) : Int) * k) = false := by
        unfold Builtin.Tuple.tupleTooMany
        rw [sizeLine_eq]
        exact decide_eq_false (by omega)
      refine wpAny_binaryOp_repeat_ref (T := "tuple") (U := "int") (by decide) ⟨_, ho, rfl⟩ (fun s' => typeIs_int s' k t) noFill_tuple_mul F.fills_int_mul F.slot_int_rmul repeat_tuple F.slot_int_index.lookup
        (call_meets F.slot_int_rmul (typeIs_int s k t) F.entry_int_rmul (F.args_int_rmul_2 _ _) (int_rmul_tuple k t l its.toArray n dd sl)
          ⟨ho, rfl, ⟨_, ho, rfl⟩, call_meets F.slot_tuple_mul ⟨_, ho, rfl⟩ F.entry_tuple_mul (F.args_tuple_mul_2 _ _) (tuple_mulW l its.toArray n dd sl k t c0 c1 c2 (by omega) c4 (by rw [size_rep, List.size_toArray]; exact flen)) ⟨ho, ?_⟩⟩)
      rw [size_rep]
      refine ⟨.ref s.heap.objs.size, _, I.laid (t' := s.toks) (o := .tup (List.replicate k.toNat xs).flatten) (fun b ob q => Heap.get?_push_of_some _ q) (Nat.le_refl _) ?_, rfl, q2 hc1 _ (I.hok.fresh (Nat.le_refl _))⟩
      exact ⟨by rw [PyProof.Rows.lm_len_rep_flat, sizeLine_eq, Nat.mul_comm]; exact hz, _, r.rep k.toNat, IsTup.new _ _⟩
/-- a text times an int -/
def rRepS : R2 := fun x y H Q => ∃ z k, x = .str z ∧ y = .int k ∧ -(2 ^ 62) ≤ k ∧ k ≤ 16777216 ∧ z.length * k.toNat ≤ 16777216 ∧ Q (.str ⟨(List.replicate k.toNat z.cps.toList).flatten.toArray⟩) H
theorem op_repS : OpR X (binaryOp .Mult) rRepS := by
  intro pins s σ H x y v u Q I rx ry h
  obtain ⟨z, k, rfl, rfl, h1, h2, hz, q⟩ := h
  obtain ⟨t, rfl⟩ := rx
  obtain ⟨t', rfl⟩ := ry
  refine SB.mul (n := k) ⟨?_, fun a b => ?_, fun a b => ?_⟩ fun t2 k2 => ?_
  · rw [decide_eq_false (by omega), decide_eq_false (by omega)] <;> rfl
  · have hk : 1 ≤ k := by omega
    have h3 : (z.length : Int) * k ≤ 16777216 := by
      have e1 : (z.length : Int) * k = ((z.length * k.toNat : Nat) : Int) := by
        rw [Int.natCast_mul, Int.toNat_of_nonneg (by omega)]
      rw [e1]
      omega
    have h4 : (z.length : Int) ≤ 16777216 := by
      have : (z.length : Int) * 1 ≤ (z.length : Int) * k := Int.mul_le_mul_of_nonneg_left hk (by omega)
      omega
    have h5 : (16777216 : Int) ≤ (2 ^ 63 - 1) / k := by
      refine (Int.le_ediv_iff_mul_le (by omega)).mpr ?_
      have : (16777216 : Int) * k ≤ 16777216 * 16777216 := Int.mul_le_mul_of_nonneg_left h2 (by decide)
      omega
    omega
  · unfold Builtin.Str.tooLong
    rw [sizeLine_eq]
    exact decide_eq_false (by omega)
  · have e : Txt.mul z k = ⟨(List.replicate k.toNat z.cps.toList).flatten.toArray⟩ := by
      have f0 : ∀ m : Nat, List.foldl (fun x1 x2 => x1 ++ x2) #[] (List.replicate m z.cps) = (List.replicate m z.cps.toList).flatten.toArray := fun m => by
        have key : ∀ (m : Nat) (acc : Array Nat), List.foldl (fun x1 x2 => x1 ++ x2) acc (List.replicate m z.cps) = acc ++ (List.replicate m z.cps.toList).flatten.toArray := by
          intro m
          induction m with
          | zero => intro acc; simp
          | succ m ih =>
            intro acc
            rw [List.replicate_succ, List.foldl_cons, ih, List.replicate_succ, List.flatten_cons]
            apply Array.ext'
            simp
        rw [key]; simp
      unfold Txt.mul
      by_cases a : k < 1
      · rw [if_pos a, show k.toNat = 0 by omega]
        rfl
      · rw [if_neg a]
        by_cases b : (k == 1 || z.length == 0) = true
        · rw [if_pos b]
          rw [Bool.or_eq_true] at b
          rcases b with b | b
          · have b : k = 1 := by simpa using b
            rw [b]
            obtain ⟨c⟩ := z
            simp
          · have b : z.length = 0 := by simpa using b
            obtain ⟨c⟩ := z
            have e : c = #[] := Array.eq_empty_of_size_eq_zero b
            subst e
            simp
        · rw [if_neg b, ← f0]
    rw [e]
    exact ⟨.str _, H, I.tok _, ⟨_, rfl⟩, q⟩
end
end L2
end
section
/-! S3d: operators, tests, comparisons -/
namespace Py
open L2 (V Hp HO St TE TT TS TA TG TI Ends VK XK WX SqL SqT Rd upd upd_same upd_ne PE PT PA PS PSs PG PI PW Cx R2 OpR)
variable {g : G} {H H0 H1 H2 H' : Hp} {F F0 F1 F2 F' : AS} {S S0 S1 S2 S' Se Se' Sv P T : AS} {σ : St} {e e' : Env} {W : WX}
def bopOf : Bop → PySem.Operator
  | .add => .Add
  | .sub => .Sub
  | .mul => .Mult
  | .fdiv => .FloorDiv
  | .mod => .Mod
  | .pow => .Pow
def rMulX (K : PySem.W.Frag) : R2 := fun x y H Q => L2.rI CMulX (fun i j => .int (i * j)) x y H Q ∨ (L2.rRepS x y H Q ∨ (L2.rRepA K x y H Q ∨ L2.rRep x y H Q))
def CDivX (_ j : Int) : Prop := j ≠ 0 ∧ j.natAbs < BIGD
theorem op_fdivX {X : Cx} : OpR X (PySem.binaryOp .FloorDiv) (L2.rI CDivX fun i j => .int (i.fdiv j)) := L2.opI fun _ j _ _ _ _ _ hc q =>
  PyProof.Rows.floordiv_int hc.1 q (.inl (PyProof.noPylong_of_log2 (PySem.Flt.log2_lt_of (k := 9000) (by omega) (show j.natAbs < 2 ^ 9000 from hc.2))))
def rBin (K : PySem.W.Frag) : Bop → R2
  | .add => rAddX K
  | .sub => L2.rI0 fun i j => .int (i - j)
  | .mul => rMulX K
  | .fdiv => L2.rI CDivX fun i j => .int (i.fdiv j)
  | .mod => L2.rI (fun _ j => j ≠ 0) fun i j => .int (i.fmod j)
  | .pow => L2.rI L2.CPow fun i j => .int (i ^ j.toNat)
theorem op_bin {X : Cx} : ∀ o : Bop, OpR X (PySem.binaryOp (bopOf o)) (rBin X.K o)
  | .add => op_addX
  | .sub => L2.op_sub
  | .mul => op_mulX.or (L2.op_repS.or (L2.op_repA.or L2.op_rep))
  | .fdiv => op_fdivX
  | .mod => L2.op_modN
  | .pow => L2.op_pow
theorem rep_len {xs : List D} (k : Int) {ys : List D} (h : repSem xs k = some ys) : ys = (List.replicate k.toNat xs).flatten ∧ xs.length ≤ LIM ∧ k ≤ LIM ∧ -(2 ^ 62) ≤ k ∧ xs.length * k.toNat ≤ LIM := by
  unfold repSem at h
  split at h
  · rename_i c; cases h; exact ⟨rfl, c⟩
  · cases h
theorem mul_ok {v w : V} {Q : VK} {x y d : D} (rx : Rep g H F v x none_) (ry : Rep g H F w y none_) (h : mulSem x y = some d) (f : Fin g H F Q d) : rMulX g.K v w H Q := by
  cases y with
  | int k =>
    cases (show w = .int k from ry)
    cases x with
    | int i =>
      cases (show v = .int i from rx)
      have h : (if mulB i k = true then some (D.int (i * k)) else none) = some d := h
      split at h
      · rename_i c
        cases h
        exact .inl ⟨i, k, rfl, rfl, c, f.1 (.int (i * k)) (show Rep g H F (.int (i * k)) (.int (i * k)) none_ from rfl)⟩
      · cases h
    | str s =>
      cases (show v = .str ⟨s.toArray⟩ from rx)
      have h : (if s.length ≤ LIM ∧ k ≤ LIM ∧ -(2 ^ 62) ≤ k ∧ s.length * k.toNat ≤ LIM then some (D.str (List.replicate k.toNat s).flatten) else none) = some d := h
      split at h
      · rename_i c
        cases h
        exact .inr (.inl ⟨_, k, rfl, rfl, c.2.2.1, c.2.1, by rw [str_len]; exact c.2.2.2, f.1 _ rfl⟩)
      · cases h
    | tup a =>
      have h : (repSem a k).map D.tup = some d := h
      obtain ⟨ys, h1, h2⟩ := Option.map_eq_some_iff.mp h
      obtain ⟨rfl, c⟩ := rep_len k h1
      cases h2
      obtain ⟨p, vs, rfl, q, r⟩ := rx
      refine .inr (.inr (.inl ⟨p, k, vs, rfl, rfl, q, c.2.2.1, c.2.1, by rw [r.length]; exact c.2.2.2, fun z => ?_, fun _ p hp => f.tup hp (r.rep0 k.toNat)⟩))
      have e : (List.replicate k.toNat a).flatten = a := by
        rcases z with z | z
        · rw [r.nil_iff.mp z]; induction k.toNat with
          | zero => rfl
          | succ n ih => rw [List.replicate_succ, List.flatten_cons, ih]; rfl
        · rw [z]; simp
      rw [e] at f
      exact f.1 (.ref p) ⟨p, vs, rfl, q, r⟩
    | lst a =>
      have h : (repSem a k).map D.own = some d := h
      obtain ⟨ys, h1, h2⟩ := Option.map_eq_some_iff.mp h
      obtain ⟨rfl, c⟩ := rep_len k h1
      cases h2
      obtain ⟨p, vs, rfl, q, _, r⟩ := rx
      refine .inr (.inr (.inr ⟨p, k, vs, rfl, rfl, q, by omega, by have : (LIM : Int) = 16777216 := rfl; omega, by rw [r.length, LIM_eq]; exact c.2.2.2, fun p hp => f.lst hp (r.rep0 k.toNat)⟩))
    | own a =>
      obtain ⟨p, vs, rfl, q, s, r⟩ := rx
      exact s.elim
    | _ => cases h
  | _ => cases x <;> cases h
theorem bin_ok {v w : V} {Q : VK} {x y d : D} : ∀ o : Bop, Rep g H F v x none_ → Rep g H F w y none_ → binSem o x y = some d → Fin g H F Q d → rBin g.K o v w H Q
  | .add, rx, ry, h, f => add_ok rx ry h f
  | .mul, rx, ry, h, f => mul_ok rx ry h f
  | .sub, rx, ry, h, f => by
    cases x <;> cases y <;> first | (cases h; done) | skip
    rename_i i j
    cases (show v = .int i from rx); cases (show w = .int j from ry)
    cases h
    exact ⟨i, j, rfl, rfl, f.1 (.int (i - j)) (show Rep g H F (.int (i - j)) (.int (i - j)) none_ from rfl)⟩
  | .fdiv, rx, ry, h, f => by
    cases x <;> cases y <;> first | (cases h; done) | skip
    rename_i i j
    cases (show v = .int i from rx); cases (show w = .int j from ry)
    have h : (if j ≠ 0 ∧ j.natAbs < BIGD then some (D.int (i.fdiv j)) else none) = some d := h
    split at h
    · rename_i c
      cases h
      exact ⟨i, j, rfl, rfl, c, f.1 (.int (i.fdiv j)) (show Rep g H F (.int (i.fdiv j)) (.int (i.fdiv j)) none_ from rfl)⟩
    · cases h
  | .mod, rx, ry, h, f => by
    cases x <;> cases y <;> first | (cases h; done) | skip
    rename_i i j
    cases (show v = .int i from rx); cases (show w = .int j from ry)
    have h : (if j ≠ 0 then some (D.int (i.fmod j)) else none) = some d := h
    split at h
    · rename_i c
      cases h
      exact ⟨i, j, rfl, rfl, c, f.1 (.int (i.fmod j)) (show Rep g H F (.int (i.fmod j)) (.int (i.fmod j)) none_ from rfl)⟩
    · cases h
  | .pow, rx, ry, h, f => by
    cases x <;> cases y <;> first | (cases h; done) | skip
    rename_i i j
    cases (show v = .int i from rx); cases (show w = .int j from ry)
    have h : (if 0 ≤ j ∧ j ≤ 1000000 ∧ i.natAbs < 2 ^ 64 then some (D.int (i ^ j.toNat)) else none) = some d := h
    split at h
    · rename_i c
      cases h
      exact ⟨i, j, rfl, rfl, c, f.1 (.int (i ^ j.toNat)) (show Rep g H F (.int (i ^ j.toNat)) (.int (i ^ j.toNat)) none_ from rfl)⟩
    · cases h
section
variable {X : Cx} {a b c : PySem.Expr} {pos : PySem.Pos} {ma mb mc : M D} {ta tb : M Bool}
theorem u_bin (hK : X.K = g.K) (o : Bop) (ha : PE X a (UE g W ma)) (hb : PE X b (UE g W mb)) : PE X (.BinOp a (bopOf o) b pos) (UE g W (do
      let x ← ma
      let y ← mb
      M.of (binSem o x.frz y.frz))) :=
  u_two ha hb (L2.pe_op (r := rBin g.K o) (by rw [← hK]; exact op_bin o) ha hb) fun v w H F Q x y d rx ry h f => bin_ok o rx ry h f
theorem asInt_ok {α : Type} {d : D} {f : Int → M α} {Ok : α → Env → Prop} (o : Out g W σ S H F ((asInt d e).bind f) Ok) : ∃ i, d = .int i ∧ Out g W σ S H F (f i e) Ok := by
  cases d <;> first | exact ⟨_, rfl, o⟩ | exact o.elim
theorem asInt_end {d : D} {Ok : Int → Env → Prop} (o : Out g W σ S H F (asInt d e) Ok) : ∃ i, d = .int i ∧ Ok i e := by
  cases d <;> first | exact ⟨_, rfl, o⟩ | exact o.elim
theorem u_neg (ha : PE X a (UE g W ma)) : PE X (.UnaryOp .USub a pos) (UE g W (do
    let i ← asInt (← ma)
    return .int (-i))) := by
  refine pe_weak (L2.pe_un L2.un_neg ha) fun σ H Q w => ?_
  obtain ⟨e, F, S, o, mt, out⟩ := w
  refine (Cur.start o mt).ue (Out.bind out) fun x e1 _ o1 v H1 F1 Se1 Sv1 c1 c1' r1 => ?_
  obtain ⟨i, rfl, o2⟩ := asInt_ok o1
  cases (show v = .int i from r1)
  exact ⟨i, rfl, o2 (.int (-i)) H1 F1 Se1 none_ c1'.none rfl⟩
/-! ### tests -/
/-- a test as a value -/
theorem ut_bool {m : M Bool} {Q : VK} (h : UE g W (do return .bl (← m)) σ H Q) : UT g W m σ H fun b H1 => Q (.bl b) H1 := by
  obtain ⟨e, F, S, o, mt, out⟩ := h
  refine ⟨e, F, S, o, mt, (Out.bind out).mono fun b e' _ o1 H' F' Se c => ?_⟩
  exact o1 (.bl b) H' F' Se none_ c rfl
theorem u_notT (ha : PT X a (UT g W ta)) : PT X (.UnaryOp .Not a pos) (UT g W (do return !(← ta))) := by
  refine pt_weak (L2.pt_not ha) fun σ H Q w => ?_
  obtain ⟨e, F, S, o, mt, out⟩ := w
  exact ⟨e, F, S, o, mt, (Out.bind out).mono fun b e' _ o1 H' F' Se c => o1 H' F' Se c⟩
theorem u_not (hK : X.K = g.K) (ha : PE X a (UE g W ma)) : PE X (.UnaryOp .Not a pos) (UE g W (do
    let x ← ma
    let b ← M.of x.truth
    return .bl (!b))) := by
  refine pe_weak (L2.pe_notT ha) fun σ H Q w => ?_
  obtain ⟨e, F, S, o, mt, out⟩ := w
  refine (Cur.start o mt).ue (Out.bind out) fun x e1 _ o1 v H1 F1 Se1 Sv1 c1 c1' r1 => ?_
  obtain ⟨b, hb, o2⟩ := of_ok o1
  exact ⟨b, by rw [hK]; exact tru_of r1 hb, o2 (.bl (!b)) H1 F1 Se1 none_ c1'.none rfl⟩
theorem u_and (hK : X.K = g.K) {rest : List PySem.Expr} (ha : PE X a (UE g W ma)) (hb : PE X (.BoolOp .And (b :: rest) pos) (UE g W mb)) : PE X (.BoolOp .And (a :: b :: rest) pos) (UE g W (do
    let x ← ma
    if ← M.of x.truth then mb else return x)) := by
  refine pe_weak (L2.pe_andT ha hb) fun σ H Q w => ?_
  obtain ⟨e, F, S, o, mt, out⟩ := w
  refine (Cur.start o mt).ue (Out.bind out) fun x e1 _ o1 v H1 F1 Se1 Sv1 c1 c1' r1 => ?_
  obtain ⟨k, hk, o2⟩ := of_ok o1
  refine ⟨k, by rw [hK]; exact tru_of r1 hk, ?_⟩
  cases k with
  | true =>
    rw [if_pos rfl] at o2 ⊢
    exact c1'.ue o2 fun y e2 _ ok w H2 F2 Se2 Sv2 c2 c2' r2 => ok w H2 F2 Se2 Sv2 (c2'.less fun _ => .inr) r2
  | false =>
    rw [if_neg Bool.false_ne_true] at o2 ⊢
    exact o2 v H1 F1 Se1 Sv1 c1 r1
theorem u_or (hK : X.K = g.K) {rest : List PySem.Expr} (ha : PE X a (UE g W ma)) (hb : PE X (.BoolOp .Or (b :: rest) pos) (UE g W mb)) : PE X (.BoolOp .Or (a :: b :: rest) pos) (UE g W (do
    let x ← ma
    if ← M.of x.truth then return x else mb)) := by
  refine pe_weak (L2.pe_orT ha hb) fun σ H Q w => ?_
  obtain ⟨e, F, S, o, mt, out⟩ := w
  refine (Cur.start o mt).ue (Out.bind out) fun x e1 _ o1 v H1 F1 Se1 Sv1 c1 c1' r1 => ?_
  obtain ⟨k, hk, o2⟩ := of_ok o1
  refine ⟨k, by rw [hK]; exact tru_of r1 hk, ?_⟩
  cases k with
  | true =>
    rw [if_pos rfl] at o2 ⊢
    exact o2 v H1 F1 Se1 Sv1 c1 r1
  | false =>
    rw [if_neg Bool.false_ne_true] at o2 ⊢
    exact c1'.ue o2 fun y e2 _ ok w H2 F2 Se2 Sv2 c2 c2' r2 => ok w H2 F2 Se2 Sv2 (c2'.less fun _ => .inr) r2
theorem u_one {op : PySem.BoolOp} (ha : PE X a (UE g W ma)) : PE X (.BoolOp op [a] pos) (UE g W ma) := L2.pe_one ha
theorem u_andT {rest : List PySem.Expr} (ha : PT X a (UT g W ta)) (hb : PW X (.BoolOp .And (b :: rest) pos) (UT g W tb)) : PW X (.BoolOp .And (a :: b :: rest) pos) (UT g W (do if ← ta then tb else return false)) := by
  refine pw_weak (L2.pw_and ha hb) fun σ H Q w => ?_
  obtain ⟨e, F, S, o, mt, out⟩ := w
  refine (Cur.start o mt).ut (Out.bind out) fun k e1 _ o1 H1 F1 Se1 c1 c1' => ?_
  cases k with
  | true =>
    rw [if_pos rfl] at o1 ⊢
    exact c1'.ut o1 fun y e2 _ ok H2 F2 Se2 c2 c2' => ok H2 F2 Se2 c2'
  | false =>
    rw [if_neg Bool.false_ne_true] at o1 ⊢
    exact o1 H1 F1 Se1 c1'
theorem u_orT {rest : List PySem.Expr} (ha : PT X a (UT g W ta)) (hb : PW X (.BoolOp .Or (b :: rest) pos) (UT g W tb)) : PW X (.BoolOp .Or (a :: b :: rest) pos) (UT g W (do if ← ta then return true else tb)) := by
  refine pw_weak (L2.pw_or ha hb) fun σ H Q w => ?_
  obtain ⟨e, F, S, o, mt, out⟩ := w
  refine (Cur.start o mt).ut (Out.bind out) fun k e1 _ o1 H1 F1 Se1 c1 c1' => ?_
  cases k with
  | true =>
    rw [if_pos rfl] at o1 ⊢
    exact o1 H1 F1 Se1 c1'
  | false =>
    rw [if_neg Bool.false_ne_true] at o1 ⊢
    exact c1'.ut o1 fun y e2 _ ok H2 F2 Se2 c2 c2' => ok H2 F2 Se2 c2'
/-- a value's truth as a test -/
theorem u_truth (hK : X.K = g.K) {mv : M D} (ha : PE X a (UV g W mv)) (he : ∀ whole, PySem.isTrue a X.env whole = (do let v ← whole; PySem.standAt a.pos; PySem.holding [v] (PySem.truthy v))) :
    PT X a (UT g W (do M.of (← mv).truth)) := by
  refine pt_weak (L2.pt_truth ha he) fun σ H Q w => ?_
  obtain ⟨e, F, S, o, mt, out⟩ := w
  refine (Cur.start o mt).uv (Out.bind out) fun x e1 _ o1 v H1 F1 Se1 c1 c1' r1 => ?_
  obtain ⟨b, hb, ok⟩ := of_end o1
  exact ⟨b, by rw [hK]; exact tru_of r1 hb, ok H1 F1 Se1 c1'⟩
theorem u_ite (hc : PT X c (UT g W ta)) (ha : PE X a (UE g W ma)) (hb : PE X b (UE g W mb)) : PE X (.IfExp c a b pos) (UE g W (do if ← ta then ma else mb)) := by
  refine pe_weak (L2.pe_ifExp hc ha hb) fun σ H Q w => ?_
  obtain ⟨e, F, S, o, mt, out⟩ := w
  refine (Cur.start o mt).ut (Out.bind out) fun k e1 _ o1 H1 F1 Se1 c1 c1' => ?_
  cases k with
  | true =>
    rw [if_pos rfl] at o1 ⊢
    exact c1'.ue o1 fun y e2 _ ok v H2 F2 Se2 Sv2 c2 c2' r => ok v H2 F2 Se2 Sv2 (c2'.less fun _ => .inr) r
  | false =>
    rw [if_neg Bool.false_ne_true] at o1 ⊢
    exact c1'.ue o1 fun y e2 _ ok v H2 F2 Se2 Sv2 c2 c2' r => ok v H2 F2 Se2 Sv2 (c2'.less fun _ => .inr) r
/-! ### comparisons -/
def copOf : Cop → PySem.CmpOp
  | .eq => .Eq
  | .ne => .NotEq
  | .lt => .Lt
  | .le => .LtE
  | .gt => .Gt
  | .ge => .GtE
  | .isIn => .In
  | .notIn => .NotIn
/-- x in a tuple: data of any depth -/
def rInT (K : PySem.W.Frag) : R2 := fun x y H Q => ∃ d ds, L2.Dp K H x d ∧ L2.Dp K H y (.tuple ds) ∧ PySem.SeqAt.shaped d = true ∧ PySem.SeqAt.shaped (.tuple ds) = true ∧ Q (.bl (ds.any fun z => PySem.PyData.eqv z d)) H
def rNotInT (K : PySem.W.Frag) : R2 := fun x y H Q => ∃ d ds, L2.Dp K H x d ∧ L2.Dp K H y (.tuple ds) ∧ PySem.SeqAt.shaped d = true ∧ PySem.SeqAt.shaped (.tuple ds) = true ∧ Q (.bl (!ds.any fun z => PySem.PyData.eqv z d)) H
end
end Py
end
section
/-! S3e: comparisons, subscripts -/
namespace Py
open L2 (V Hp HO St TE TT TS TA TG TI Ends VK XK WX SqL SqT Rd upd upd_same upd_ne PE PT PA PS PSs PG PI PW Cx R2 OpR)
variable {g : G} {H H0 H1 H2 H' : Hp} {F F0 F1 F2 F' : AS} {S S0 S1 S2 S' Se Se' Sv P T : AS} {σ : St} {e e' : Env} {W : WX}
theorem op_inT {X : Cx} (hu : X.A.units + 65 < PySem.cLine) : OpR X (PySem.compareOp .In) (rInT X.K) := by
  intro pins s σ H x y v u Q I rx ry h
  obtain ⟨d, ds, hd, he, sd, se, q⟩ := h
  obtain ⟨as, r1⟩ := L2.Dp.reads I d x v hd rx
  obtain ⟨bs, r2⟩ := L2.Dp.reads I (.tuple ds) y u he ry
  exact PySem.SeqAt.in_tuple_reads r2 r1 (PySem.SeqAt.canLay_of_shaped se) (PySem.SeqAt.canLay_of_shaped sd) (PyProof.Rows.room_in_shaped sd hu) ⟨.bl _, H, I, rfl, q⟩
theorem op_notInT {X : Cx} (hu : X.A.units + 65 < PySem.cLine) : OpR X (PySem.compareOp .NotIn) (rNotInT X.K) := by
  intro pins s σ H x y v u Q I rx ry h
  obtain ⟨d, ds, hd, he, sd, se, q⟩ := h
  obtain ⟨as, r1⟩ := L2.Dp.reads I d x v hd rx
  obtain ⟨bs, r2⟩ := L2.Dp.reads I (.tuple ds) y u he ry
  exact PySem.SeqAt.notIn_tuple_reads r2 r1 (PySem.SeqAt.canLay_of_shaped se) (PySem.SeqAt.canLay_of_shaped sd) (PyProof.Rows.room_in_shaped sd hu) ⟨.bl _, H, I, rfl, q⟩
def rCmp (K : PySem.W.Frag) : Cop → R2
  | .eq => L2.rEqD K
  | .ne => L2.rNeD K
  | .lt => L2.rI0 fun i j => .bl (decide (i < j))
  | .le => L2.rI0 fun i j => .bl (decide (i ≤ j))
  | .gt => L2.rI0 fun i j => .bl (decide (j < i))
  | .ge => L2.rI0 fun i j => .bl (decide (j ≤ i))
  | .isIn => fun x y H Q => (∃ (c : Nat) (z : PySem.Str), x = .str ⟨#[c]⟩ ∧ y = .str z ∧ Q (.bl (decide (c ∈ z.cps.toList))) H) ∨ (L2.rInD K x y H Q ∨ rInT K x y H Q)
  | .notIn => fun x y H Q => (∃ (c : Nat) (z : PySem.Str), x = .str ⟨#[c]⟩ ∧ y = .str z ∧ Q (.bl (!decide (c ∈ z.cps.toList))) H) ∨ (L2.rNotInD K x y H Q ∨ rNotInT K x y H Q)
theorem op_cmp {X : Cx} (hu : X.A.units + 65 < PySem.cLine) : ∀ o : Cop, OpR X (PySem.compareOp (copOf o)) (rCmp X.K o)
  | .eq => L2.op_eqD (by omega)
  | .ne => L2.op_neD (by omega)
  | .lt => L2.op_lt
  | .le => L2.op_le
  | .gt => L2.op_gt
  | .ge => L2.op_ge
  | .isIn => L2.op_in_sign.or ((L2.op_inD hu).or (op_inT hu))
  | .notIn => L2.op_notIn_sign.or ((L2.op_notInD hu).or (op_notInT hu))
theorem eqSem_ok {x y : D} {b : Bool} (h : eqSem x y = some b) : (x.data = true ∧ y.data = true ∧ x.depth ≤ 60 ∧ y.depth ≤ 60) ∧ b = D.eqv x y := by
  unfold eqSem at h
  split at h
  · rename_i c
    simp only [Bool.and_eq_true, decide_eq_true_eq] at c
    cases h
    exact ⟨⟨c.1.1.1, c.1.1.2, c.1.2, c.2⟩, rfl⟩
  · cases h
theorem in_ok {v w : V} {Q : VK} {x y : D} {b : Bool} (rx : Rep g H F v x P) (ry : Rep g H F w y T) (h : inSem x y = some b) (q : Q (.bl b) H) : rCmp g.K .isIn v w H Q := by
  have seq : ∀ ds, y.items = some ds → (if x.data && D.datas ds && decide (x.depth ≤ 60) && decide (D.depths ds ≤ 60) then some (ds.any fun d => D.eqv d x) else none) = some b → rCmp g.K .isIn v w H Q := fun ds hy h => by
    split at h
    · rename_i c
      simp only [Bool.and_eq_true, decide_eq_true_eq] at c
      cases h
      obtain ⟨⟨⟨c1, c2⟩, c3⟩, c4⟩ := c
      have e := pys_any x c1 ds c2
      have sl : PySem.SeqAt.shaped (.list (D.pys ds)) = true := by
        unfold PySem.SeqAt.shaped
        simp only [PySem.PyData.canLay0, PySem.PyData.depth, pys_lay ds c2, pys_depth]
        simp; omega
      have st : PySem.SeqAt.shaped (.tuple (D.pys ds)) = true := by
        unfold PySem.SeqAt.shaped
        simp only [PySem.PyData.canLay0, PySem.PyData.depth, pys_lay ds c2, pys_depth]
        simp; omega
      cases y with
      | tup es =>
        cases hy
        exact .inr (.inr ⟨x.py, D.pys ds, rx.dp c1, ry.dp (d := .tup ds) c2, py_shaped c1 c3, st, by rw [e]; exact q⟩)
      | lst es =>
        cases hy
        exact .inr (.inl ⟨x.py, D.pys ds, rx.dp c1, ry.dp (d := .lst ds) c2, py_shaped c1 c3, sl, by rw [e]; exact q⟩)
      | own es =>
        cases hy
        exact .inr (.inl ⟨x.py, D.pys ds, rx.dp c1, ry.dp (d := .own ds) c2, py_shaped c1 c3, sl, by rw [e]; exact q⟩)
      | _ => cases hy
    · cases h
  cases y with
  | str t =>
    cases x with
    | str s =>
      cases s with
      | nil => cases h
      | cons c r =>
        cases r with
        | nil =>
          cases h
          cases (show v = .str ⟨[c].toArray⟩ from rx); cases (show w = .str ⟨t.toArray⟩ from ry)
          exact .inl ⟨c, _, rfl, rfl, q⟩
        | cons _ _ => cases h
    | _ => cases h
  | tup es => exact seq es rfl h
  | lst es => exact seq es rfl h
  | own es => exact seq es rfl h
  | _ => cases h
theorem in_not {K : PySem.W.Frag} {v w : V} {Q : VK} (h : rCmp K .isIn v w H fun u H1 => ∀ b, u = .bl b → Q (.bl (!b)) H1) : rCmp K .notIn v w H Q := by
  rcases h with ⟨c, z, e1, e2, q⟩ | ⟨d, ds, a, b, c, dd, q⟩ | ⟨d, ds, a, b, c, dd, q⟩
  · exact .inl ⟨c, z, e1, e2, q _ rfl⟩
  · exact .inr (.inl ⟨d, ds, a, b, c, dd, q _ rfl⟩)
  · exact .inr (.inr ⟨d, ds, a, b, c, dd, q _ rfl⟩)
theorem cmp_ok {v w : V} {Q : VK} {x y : D} {b : Bool} (rx : Rep g H F v x P) (ry : Rep g H F w y T) : ∀ o : Cop, cmpSem o x y = some b → Q (.bl b) H → rCmp g.K o v w H Q
  | .eq, h, q => by
    obtain ⟨⟨c1, c2, c3, c4⟩, rfl⟩ := eqSem_ok h
    exact ⟨x.py, y.py, rx.dp c1, ry.dp c2, py_shaped c1 c3, py_shaped c2 c4, by rw [py_eqv x y c1 c2]; exact q⟩
  | .ne, h, q => by
    obtain ⟨b', h1, h2⟩ := Option.map_eq_some_iff.mp (show (eqSem x y).map (!·) = some b from h)
    obtain ⟨⟨c1, c2, c3, c4⟩, rfl⟩ := eqSem_ok h1
    exact ⟨x.py, y.py, rx.dp c1, ry.dp c2, py_shaped c1 c3, py_shaped c2 c4, by rw [py_eqv x y c1 c2, h2]; exact q⟩
  | .lt, h, q => by
    cases x <;> cases y <;> first | (cases h; done) | skip
    cases (show v = .int _ from rx); cases (show w = .int _ from ry); cases h
    exact ⟨_, _, rfl, rfl, q⟩
  | .le, h, q => by
    cases x <;> cases y <;> first | (cases h; done) | skip
    cases (show v = .int _ from rx); cases (show w = .int _ from ry); cases h
    exact ⟨_, _, rfl, rfl, q⟩
  | .gt, h, q => by
    cases x <;> cases y <;> first | (cases h; done) | skip
    cases (show v = .int _ from rx); cases (show w = .int _ from ry); cases h
    exact ⟨_, _, rfl, rfl, q⟩
  | .ge, h, q => by
    cases x <;> cases y <;> first | (cases h; done) | skip
    cases (show v = .int _ from rx); cases (show w = .int _ from ry); cases h
    exact ⟨_, _, rfl, rfl, q⟩
  | .isIn, h, q => in_ok rx ry h q
  | .notIn, h, q => by
    obtain ⟨b', h1, h2⟩ := Option.map_eq_some_iff.mp (show (inSem x y).map (!·) = some b from h)
    refine in_not (in_ok rx ry h1 fun c e => ?_)
    cases e
    rw [h2]; exact q
section
variable {X : Cx} {a b c : PySem.Expr} {pos : PySem.Pos} {ma mb mc : M D} {ta tb : M Bool}
/-- two operands, the second a view: at the end a test of them -/
theorem u_view2 {f : D → D → Option Bool} {r : R2} {σ : St} {Q : Bool → Hp → Prop} {Q0 : VK} (kq : ∀ b H, Q b H → Q0 (.bl b) H) (w : UT g W (do
      let x ← ma
      let y ← mb
      M.of (f x y)) σ H Q)
    (k : ∀ v w H F Q x y b, Rep g H F v x all_ → Rep g H F w y all_ → f x y = some b → Q (.bl b) H → r v w H Q) :
    L2.tOp r (UE g W ma) (UV g W mb) σ H Q0 := by
  obtain ⟨e, F, S, o, mt, out⟩ := w
  refine (Cur.start o mt).ue (Out.bind out) fun x e1 _ o1 v H1 F1 Se1 Sv1 c1 c1' r1 => ?_
  refine c1'.uv (Out.bind o1) fun y e2 _ o2 u H2 F2 Se2 c2 c2' r2 => ?_
  obtain ⟨b, hb, ok⟩ := of_end o2
  have r1' := c1'.kept c2 r1 fun a z => .inr z
  exact k v u H2 F2 _ x y b (r1'.mono fun _ _ => trivial) r2 hb (kq b H2 (ok H2 F2 Se2 c2'.none))
theorem u_viewQ {f : D → D → Option Bool} {r : R2} {σ : St} {Q : Bool → Hp → Prop} {Q0 : VK} (kq : ∀ b H, Q b H → Q0 (.bl b) H) {y : D} (fx : (∀ e, mb e = .bad) ∨ ∀ e, mb e = .ok y e) (w : UT g W (do
      let x ← ma
      let y ← mb
      M.of (f x y)) σ H Q)
    (k : ∀ v w H F Q x b, Rep g H F v x all_ → Rep g H F w y all_ → f x y = some b → Q (.bl b) H → r v w H Q) :
    L2.tOp r (UV g W ma) (UV g W mb) σ H Q0 := by
  obtain ⟨e, F, S, o, mt, out⟩ := w
  refine (Cur.start o mt).uv (Out.bind out) fun x e1 _ o1 v H1 F1 Se1 c1 c1' r1 => ?_
  have o1 : Out g W σ S H F ((mb e1).bind fun y => M.of (f x y)) _ := o1
  rcases fx with fx | fx
  · rw [fx] at o1; exact o1.elim
  · rw [fx] at o1
    obtain ⟨b, hb, ok⟩ := of_end (show Out g W σ S H F (M.of (f x y) e1) _ from o1)
    refine ⟨[], F1, none_, ⟨fun a z => z.elim, c1'.ownE.f⟩, ⟨fun _ => none_, fun i d h => by simp at h, fun _ _ z => z, fun _ _ _ z => z.elim, Nat.zero_le _⟩, ?_⟩
    rw [fx]
    intro u H2 F2 Se2 c2 r2
    have aft := c2.aft.frame (T := Se1) c1'.ownE fun a _ z => z
    refine k v u H2 F2 _ x b (r1.stay (fun a ob z _ => c2.aft.keep a ob z fun _ _ z => z) c2.aft.grow) r2 hb (kq b H2 (ok H2 F2 Se1 ⟨?_, fun _ _ z => z, c1'.mt.stay (fun a ob z _ => c2.aft.keep a ob z fun _ _ z => z) c2.aft.grow⟩))
    exact (c1'.aft.trans ((aft.more fun a z => z.elim False.elim .inl).weak fun a z => z.elim .inr False.elim))
end
end Py
end
section
/-! S3f: comparisons as expressions, subscripts -/
namespace Py
open L2 (V Hp HO St TE TT TS TA TG TI Ends VK XK WX SqL SqT Rd upd upd_same upd_ne PE PT PA PS PSs PG PI PW Cx R2 OpR)
variable {g : G} {H H0 H1 H2 H' : Hp} {F F0 F1 F2 F' : AS} {S S0 S1 S2 S' Se Se' Sv P T : AS} {σ : St} {e e' : Env} {W : WX}
section
variable {X : Cx} {a b c : PySem.Expr} {pos : PySem.Pos} {ma mb mc : M D} {ta tb : M Bool}
theorem u_cmpT (hK : X.K = g.K) (hu : X.A.units + 65 < PySem.cLine) (o : Cop) (ha : PE X a (UE g W ma)) (hb : PE X b (UV g W mb)) (hm : PySem.behindInMarks (copOf o) b = false) : PT X (.Compare a [copOf o] [b] pos) (UT g W (do
      let x ← ma
      let y ← mb
      M.of (cmpSem o x y))) :=
  pt_weak (L2.pt_cmpR (r := rCmp g.K o) (by rw [← hK]; exact op_cmp hu o) ha hb hm) fun σ H Q w => u_view2 (fun b H q => ⟨b, rfl, q⟩) w fun v w H F Q x y b rx ry h q => cmp_ok rx ry o h q
theorem u_cmp (hK : X.K = g.K) (hu : X.A.units + 65 < PySem.cLine) (o : Cop) (ha : PE X a (UE g W ma)) (hb : PE X b (UV g W mb)) (hm : PySem.behindInMarks (copOf o) b = false) : PE X (.Compare a [copOf o] [b] pos) (UE g W (do return .bl (← (do
      let x ← ma
      let y ← mb
      M.of (cmpSem o x y))))) :=
  pe_weak (L2.pe_cmpR (r := rCmp g.K o) (by rw [← hK]; exact op_cmp hu o) ha hb hm) fun σ H Q w => u_view2 (fun b H q => q) (ut_bool w) fun v w H F Q x y b rx ry h q => cmp_ok rx ry o h q
theorem u_cmpQT (hK : X.K = g.K) (hu : X.A.units + 65 < PySem.cLine) (o : Cop) {y : D} (fx : (∀ e, mb e = .bad) ∨ ∀ e, mb e = .ok y e) (ha : PE X a (UV g W ma)) (hb : PE X b (UV g W mb)) (hm : PySem.behindInMarks (copOf o) b = false) : PT X (.Compare a [copOf o] [b] pos) (UT g W (do
      let x ← ma
      let y ← mb
      M.of (cmpSem o x y))) :=
  pt_weak (L2.pt_cmpR (r := rCmp g.K o) (by rw [← hK]; exact op_cmp hu o) ha hb hm) fun σ H Q w => u_viewQ (fun b H q => ⟨b, rfl, q⟩) fx w fun v w H F Q x b rx ry h q => cmp_ok rx ry o h q
theorem u_cmpQ (hK : X.K = g.K) (hu : X.A.units + 65 < PySem.cLine) (o : Cop) {y : D} (fx : (∀ e, mb e = .bad) ∨ ∀ e, mb e = .ok y e) (ha : PE X a (UV g W ma)) (hb : PE X b (UV g W mb)) (hm : PySem.behindInMarks (copOf o) b = false) : PE X (.Compare a [copOf o] [b] pos) (UE g W (do return .bl (← (do
      let x ← ma
      let y ← mb
      M.of (cmpSem o x y))))) :=
  pe_weak (L2.pe_cmpR (r := rCmp g.K o) (by rw [← hK]; exact op_cmp hu o) ha hb hm) fun σ H Q w => u_viewQ (fun b H q => q) fx (ut_bool w) fun v w H F Q x b rx ry h q => cmp_ok rx ry o h q
/-! ### is -/
/-- is with None, True, False on the right -/
def rIs (neg : Bool) : R2 := fun x y H Q => (y = .non ∧ Q (.bl (Bool.xor neg (decide (x = .non)))) H) ∨ ((∃ a b : Bool, x = .bl a ∧ y = .bl b ∧ Q (.bl (Bool.xor neg (decide (a = b)))) H) ∨ ∃ b : Bool, x = .non ∧ y = .bl b ∧ Q (.bl neg) H)
theorem op_isX : OpR X (PySem.compareOp .Is) (rIs false) := by
  have h1 : OpR X (PySem.compareOp .Is) (fun x y H Q => y = .non ∧ Q (.bl (Bool.xor false (decide (x = .non)))) H) := by
    have := L2.op_isN (X := X)
    simpa using this
  have h2 : OpR X (PySem.compareOp .Is) (fun x y H Q => ∃ a b : Bool, x = .bl a ∧ y = .bl b ∧ Q (.bl (Bool.xor false (decide (a = b)))) H) := by
    have := L2.op_isBl (X := X)
    unfold L2.rIsB at this
    simpa using this
  have h3 : OpR X (PySem.compareOp .Is) (fun x y H Q => ∃ b : Bool, x = .non ∧ y = .bl b ∧ Q (.bl false) H) := by
    intro pins s σ H x y v u Q I rx ry h
    obtain ⟨b, rfl, rfl, q⟩ := h
    cases (show v = PySem.Value.none from rx)
    cases (show u = PySem.Value.bool b from ry)
    exact PySem.wpAny_is_other rfl (fun z => by cases z) ⟨.bl false, H, I, rfl, q⟩
  exact h1.or (h2.or h3)
theorem op_isNotX : OpR X (PySem.compareOp .IsNot) (rIs true) := by
  have h1 : OpR X (PySem.compareOp .IsNot) (fun x y H Q => y = .non ∧ Q (.bl (Bool.xor true (decide (x = .non)))) H) := by
    have := L2.op_notN (X := X)
    simpa using this
  have h2 : OpR X (PySem.compareOp .IsNot) (fun x y H Q => ∃ a b : Bool, x = .bl a ∧ y = .bl b ∧ Q (.bl (Bool.xor true (decide (a = b)))) H) := by
    have := L2.op_notBl (X := X)
    unfold L2.rNotB at this
    simpa using this
  have h3 : OpR X (PySem.compareOp .IsNot) (fun x y H Q => ∃ b : Bool, x = .non ∧ y = .bl b ∧ Q (.bl true) H) := by
    intro pins s σ H x y v u Q I rx ry h
    obtain ⟨b, rfl, rfl, q⟩ := h
    cases (show v = PySem.Value.none from rx)
    cases (show u = PySem.Value.bool b from ry)
    exact PySem.wpAny_isNot_other rfl (fun z => by cases z) ⟨.bl true, H, I, rfl, q⟩
  exact h1.or (h2.or h3)
theorem is_ok {v w : V} {Q : VK} {x : D} {l : Lit} {b neg : Bool} (rx : Rep g H F v x P) (ry : Rep g H F w l.d T) (h : isSem x l = some b) (q : Q (.bl (Bool.xor neg b)) H) : rIs neg v w H Q := by
  cases l with
  | non =>
    cases (show w = .non from ry)
    refine .inl ⟨rfl, ?_⟩
    have e : decide (v = .non) = b := by
      cases x with
      | non => cases (show v = .non from rx); cases h; rfl
      | bl c => cases (show v = .bl c from rx); cases h; rfl
      | int c => cases (show v = .int c from rx); cases h; rfl
      | str c => cases (show v = .str _ from rx); cases h; rfl
      | fn c => cases (show v = .ref _ from rx.1); cases h; rfl
      | tup c => obtain ⟨a, vs, rfl, _⟩ := rx; cases h; rfl
      | lst c => obtain ⟨a, vs, rfl, _⟩ := rx; cases h; rfl
      | own c => obtain ⟨a, vs, rfl, _⟩ := rx; cases h; rfl
      | scr c => cases h
    rw [e]; exact q
  | bl c =>
    cases (show w = .bl c from ry)
    cases x with
    | non => cases (show v = .non from rx); cases h; exact .inr (.inr ⟨c, rfl, rfl, by simpa using q⟩)
    | bl d =>
      cases (show v = .bl d from rx)
      cases h
      refine .inr (.inl ⟨d, c, rfl, rfl, ?_⟩)
      have e : decide (d = c) = (d == c) := by cases d <;> cases c <;> rfl
      rw [e]; exact q
    | _ => cases h
  | int c => cases x <;> cases h
  | str c => cases x <;> cases h
theorem uv_lit {l : Lit} {j pos} : PE X (.Constant (litConst l) j pos) (UV g W (pure l.d)) := pe_weak u_lit fun _ _ _ h => uv_ue h
theorem isT_step {l : Lit} {σ : St} {Q : Bool → Hp → Prop} {Q0 : VK} {neg : Bool} (kq : ∀ b H, Q b H → Q0 (.bl b) H) (w : UT g W (do
      let x ← ma
      let b ← M.of (isSem x l)
      return (Bool.xor neg b)) σ H Q) : L2.tOp (rIs neg) (UV g W ma) (UV g W (pure l.d)) σ H Q0 := by
  have w2 : UT g W (do
      let x ← ma
      let y ← (pure l.d : M D)
      M.of ((isSem x l).map (Bool.xor neg ·))) σ H Q := by
    obtain ⟨e, F, S, o, mt, out⟩ := w
    refine ⟨e, F, S, o, mt, ?_⟩
    have o1 := Out.bind out
    show Out g W σ S H F ((ma e).bind fun x => M.of ((isSem x l).map (Bool.xor neg ·))) _
    cases hm : ma e with
    | ok x e1 =>
      rw [hm] at o1
      have o1 : Out g W σ S H F ((M.of (isSem x l) e1).bind fun b => (pure (Bool.xor neg b) : M Bool)) _ := o1
      show Out g W σ S H F (M.of ((isSem x l).map (Bool.xor neg ·)) e1) _
      cases hs : isSem x l with
      | some b => rw [hs] at o1; exact o1
      | none => rw [hs] at o1; exact o1.elim
    | exc c ps e1 => rw [hm] at o1; exact o1
    | bad => rw [hm] at o1; exact o1.elim
  refine u_viewQ (f := fun x _ => (isSem x l).map (Bool.xor neg ·)) (y := l.d) kq (.inr fun _ => rfl) w2 fun v w H F Q x b rx ry h q => ?_
  obtain ⟨b', h1, h2⟩ := Option.map_eq_some_iff.mp h
  exact is_ok rx ry h1 (by rw [h2]; exact q)
theorem u_isT {l : Lit} {j pos'} (ha : PE X a (UV g W ma)) : PT X (.Compare a [.Is] [.Constant (litConst l) j pos'] pos) (UT g W (do
      let x ← ma
      M.of (isSem x l))) := by
  refine pt_weak (L2.pt_cmpR op_isX ha (uv_lit (g := g) (W := W)) (by cases l <;> rfl)) fun σ H Q w => isT_step (neg := false) (fun b H q => ⟨b, rfl, q⟩) ?_
  obtain ⟨e, F, S, o, mt, out⟩ := w
  refine ⟨e, F, S, o, mt, ?_⟩
  have o1 := Out.bind out
  show Out g W σ S H F ((ma e).bind fun x => M.bind (M.of (isSem x l)) fun b => pure (Bool.xor false b)) _
  cases hm : ma e with
  | ok x e1 =>
    rw [hm] at o1
    have o1 : Out g W σ S H F (M.of (isSem x l) e1) _ := o1
    show Out g W σ S H F ((M.of (isSem x l) e1).bind fun b => (pure (Bool.xor false b) : M Bool)) _
    cases hs : isSem x l with
    | some b => rw [hs] at o1; cases b <;> exact o1
    | none => rw [hs] at o1; exact o1.elim
  | exc c ps e1 => rw [hm] at o1; exact o1
  | bad => rw [hm] at o1; exact o1.elim
theorem u_notIsT {l : Lit} {j pos'} (ha : PE X a (UV g W ma)) : PT X (.Compare a [.IsNot] [.Constant (litConst l) j pos'] pos) (UT g W (do
      let x ← ma
      let b ← M.of (isSem x l)
      return !b)) := by
  refine pt_weak (L2.pt_cmpR op_isNotX ha (uv_lit (g := g) (W := W)) (by cases l <;> rfl)) fun σ H Q w => isT_step (neg := true) (fun b H q => ⟨b, rfl, q⟩) ?_
  have e : ∀ b : Bool, Bool.xor true b = !b := fun b => by cases b <;> rfl
  simp only [e]
  exact w
theorem u_is {l : Lit} {j pos'} (ha : PE X a (UV g W ma)) : PE X (.Compare a [.Is] [.Constant (litConst l) j pos'] pos) (UE g W (do return .bl (← (do
      let x ← ma
      M.of (isSem x l))))) := by
  refine pe_weak (L2.pe_cmpR op_isX ha (uv_lit (g := g) (W := W)) (by cases l <;> rfl)) fun σ H Q w => isT_step (neg := false) (fun b H q => q) ?_
  obtain ⟨e, F, S, o, mt, out⟩ := ut_bool w
  refine ⟨e, F, S, o, mt, ?_⟩
  have o1 := Out.bind out
  show Out g W σ S H F ((ma e).bind fun x => M.bind (M.of (isSem x l)) fun b => pure (Bool.xor false b)) _
  cases hm : ma e with
  | ok x e1 =>
    rw [hm] at o1
    have o1 : Out g W σ S H F (M.of (isSem x l) e1) _ := o1
    show Out g W σ S H F ((M.of (isSem x l) e1).bind fun b => (pure (Bool.xor false b) : M Bool)) _
    cases hs : isSem x l with
    | some b => rw [hs] at o1; cases b <;> exact o1
    | none => rw [hs] at o1; exact o1.elim
  | exc c ps e1 => rw [hm] at o1; exact o1
  | bad => rw [hm] at o1; exact o1.elim
theorem u_notIs {l : Lit} {j pos'} (ha : PE X a (UV g W ma)) : PE X (.Compare a [.IsNot] [.Constant (litConst l) j pos'] pos) (UE g W (do return .bl (← (do
      let x ← ma
      let b ← M.of (isSem x l)
      return !b)))) := by
  refine pe_weak (L2.pe_cmpR op_isNotX ha (uv_lit (g := g) (W := W)) (by cases l <;> rfl)) fun σ H Q w => isT_step (neg := true) (fun b H q => q) ?_
  have e : ∀ b : Bool, Bool.xor true b = !b := fun b => by cases b <;> rfl
  simp only [e]
  exact ut_bool w
/-! ### a < b < c -/
/-- the first link -/
theorem chain_ok {o1 o2 : Cop} {Q : Bool → Hp → Prop} {Q0 : VK} (kq : ∀ b H, Q b H → Q0 (.bl b) H) (w : UT g W (do
      let x ← ma
      let y ← mb
      if ← M.of (cmpSem o1 x y) then do
        let z ← mc
        M.of (cmpSem o2 y z)
      else return false) σ H Q) : L2.tChain (rCmp g.K o1) (rCmp g.K o2) (UE g W ma) (UE g W mb) (UE g W mc) σ H Q0 := by
  obtain ⟨e, F, S, o, mt, out⟩ := w
  refine (Cur.start o mt).ue (Out.bind out) fun x e1 _ o1 v H1 F1 Se1 Sv1 c1 c1' r1 => ?_
  refine c1'.ue (Out.bind o1) fun y e2 _ o2 u H2 F2 Se2 Sv2 c2 c2' r2 => ?_
  obtain ⟨b, hb, o3⟩ := of_ok o2
  have r1' := c1'.kept c2 r1 fun a z => .inr z
  refine cmp_ok (P := Sv1) (T := Sv2) r1' r2 _ hb ⟨b, rfl, ?_⟩
  cases b with
  | true =>
    rw [if_pos rfl] at o3 ⊢
    refine c2'.ue (Out.bind o3) fun z e3 _ o4 t H3 F3 Se3 Sv3 c3 c3' r3 => ?_
    obtain ⟨b2, hb2, ok⟩ := of_end o4
    have r2' := c2'.kept c3 r2 fun a z => .inr z
    exact cmp_ok (P := Sv2) (T := Sv3) r2' r3 _ hb2 (kq b2 H3 (ok H3 F3 Se3 c3'.none))
  | false =>
    rw [if_neg Bool.false_ne_true] at o3 ⊢
    exact kq false H2 (o3 H2 F2 Se2 c2'.none)
theorem u_chainT (hK : X.K = g.K) (hu : X.A.units + 65 < PySem.cLine) (o1 o2 : Cop) (ha : PE X a (UE g W ma)) (hb : PE X b (UE g W mb)) (hc : PE X c (UE g W mc)) (hm : PySem.lastMarks [copOf o1, copOf o2] [b, c] = false) :
    PT X (.Compare a [copOf o1, copOf o2] [b, c] pos) (UT g W (do
      let x ← ma
      let y ← mb
      if ← M.of (cmpSem o1 x y) then do
        let z ← mc
        M.of (cmpSem o2 y z)
      else return false)) :=
  pt_weak (L2.pt_chain (r := rCmp g.K o1) (r' := rCmp g.K o2) (by rw [← hK]; exact op_cmp hu o1) (by rw [← hK]; exact op_cmp hu o2) ha hb hc hm) fun σ H Q w => chain_ok (fun b H q => ⟨b, rfl, q⟩) w
theorem u_chain (hK : X.K = g.K) (hu : X.A.units + 65 < PySem.cLine) (o1 o2 : Cop) (ha : PE X a (UE g W ma)) (hb : PE X b (UE g W mb)) (hc : PE X c (UE g W mc)) (hm : PySem.lastMarks [copOf o1, copOf o2] [b, c] = false) :
    PE X (.Compare a [copOf o1, copOf o2] [b, c] pos) (UE g W (do return .bl (← (do
      let x ← ma
      let y ← mb
      if ← M.of (cmpSem o1 x y) then do
        let z ← mc
        M.of (cmpSem o2 y z)
      else return false)))) :=
  pe_weak (L2.pe_chain (r := rCmp g.K o1) (r' := rCmp g.K o2) (by rw [← hK]; exact op_cmp hu o1) (by rw [← hK]; exact op_cmp hu o2) ha hb hc hm) fun σ H Q w => chain_ok (fun b H q => q) (ut_bool w)
/-! ### subscripts -/
theorem ixN_eq (n : Nat) (i : Int) : L2.ixN n i = ixN n i := rfl
theorem ix_ok {v w : V} {Q : VK} {x y d : D} (rx : Rep g H F v x P) (ry : Rep g H F w y T) (h : ixSem x y = some d) (q : ∀ v, Rep g H F v d P → Q v H) : L2.rIx g.K v w H Q := by
  cases y with
  | int i =>
    cases (show w = .int i from ry)
    have seq : ∀ ds, x.items = some ds → ((ixN ds.length i).bind fun j => ds[j]?) = some d → L2.rIx g.K v (.int i) H Q := fun ds hx h => by
      obtain ⟨j, h1, h2⟩ := Option.bind_eq_some_iff.mp h
      obtain ⟨a, vs, rfl, hs, r⟩ := rx.items hx
      obtain ⟨u, hu, ru⟩ := r.get h2
      have hat : L2.atI vs i = some u := by
        unfold L2.atI
        rw [r.length, ixN_eq, h1]
        exact hu
      rcases hs with hs | hs
      · exact .inl ⟨a, vs, i, u, rfl, rfl, hs, hat, q u ru⟩
      · exact .inr (.inl ⟨a, vs, i, u, rfl, rfl, hs, hat, q u ru⟩)
    cases x with
    | str s =>
      cases (show v = .str ⟨s.toArray⟩ from rx)
      have h : (if s.length ≤ LIM then (ixN s.length i).bind fun j => s[j]?.map fun c => D.str [c] else none) = some d := h
      by_cases hl : s.length ≤ LIM
      · rw [if_pos hl] at h
        obtain ⟨j, h1, h2⟩ := Option.bind_eq_some_iff.mp h
        obtain ⟨c, h3, h4⟩ := Option.map_eq_some_iff.mp h2
        cases h4
        refine .inr (.inr ⟨_, i, c, rfl, rfl, by rw [str_len, LIM_eq]; exact hl, ?_, q _ (show Rep g H F (.str ⟨#[c]⟩) (.str [c]) P from rfl)⟩)
        unfold L2.atI
        show (L2.ixN s.toArray.toList.length i).bind _ = _
        simp only [List.toList_toArray, ixN_eq, h1]
        exact h3
      · rw [if_neg hl] at h; cases h
    | tup ds => exact seq ds rfl h
    | lst ds => exact seq ds rfl h
    | own ds => exact seq ds rfl h
    | _ => cases h
  | _ => cases x <;> cases h
end
end Py
end
section
/-! S3g: subscripts, slices -/
namespace Py
open L2 (V Hp HO St TE TT TS TA TG TI TO Ends VK XK WX SqL SqT Rd upd upd_same upd_ne PE PT PA PS PSs PG PI PW PO Cx R2 OpR)
variable {g : G} {H H0 H1 H2 H' : Hp} {F F0 F1 F2 F' : AS} {S S0 S1 S2 S' Se Se' Sv P T : AS} {σ : St} {e e' : Env} {W : WX}
section
variable {X : Cx} {a b c : PySem.Expr} {pos : PySem.Pos} {ma mb mc : M D} {ta tb : M Bool}
/-- a slot's value, read by sight -/
theorem slot_val {i : Nat} {d : D} {e1 : Env} (h : getSlot i e = .ok d e1) : e[i]? = some (some d) ∧ e1 = e := by
  unfold getSlot at h
  cases hs : e[i]? with
  | none => rw [hs] at h; cases h
  | some od =>
    cases od with
    | none => rw [hs] at h; cases h
    | some d' => rw [hs] at h; cases h; exact ⟨rfl, rfl⟩
theorem slot_ok {i : Nat} {α : Type} {f : D → M α} {Ok : α → Env → Prop} (o : Out g W σ S H F ((getSlot i e).bind f) Ok) : ∃ d, e[i]? = some (some d) ∧ Out g W σ S H F (f d e) Ok := by
  unfold getSlot at o
  cases hs : e[i]? with
  | none => rw [hs] at o; exact o.elim
  | some od =>
    cases od with
    | none => rw [hs] at o; exact o.elim
    | some d' => rw [hs] at o; exact ⟨d', rfl, o⟩
/-- x[k], x a name: it is looked at behind k -/
theorem u_ixVar (hK : X.K = g.K) {i : Nat} {x : PySem.Str} {p : PySem.Pos} (n : Nam X i x) (hb : PE X b (UE g W mb)) (hs : L2.PlainIx b) : PE X (.Subscript (.Name x p) b pos) (UV g W (do
      let _ ← getSlot i
      let y ← mb
      let x ← getSlot i
      M.of (ixSem x y))) := by
  refine pe_weak (L2.pe_ix (r := L2.rIx g.K) (by rw [← hK]; exact L2.ix_seq) (L2.pe_var n.1 n.2.1 n.2.2.1 n.2.2.2) hb hs) fun σ H Q w => ?_
  obtain ⟨e, F, S, o, mt, out⟩ := w
  obtain ⟨d0, h0, o0⟩ := slot_ok out
  obtain ⟨v, hv, _⟩ := mt.get h0
  refine ⟨v, hv, ?_⟩
  refine (Cur.start o mt).ue (Out.bind o0) fun y e2 _ o2 u H2 F2 Se2 Sv2 c2 c2' r2 => ?_
  obtain ⟨d1, h1, o3⟩ := slot_ok o2
  obtain ⟨v', hv', r1⟩ := c2.mt.get h1
  rw [hv] at hv'; cases hv'
  obtain ⟨d, hd, ok⟩ := of_end o3
  exact ix_ok r1 r2 hd fun v r => ok v H2 F2 Se2 c2'.none (r.mono fun _ _ => trivial)
/-- x[k], x kept -/
theorem u_ixO (hK : X.K = g.K) (ha : PE X a (UE g W ma)) (hb : PE X b (UE g W mb)) (hs : L2.PlainIx b) : PE X (.Subscript a b pos) (UV g W (do
      let x ← ma
      let y ← mb
      M.of (ixSem x y))) := by
  refine pe_weak (L2.pe_ix (r := L2.rIx g.K) (by rw [← hK]; exact L2.ix_seq) ha hb hs) fun σ H Q w => ?_
  obtain ⟨e, F, S, o, mt, out⟩ := w
  refine (Cur.start o mt).ue (Out.bind out) fun x e1 _ o1 v H1 F1 Se1 Sv1 c1 c1' r1 => ?_
  refine c1'.ue (Out.bind o1) fun y e2 _ o2 u H2 F2 Se2 Sv2 c2 c2' r2 => ?_
  obtain ⟨d, hd, ok⟩ := of_end o2
  have r1' := c1'.kept c2 r1 fun a z => .inr z
  exact ix_ok r1' r2 hd fun v r => ok v H2 F2 Se2 c2'.none (r.mono fun _ _ => trivial)
/-- a reckoning that changes nothing -/
def UK (g : G) (m : M D) : TE := fun σ H Q => ∃ e F S d, Own S H F ∧ Ma g H F e σ S ∧ m e = .ok d e ∧ ∀ v, Rep g H F v d S → Q v H
/-- x[k], x a view that stays: k changes nothing, or x is plain -/
theorem u_ixP (hK : X.K = g.K) (ha : PE X a (UV g W ma)) (hb : PE X b (UE g W mb)) (hs : L2.PlainIx b) : PE X (.Subscript a b pos) (UV g W (do
      let x ← ma
      M.guard (false || x.plain)
      let y ← mb
      M.of (ixSem x y))) := by
  refine pe_weak (L2.pe_ix (r := L2.rIx g.K) (by rw [← hK]; exact L2.ix_seq) ha hb hs) fun σ H Q w => ?_
  obtain ⟨e, F, S, o, mt, out⟩ := w
  refine (Cur.start o mt).uv (Out.bind out) fun x e1 _ o1 v H1 F1 Se1 c1 c1' r1 => ?_
  obtain ⟨hp, o1⟩ := guard_ok o1
  have r1 := r1.plain hp
  refine c1'.ue (Out.bind o1) fun y e2 _ o2 u H2 F2 Se2 Sv2 c2 c2' r2 => ?_
  obtain ⟨d, hd, ok⟩ := of_end o2
  have r1' := r1.later (c2.later c1'.ownE)
  exact ix_ok r1' r2 hd fun v r => ok v H2 F2 Se2 c2'.none (r.mono fun _ z => z.elim)
/-- .. k changes nothing: it tells an int, and the slots stay -/
theorem u_ixS (hK : X.K = g.K) {te : TE} (ha : PE X a (UV g W ma)) (hb : PE X b te) (hs : L2.PlainIx b) (hk : ∀ σ H Q, (∃ e F S i, Own S H F ∧ Ma g H F e σ S ∧ mb e = .ok (.int i) e ∧ Q (.int i) H) → te σ H Q) (hq : ∀ e i e', mb e = .ok (.int i) e' → e' = e) (hx : ∀ e c ps e', mb e ≠ .exc c ps e') : PE X (.Subscript a b pos) (UV g W (do
      let x ← ma
      M.guard (true || x.plain)
      let y ← mb
      M.of (ixSem x y))) := by
  refine pe_weak (L2.pe_ix (r := L2.rIx g.K) (by rw [← hK]; exact L2.ix_seq) ha hb hs) fun σ H Q w => ?_
  obtain ⟨e, F, S, o, mt, out⟩ := w
  refine (Cur.start o mt).uv (Out.bind out) fun x e1 _ o1 v H1 F1 Se1 c1 c1' r1 => ?_
  have o1 : Out g W σ S H F ((mb e1).bind fun y => M.of (ixSem x y)) _ := o1
  cases hm : mb e1 with
  | ok y e2 =>
    rw [hm] at o1
    obtain ⟨d, hd, ok⟩ := of_end (show Out g W σ S H F (M.of (ixSem x y) e2) _ from o1)
    have hi : ∃ i, y = .int i := by
      cases y <;> first | exact ⟨_, rfl⟩ | (cases x <;> cases hd)
    obtain ⟨i, rfl⟩ := hi
    have := hq e1 i e2 hm
    subst this
    refine hk _ _ _ ⟨e2, F1, Se1, i, c1'.ownE, c1'.mt, hm, ?_⟩
    exact ix_ok r1 (show Rep g H1 F1 (.int i) (.int i) none_ from rfl) hd fun v r => ok v H1 F1 Se1 c1'.none r
  | exc c ps e2 => exact (hx _ _ _ _ hm).elim
  | bad => rw [hm] at o1; exact o1.elim
/-- a view as a value -/
theorem u_keepV (ha : PE X a (UV g W ma)) : PE X a (UE g W (do
      let d ← ma
      M.guard d.plain
      return d)) := by
  refine pe_weak ha fun σ H Q w => ?_
  obtain ⟨e, F, S, o, mt, out⟩ := w
  refine (Cur.start o mt).uv (Out.bind out) fun x e1 _ o1 v H1 F1 Se1 c1 c1' r1 => ?_
  obtain ⟨hp, o1⟩ := guard_ok o1
  exact o1 v H1 F1 Se1 none_ c1'.none (r1.plain hp)
/-! ### slices -/
/-- a reading of a bound -/
def UO (g : G) (W : WX) (m : M (Option Int)) : TO := fun σ H Q => ∃ e F S, Own S H F ∧ Ma g H F e σ S ∧
  Out g W σ S H F (m e) fun k e' => ∀ H' F' Se, Cur g σ S H F e' H' F' Se none_ → Q k H'
theorem po_weak {oe : Option PySem.Expr} {t t' : TO} (h : PO X oe t) (k : ∀ σ H Q, t' σ H Q → t σ H Q) : PO X oe t' := ⟨fun pins s σ H Q I w => h.run pins s σ H Q I (k σ H Q w)⟩
theorem Cur.uo {m : M (Option Int)} {Ok : Option Int → Env → Prop} {Q : Option Int → Hp → Prop} (c : Cur g σ S0 H0 F0 e H F Se P) (o : Out g W σ S0 H0 F0 (m e) Ok)
    (k : ∀ d e', m e = .ok d e' → Ok d e' → ∀ H' F' Se', Cur g σ Se H F e' H' F' Se' none_ → Cur g σ S0 H0 F0 e' H' F' Se' P → Q d H') : UO g W m σ H Q :=
  ⟨e, F, Se, c.ownE, c.mt, (o.rebase c).mono fun d e' z w H' F' Se' c' => k d e' z w H' F' Se' c' ((c.step c').less fun _ => .inl)⟩
theorem u_partN : PO X none (UO g W (pure none)) := po_weak L2.po_none fun σ H Q w => by
  obtain ⟨e, F, S, o, mt, out⟩ := w
  exact out H F S (Cur.start o mt)
theorem u_partS (ha : PE X a (UE g W ma)) : PO X (some a) (UO g W (do return some (← asInt (← ma)))) := po_weak (L2.po_some ha) fun σ H Q w => by
  obtain ⟨e, F, S, o, mt, out⟩ := w
  refine (Cur.start o mt).ue (Out.bind out) fun x e1 _ o1 v H1 F1 Se1 Sv1 c1 c1' r1 => ?_
  obtain ⟨i, rfl, o2⟩ := asInt_ok o1
  cases (show v = .int i from r1)
  exact ⟨i, rfl, o2 H1 F1 Se1 c1'.none⟩
def rSl (K : PySem.W.Frag) : V → Option Int → Option Int → Hp → VK → Prop := fun x lo hi H Q => L2.rSlL K x lo hi H Q ∨ (L2.rSlA K x lo hi H Q ∨ L2.rSlS x lo hi H Q)
theorem sl_all : L2.SlR X (rSl X.K) := L2.SlR.or L2.sl_list (L2.SlR.or L2.sl_tupA L2.sl_str)
theorem cut_eq (n d : Nat) (o : Option Int) : HT.sIx n d o = cut n d o := by cases o <;> rfl
theorem Reps.slic {ds : List D} {vs : List V} (r : Reps g H F vs ds T) (lo hi : Option Int) : Reps g H F (L2.cutV vs lo hi) (slice ds lo hi) T := by
  unfold L2.cutV slice
  rw [r.length, cut_eq, cut_eq]
  exact Reps.take _ (Reps.drop _ r)
theorem reps_ints : ∀ {ns : List Int}, Reps g H F (ns.map V.int) (ns.map D.int) none_
  | [] => rfl
  | n :: ns => Reps.cons0 (show Rep g H F (.int n) (.int n) none_ from rfl) reps_ints
theorem sl_ok {v : V} {Q : VK} {x d : D} {lo hi : Option Int} (rx : Rep g H F v x P) (h : slSem x lo hi = some d) (f : Fin g H F Q d) : rSl g.K v lo hi H Q := by
  cases x with
  | str s =>
    cases (show v = .str ⟨s.toArray⟩ from rx)
    have h : (if s.length ≤ LIM then some (D.str (slice s lo hi)) else none) = some d := h
    by_cases hl : s.length ≤ LIM
    · rw [if_pos hl] at h
      cases h
      refine .inr (.inr ⟨_, rfl, by rw [str_len, LIM_eq]; exact hl, f.1 _ ?_⟩)
      unfold L2.cutS slice
      simp only [str_len, cut_eq]
      rfl
    · rw [if_neg hl] at h; cases h
  | tup ds =>
    obtain ⟨a, vs, rfl, q, r⟩ := rx
    have h : (if D.plains ds then some (D.tup (slice ds lo hi)) else none) = some d := h
    by_cases hp : D.plains ds = true
    · rw [if_pos hp] at h
      cases h
      have r := Reps.plain hp r
      refine .inr (.inl ⟨a, vs, rfl, q, fun w => f.1 (.ref a) ⟨a, vs, rfl, q, ?_⟩, fun w p hp => f.tup hp (r.slic lo hi)⟩)
      have e := r.slic lo hi
      unfold L2.cutV at e
      rw [w.1, w.2, List.drop_zero, Nat.sub_zero, List.take_length] at e
      exact e
    · rw [if_neg hp] at h; cases h
  | lst ds =>
    obtain ⟨a, vs, rfl, q, s, r⟩ := rx
    cases h
    exact .inl ⟨a, vs, rfl, .inl (.inl q), fun p hp => f.lst hp (r.slic lo hi)⟩
  | own ds =>
    obtain ⟨a, vs, rfl, q, s, r⟩ := rx
    have h : (if D.plains ds then some (D.own (slice ds lo hi)) else none) = some d := h
    by_cases hp : D.plains ds = true
    · rw [if_pos hp] at h
      cases h
      exact .inl ⟨a, vs, rfl, .inl (.inl q), fun p hp' => f.lst hp' ((Reps.plain hp r).slic lo hi)⟩
    · rw [if_neg hp] at h; cases h
  | scr ns =>
    obtain ⟨a, rfl, q⟩ := rx
    cases h
    exact .inl ⟨a, _, rfl, q.sql, fun p hp => f.lst hp (reps_ints.slic lo hi)⟩
  | _ => cases h
variable {lo hi : Option PySem.Expr} {ml mh : M (Option Int)} {p2 : PySem.Pos}
theorem u_slVar (hK : X.K = g.K) {i : Nat} {x : PySem.Str} {p : PySem.Pos} (n : Nam X i x) (hl : PO X lo (UO g W ml)) (hh : PO X hi (UO g W mh)) : PE X (.Subscript (.Name x p) (.Slice lo hi none p2) pos) (UE g W (do
      let _ ← getSlot i
      let l ← ml
      let h ← mh
      let x ← getSlot i
      M.of (slSem x l h))) := by
  refine pe_weak (L2.pe_slice (r := rSl g.K) (by rw [← hK]; exact sl_all) (L2.pe_var n.1 n.2.1 n.2.2.1 n.2.2.2) hl hh) fun σ H Q w => ?_
  obtain ⟨e, F, S, o, mt, out⟩ := w
  obtain ⟨d0, h0, o0⟩ := slot_ok out
  obtain ⟨v, hv, _⟩ := mt.get h0
  refine ⟨v, hv, ?_⟩
  refine (Cur.start o mt).uo (Out.bind o0) fun l e2 _ o2 H2 F2 Se2 c2 c2' => ?_
  refine c2'.uo (Out.bind o2) fun h e3 _ o3 H3 F3 Se3 c3 c3' => ?_
  obtain ⟨d1, h1, o4⟩ := slot_ok o3
  obtain ⟨v', hv', r1⟩ := c3.mt.get h1
  rw [hv] at hv'; cases hv'
  obtain ⟨d, hd, ok⟩ := of_end o4
  exact sl_ok r1 hd (c3'.fin ok)
theorem u_slO (hK : X.K = g.K) (ha : PE X a (UE g W ma)) (hl : PO X lo (UO g W ml)) (hh : PO X hi (UO g W mh)) : PE X (.Subscript a (.Slice lo hi none p2) pos) (UE g W (do
      let x ← ma
      let l ← ml
      let h ← mh
      M.of (slSem x l h))) := by
  refine pe_weak (L2.pe_slice (r := rSl g.K) (by rw [← hK]; exact sl_all) ha hl hh) fun σ H Q w => ?_
  obtain ⟨e, F, S, o, mt, out⟩ := w
  refine (Cur.start o mt).ue (Out.bind out) fun x e1 _ o1 v H1 F1 Se1 Sv1 c1 c1' r1 => ?_
  refine c1'.uo (Out.bind o1) fun l e2 _ o2 H2 F2 Se2 c2 c2' => ?_
  refine c2'.uo (Out.bind o2) fun h e3 _ o3 H3 F3 Se3 c3 c3' => ?_
  obtain ⟨d, hd, ok⟩ := of_end o3
  have r1' := c2'.kept c3 (c1'.kept c2 r1 fun a z => .inr z) fun a z => .inr z
  exact sl_ok r1' hd (c3'.fin ok)
end
end Py
end
section
/-! S4a: built-in functions, by values -/
namespace Py
open L2 (V Hp HO St TE TT TS TA TG TI TO Ends VK XK WX SqL SqT Rd upd upd_same upd_ne PE PT PA PS PSs PG PI PW PO Cx R2 OpR CallR)
variable {g : G} {H H0 H1 H2 H' : Hp} {F F0 F1 F2 F' : AS} {S S0 S1 S2 S' Se Se' Sv P T : AS} {σ : St} {e e' : Env} {W : WX}
/-- values that are looked at -/
def RepsA (g : G) (H : Hp) (F : AS) : List V → List D → Prop
  | [], [] => True
  | v :: vs, d :: ds => Rep g H F v d all_ ∧ RepsA g H F vs ds
  | _, _ => False
/-- a reading of values that are looked at -/
def UVL (g : G) (W : WX) (m : M (List D)) : TA := fun σ H Q => ∃ e F S, Own S H F ∧ Ma g H F e σ S ∧
  Out g W σ S H F (m e) fun ds e' => ∀ vs H' F' Se, Cur g σ S H F e' H' F' Se none_ → RepsA g H' F' vs ds → Q vs H'
theorem Cur.uvl {m : M (List D)} {Ok : List D → Env → Prop} {Q : List V → Hp → Prop} (c : Cur g σ S0 H0 F0 e H F Se P) (o : Out g W σ S0 H0 F0 (m e) Ok)
    (k : ∀ d e', m e = .ok d e' → Ok d e' → ∀ vs H' F' Se', Cur g σ Se H F e' H' F' Se' none_ → Cur g σ S0 H0 F0 e' H' F' Se' P → RepsA g H' F' vs d → Q vs H') : UVL g W m σ H Q :=
  ⟨e, F, Se, c.ownE, c.mt, (o.rebase c).mono fun d e' z w v H' F' Se' c' r => k d e' z w v H' F' Se' c' ((c.step c').less fun _ => .inl) r⟩
section
variable {X : Cx} {a b c : PySem.Expr} {es : List PySem.Expr} {pos : PySem.Pos} {ma mb mc : M D} {ms : M (List D)} {ta tb : M Bool}
theorem u_vnil : PA X [] (UVL g W (pure [])) := pa_weak L2.pa_nil fun σ H Q h => by
  obtain ⟨e, F, S, o, mt, out⟩ := h
  exact out [] H F S (Cur.start o mt) trivial
theorem u_vone (h : PE X a (UV g W ma)) (hs : PySem.starEach [a] X.env = (false, PySem.eval a X.env) :: PySem.starEach [] X.env) : PA X [a] (UVL g W (do return [← ma])) := by
  refine pa_weak (L2.pa_cons h L2.pa_nil hs) fun σ H Q w => ?_
  obtain ⟨e, F, S, o, mt, out⟩ := w
  refine (Cur.start o mt).uv (Out.bind out) fun d e1 _ o1 v H1 F1 Se1 c1 c1' r1 => ?_
  exact o1 [v] H1 F1 Se1 c1' ⟨r1, trivial⟩
theorem u_vcons (h : PE X a (UE g W ma)) (hr : PA X es (UVL g W ms)) (hs : PySem.starEach (a :: es) X.env = (false, PySem.eval a X.env) :: PySem.starEach es X.env) :
    PA X (a :: es) (UVL g W (do
      let d ← ma
      return d :: (← ms))) := by
  refine pa_weak (L2.pa_cons h hr hs) fun σ H Q w => ?_
  obtain ⟨e, F, S, o, mt, out⟩ := w
  refine (Cur.start o mt).ue (Out.bind out) fun d e1 _ o1 v H1 F1 Se1 Sv1 c1 c1' r1 => ?_
  refine c1'.uvl (Out.bind o1) fun ds e2 _ o2 vs H2 F2 Se2 c2 c2' r2 => ?_
  exact o2 (v :: vs) H2 F2 Se2 c2'.none ⟨(c1'.kept c2 r1 fun a z => .inr z).mono fun _ _ => trivial, r2⟩
end
/-! ### lists of ints, bools, texts -/
theorem reps_int : ∀ {ds : List D} {vs : List V} {P : AS} {ns : List Int}, Reps g H F vs ds P → D.ints ds = some ns → vs = ns.map V.int
  | [], _, _, _, h, e => by cases e; rw [show _ = [] from h]; rfl
  | .int i :: ds, _, _, _, h, e => by
    obtain ⟨v, r, S1, S2, rfl, h1, h2, h3, p, q⟩ := h
    obtain ⟨ns, e1, e2⟩ := Option.map_eq_some_iff.mp (show (D.ints ds).map (i :: ·) = some _ from e)
    subst e2
    have k := reps_int q e1
    cases (show v = .int i from p)
    rw [k]; rfl
  | .non :: _, _, _, _, h, e => by cases e
  | .bl _ :: _, _, _, _, h, e => by cases e
  | .str _ :: _, _, _, _, h, e => by cases e
  | .tup _ :: _, _, _, _, h, e => by cases e
  | .lst _ :: _, _, _, _, h, e => by cases e
  | .own _ :: _, _, _, _, h, e => by cases e
  | .fn _ :: _, _, _, _, h, e => by cases e
  | .scr _ :: _, _, _, _, h, e => by cases e
theorem reps_bl : ∀ {ds : List D} {vs : List V} {P : AS} {ns : List Bool}, Reps g H F vs ds P → D.bls ds = some ns → vs = ns.map V.bl
  | [], _, _, _, h, e => by cases e; rw [show _ = [] from h]; rfl
  | .bl i :: ds, _, _, _, h, e => by
    obtain ⟨v, r, S1, S2, rfl, h1, h2, h3, p, q⟩ := h
    obtain ⟨ns, e1, e2⟩ := Option.map_eq_some_iff.mp (show (D.bls ds).map (i :: ·) = some _ from e)
    subst e2
    have k := reps_bl q e1
    cases (show v = .bl i from p)
    rw [k]; rfl
  | .non :: _, _, _, _, h, e => by cases e
  | .int _ :: _, _, _, _, h, e => by cases e
  | .str _ :: _, _, _, _, h, e => by cases e
  | .tup _ :: _, _, _, _, h, e => by cases e
  | .lst _ :: _, _, _, _, h, e => by cases e
  | .own _ :: _, _, _, _, h, e => by cases e
  | .fn _ :: _, _, _, _, h, e => by cases e
  | .scr _ :: _, _, _, _, h, e => by cases e
abbrev sV (s : List Nat) : PySem.Str := ⟨s.toArray⟩
theorem reps_str : ∀ {ds : List D} {vs : List V} {P : AS} {ns : List (List Nat)}, Reps g H F vs ds P → D.strs ds = some ns → vs = (ns.map sV).map V.str
  | [], _, _, _, h, e => by cases e; rw [show _ = [] from h]; rfl
  | .str i :: ds, _, _, _, h, e => by
    obtain ⟨v, r, S1, S2, rfl, h1, h2, h3, p, q⟩ := h
    obtain ⟨ns, e1, e2⟩ := Option.map_eq_some_iff.mp (show (D.strs ds).map (i :: ·) = some _ from e)
    subst e2
    have k := reps_str q e1
    cases (show v = .str ⟨i.toArray⟩ from p)
    rw [k]; rfl
  | .non :: _, _, _, _, h, e => by cases e
  | .int _ :: _, _, _, _, h, e => by cases e
  | .bl _ :: _, _, _, _, h, e => by cases e
  | .tup _ :: _, _, _, _, h, e => by cases e
  | .lst _ :: _, _, _, _, h, e => by cases e
  | .own _ :: _, _, _, _, h, e => by cases e
  | .fn _ :: _, _, _, _, h, e => by cases e
  | .scr _ :: _, _, _, _, h, e => by cases e
theorem reps_strs : ∀ {ns : List (List Nat)}, Reps g H F ((ns.map sV).map V.str) (ns.map D.str) none_
  | [] => rfl
  | n :: ns => Reps.cons0 (show Rep g H F (.str ⟨n.toArray⟩) (.str n) none_ from rfl) reps_strs
/-- a list's items -/
theorem Rep.listL {d : D} {v : V} {ds : List D} (r : Rep g H F v d P) (h : d.list? = some ds) : ∃ a vs, v = .ref a ∧ H a = some (.lst vs) ∧ ∃ P', Reps g H F vs ds P' := by
  cases d with
  | lst es => cases h; obtain ⟨a, vs, e, q, _, r⟩ := r; exact ⟨a, vs, e, q, _, r⟩
  | own es => cases h; obtain ⟨a, vs, e, q, _, r⟩ := r; exact ⟨a, vs, e, q, _, r⟩
  | _ => cases h
/-! ### sorting -/
theorem insB_perm {α : Type} (le : α → α → Bool) (x : α) : ∀ l : List α, (insB le x l).Perm (x :: l)
  | [] => List.Perm.refl _
  | y :: r => by
    unfold insB
    split
    · exact List.Perm.refl _
    · exact ((insB_perm le x r).cons y).trans (List.Perm.swap x y r)
theorem sortB_perm {α : Type} (le : α → α → Bool) : ∀ l : List α, (sortB le l).Perm l
  | [] => List.Perm.refl _
  | x :: r => (insB_perm le x _).trans ((sortB_perm le r).cons x)
theorem insB_sorted {α : Type} {le : α → α → Bool} (tot : ∀ x y, le x y = false → le y x = true) (tr : ∀ x y z, le x y = true → le y z = true → le x z = true) (x : α) : ∀ {l : List α}, l.Pairwise (fun a b => le a b = true) → (insB le x l).Pairwise (fun a b => le a b = true)
  | [], _ => List.pairwise_singleton _ _
  | y :: r, h => by
    unfold insB
    have h' := List.pairwise_cons.mp h
    by_cases c : le x y = true
    · rw [if_pos c]
      refine List.pairwise_cons.mpr ⟨fun z hz => ?_, h⟩
      rcases List.mem_cons.mp hz with rfl | hz
      · exact c
      · exact tr _ _ _ c (h'.1 z hz)
    · rw [if_neg c]
      refine List.pairwise_cons.mpr ⟨fun z hz => ?_, insB_sorted tot tr x h'.2⟩
      rcases List.mem_cons.mp ((insB_perm le x r).mem_iff.mp hz) with rfl | hz
      · exact tot _ _ (by simpa using c)
      · exact h'.1 z hz
theorem sortB_sorted {α : Type} {le : α → α → Bool} (tot : ∀ x y, le x y = false → le y x = true) (tr : ∀ x y z, le x y = true → le y z = true → le x z = true) : ∀ l : List α, (sortB le l).Pairwise (fun a b => le a b = true)
  | [] => List.Pairwise.nil
  | x :: r => insB_sorted tot tr x (sortB_sorted tot tr r)
theorem sortB_uniq {α : Type} {le : α → α → Bool} (tot : ∀ x y, le x y = false → le y x = true) (tr : ∀ x y z, le x y = true → le y z = true → le x z = true) (anti : ∀ x y, le x y = true → le y x = true → x = y) {l m : List α} (p : m.Perm l) (s : m.Pairwise (fun a b => le a b = true)) : m = sortB le l :=
  List.Perm.eq_of_pairwise (fun a b _ _ h1 h2 => anti a b h1 h2) s (sortB_sorted tot tr l) (p.trans (sortB_perm le l).symm)
theorem leI_tot (x y : Int) (h : leI x y = false) : leI y x = true := by unfold leI at *; simp at *; omega
theorem leI_tr (x y z : Int) (h : leI x y = true) (h' : leI y z = true) : leI x z = true := by unfold leI at *; simp at *; omega
theorem leI_anti (x y : Int) (h : leI x y = true) (h' : leI y x = true) : x = y := by unfold leI at *; simp at *; omega
theorem ltStr_asymm : ∀ x y : List Nat, ltStr x y = true → ltStr y x = false
  | [], [], h => by cases h
  | [], _ :: _, _ => rfl
  | _ :: _, [], h => by cases h
  | a :: x, b :: y, h => by
    unfold ltStr at *
    by_cases e : a = b
    · subst e; simp at *; exact ltStr_asymm x y h
    · rw [if_neg e] at h; rw [if_neg (fun z => e z.symm)]; simp at *; omega
theorem leStr_tot (x y : List Nat) (h : leStr x y = false) : leStr y x = true := by
  unfold leStr at *
  simp at *
  exact ltStr_asymm _ _ h
theorem ltStr_trn : ∀ x y z : List Nat, ltStr y x = false → ltStr z y = false → ltStr z x = false
  | [], y, [], _, _ => rfl
  | [], [], _ :: _, _, h => by cases h; rfl
  | [], _ :: _, _ :: _, _, _ => rfl
  | a :: x, [], z, h, _ => by cases h
  | a :: x, b :: y, [], _, h => by cases h
  | a :: x, b :: y, c :: z, h1, h2 => by
    unfold ltStr at *
    by_cases e : b = a
    · subst e
      rw [if_pos rfl] at h1
      by_cases e2 : c = b
      · subst e2; rw [if_pos rfl] at h2 ⊢; exact ltStr_trn x y z h1 h2
      · rw [if_neg e2] at h2 ⊢; exact h2
    · rw [if_neg e] at h1
      by_cases e2 : c = b
      · subst e2; rw [if_neg e]; exact h1
      · rw [if_neg e2] at h2
        have h1 : ¬ b < a := of_decide_eq_false h1
        have h2 : ¬ c < b := of_decide_eq_false h2
        rw [if_neg (by omega)]
        exact decide_eq_false (by omega)
theorem leStr_tr (x y z : List Nat) (h : leStr x y = true) (h' : leStr y z = true) : leStr x z = true := by
  unfold leStr at *
  simp at *
  exact ltStr_trn x y z h h'
theorem ltStr_anti : ∀ x y : List Nat, ltStr y x = false → ltStr x y = false → x = y
  | [], [], _, _ => rfl
  | [], _ :: _, _, h => by cases h
  | _ :: _, [], h, _ => by cases h
  | a :: x, b :: y, h1, h2 => by
    unfold ltStr at *
    by_cases e : b = a
    · subst e; rw [if_pos rfl] at h1 h2; rw [ltStr_anti x y h1 h2]
    · rw [if_neg e] at h1
      rw [if_neg (fun z => e z.symm)] at h2
      have h1 : ¬ b < a := of_decide_eq_false h1
      have h2 : ¬ a < b := of_decide_eq_false h2
      omega
theorem leStr_anti (x y : List Nat) (h : leStr x y = true) (h' : leStr y x = true) : x = y := by
  unfold leStr at *
  simp at *
  exact ltStr_anti x y h h'
theorem ltCps_is : ∀ a b : List Nat, PySem.Spec.ltCps a b = ltStr a b
  | [], [] => rfl
  | [], _ :: _ => rfl
  | _ :: _, [] => rfl
  | x :: a, y :: b => by
    unfold PySem.Spec.ltCps ltStr
    rw [ltCps_is a b]
    by_cases e : x = y
    · subst e; simp
    · simp [e]
theorem risingS_pw : ∀ (l : List PySem.Str) (p : PySem.Str), PyProof.Rows.risingS p l = true → (p :: l).Pairwise (fun a b => leStr a.cps.toList b.cps.toList = true)
  | [], p, _ => List.pairwise_singleton _ _
  | x :: r, p, h => by
    have h : (!PySem.Spec.ltCps x.cps.toList p.cps.toList && PyProof.Rows.risingS x r) = true := h
    rw [Bool.and_eq_true] at h
    have ih := risingS_pw r x h.2
    have e : leStr p.cps.toList x.cps.toList = true := by unfold leStr; rw [← ltCps_is]; exact h.1
    refine List.pairwise_cons.mpr ⟨fun z hz => ?_, ih⟩
    rcases List.mem_cons.mp hz with rfl | hz
    · exact e
    · exact leStr_tr _ _ _ e ((List.pairwise_cons.mp ih).1 z hz)
theorem sortedS_pw {l : List PySem.Str} (h : PyProof.Rows.sortedS l = true) : l.Pairwise (fun a b => leStr a.cps.toList b.cps.toList = true) := by
  cases l with
  | nil => exact .nil
  | cons x r => exact risingS_pw r x h
theorem sorted_is {ss : List (List Nat)} {ys : List PySem.Str} (p : ys.Perm (ss.map sV)) (h : PyProof.Rows.sortedS ys = true) : ys = (sortB leStr ss).map sV := by
  have e : ys = (ys.map fun y => y.cps.toList).map sV := by
    rw [List.map_map]
    have : (sV ∘ fun y : PySem.Str => y.cps.toList) = id := by funext y; rfl
    rw [this, List.map_id]
  have q := p.map fun y : PySem.Str => y.cps.toList
  rw [List.map_map, show ((fun y : PySem.Str => y.cps.toList) ∘ sV) = id from by funext y; rfl, List.map_id] at q
  rw [e, sortB_uniq leStr_tot leStr_tr leStr_anti q (List.pairwise_map.mpr (sortedS_pw h))]
end Py
namespace L2
open PySem PySem.Spec PyProof.Rows
variable {X : Cx}
/-- sorted(xs), texts, any number of them -/
def rSortedSA (K : PySem.W.Frag) : List V → Hp → VK → Prop := fun vs H Q => ∃ (a : Addr) (xs : List Str), vs = [V.ref a] ∧ SqL K H a (xs.map V.str) ∧
  ∀ (ys : List Str) (p : Addr), ys.Perm xs → sortedS ys = true → H p = none → Q (.ref p) (upd H p (.lst (ys.map V.str)))
theorem cr_sortedSA : CallR X (.builtin "sorted") (rSortedSA X.K) := by
  intro pins s σ H vs us Q I r h
  obtain ⟨a, xs, rfl, hs, q⟩ := h
  obtain ⟨its, rv, hl, hz⟩ := I.list hs
  rw [Vals.ref1 r]
  have n0 := rv.length
  rw [List.length_map] at n0 hz
  refine PyProof.Rows.sorted_strsAny hl.isList rv.strs (by omega) fun out ys p1 p2 p3 => ?_
  obtain ⟨ep, hat⟩ := PyProof.Rows.sortedAll_at s.heap its out
  refine ⟨.ref _, upd H (s.heap.objs.size + 1) (.lst (ys.map V.str)), I.laid (t' := s.toks) (fun _ _ => PyProof.Rows.sortedAll_old) (Nat.le_succ _) ⟨?_, out.toList, ep, vals_of_strs p1, hat⟩, rfl, q ys _ p2 p3 (I.hok.fresh (Nat.le_succ _))⟩
  rw [List.length_map, p2.length_eq]; exact hz
end L2
end
section
/-! S4b: built-in functions, the rules -/
namespace Py
open L2 (V Hp HO St TE TT TS TA TG TI TO Ends VK XK WX SqL SqT Rd upd upd_same upd_ne PE PT PA PS PSs PG PI PW PO Cx R2 OpR CallR)
variable {g : G} {H H0 H1 H2 H' : Hp} {F F0 F1 F2 F' : AS} {S S0 S1 S2 S' Se Se' Sv P T : AS} {σ : St} {e e' : Env} {W : WX}
def biName : Bi → PySem.Str
  | .len => "len"
  | .abs => "abs"
  | .max => "max"
  | .min => "min"
  | .sum => "sum"
  | .any => "any"
  | .all => "all"
  | .sorted => "sorted"
  | .int => "int"
  | .str => "str"
  | .list => "list"
  | .tuple => "tuple"
def biFn : Bi → PySem.Value
  | .len => .builtin "len"
  | .abs => .builtin "abs"
  | .max => .builtin "max"
  | .min => .builtin "min"
  | .sum => .builtin "sum"
  | .any => .builtin "any"
  | .all => .builtin "all"
  | .sorted => .builtin "sorted"
  | .int => .type "int"
  | .str => .type "str"
  | .list => .type "list"
  | .tuple => .type "tuple"
theorem bi_boot : ∀ b : Bi, PySem.bootBuiltins (biName b) = some (biFn b)
  | .len => PySem.boot_len
  | .abs => by decide +kernel
  | .max => by decide +kernel
  | .min => by decide +kernel
  | .sum => by decide +kernel
  | .any => by decide +kernel
  | .all => by decide +kernel
  | .sorted => by decide +kernel
  | .int => by decide +kernel
  | .str => by decide +kernel
  | .list => by decide +kernel
  | .tuple => by decide +kernel
abbrev RC := List V → Hp → VK → Prop
def rBi (K : PySem.W.Frag) : Bi → RC
  | .len => fun xs H Q => ∃ x n, xs = [x] ∧ L2.LenV K x H n ∧ Q (.int n) H
  | .abs => fun xs H Q => ∃ i, xs = [.int i] ∧ Q (.int (if i < 0 then -i else i)) H
  | .max => fun xs H Q => (∃ i j, xs = [.int i, .int j] ∧ Q (.int (if j > i then j else i)) H) ∨ L2.rMax K xs H Q
  | .min => fun xs H Q => (∃ i j, xs = [.int i, .int j] ∧ Q (.int (if j < i then j else i)) H) ∨ L2.rMin K xs H Q
  | .sum => L2.rSum K
  | .any => L2.rAny K
  | .all => L2.rAll K
  | .sorted => fun xs H Q => L2.rSortedI K xs H Q ∨ L2.rSortedSA K xs H Q
  | .int => fun xs H Q => ((∃ i, xs = [.int i] ∧ Q (.int i) H) ∨ ∃ k, xs = [.bl k] ∧ Q (.int (if k then 1 else 0)) H) ∨ ∃ a n, xs = [.str a] ∧ PySem.intText? a = some n ∧ a.length ≤ 640 ∧ Q (.int n) H
  | .str => fun xs H Q => ∃ i, xs = [.int i] ∧ i.natAbs.log2 < 1920 ∧ Q (.str (toString i)) H
  | .list => fun xs H Q => ∃ p ys, xs = [.ref p] ∧ (SqL K H p ys ∨ SqT K H p ys) ∧ ∀ l, H l = none → Q (.ref l) (upd H l (.lst ys))
  | .tuple => fun xs H Q => ∃ p ys, xs = [.ref p] ∧ ((SqL K H p ys ∧ ∀ l, H l = none → Q (.ref l) (upd H l (.tup ys))) ∨ (SqT K H p ys ∧ Q (.ref p) H))
theorem call_bi {X : Cx} (hc : X.calm = true) : ∀ b : Bi, CallR X (biFn b) (rBi X.K b)
  | .len => L2.call_len
  | .abs => L2.call_abs
  | .max => L2.CallR.or (L2.call_max2 hc) (L2.cr_max hc)
  | .min => L2.CallR.or (L2.call_min2 hc) (L2.cr_min hc)
  | .sum => L2.cr_sum hc
  | .any => L2.cr_any hc
  | .all => L2.cr_all hc
  | .sorted => L2.CallR.or L2.cr_sortedI L2.cr_sortedSA
  | .int => L2.CallR.or L2.call_int1 L2.call_int_str
  | .str => L2.call_str_int
  | .list => L2.call_list_of
  | .tuple => L2.call_tuple_of
theorem fold_max : ∀ (ns : List Int) (x m : Int), m ∈ x :: ns → (∀ y, y ∈ x :: ns → y ≤ m) → ns.foldl (fun m y => if y > m then y else m) x = m
  | [], x, m, h, _ => (List.mem_singleton.mp h).symm
  | y :: ns, x, m, h, k => by
    rw [List.foldl_cons]
    refine fold_max ns _ m ?_ fun z hz => ?_
    · have k1 := k x (by simp); have k2 := k y (by simp)
      by_cases c : y > x
      · rw [if_pos c]
        rcases List.mem_cons.mp h with rfl | h
        · omega
        · exact h
      · rw [if_neg c]
        rcases List.mem_cons.mp h with rfl | h
        · simp
        · rcases List.mem_cons.mp h with rfl | h
          · have : m = x := by omega
            rw [this]; simp
          · exact List.mem_cons_of_mem _ h
    · rcases List.mem_cons.mp hz with rfl | hz
      · split
        · exact k _ (by simp)
        · exact k _ (by simp)
      · exact k _ (List.mem_cons_of_mem _ (List.mem_cons_of_mem _ hz))
theorem fold_min : ∀ (ns : List Int) (x m : Int), m ∈ x :: ns → (∀ y, y ∈ x :: ns → m ≤ y) → ns.foldl (fun m y => if y < m then y else m) x = m
  | [], x, m, h, _ => (List.mem_singleton.mp h).symm
  | y :: ns, x, m, h, k => by
    rw [List.foldl_cons]
    refine fold_min ns _ m ?_ fun z hz => ?_
    · have k1 := k x (by simp); have k2 := k y (by simp)
      by_cases c : y < x
      · rw [if_pos c]
        rcases List.mem_cons.mp h with rfl | h
        · omega
        · exact h
      · rw [if_neg c]
        rcases List.mem_cons.mp h with rfl | h
        · simp
        · rcases List.mem_cons.mp h with rfl | h
          · have : m = x := by omega
            rw [this]; simp
          · exact List.mem_cons_of_mem _ h
    · rcases List.mem_cons.mp hz with rfl | hz
      · split
        · exact k _ (by simp)
        · exact k _ (by simp)
      · exact k _ (List.mem_cons_of_mem _ (List.mem_cons_of_mem _ hz))
theorem figures_eq (n : Nat) : figures n = TL.numL n := by
  have key : ∀ f n, n < f → digitsAux f n = TL.numL n := by
    intro f
    induction f with
    | zero => intro n h; omega
    | succ f ih =>
      intro n h
      unfold digitsAux
      by_cases c : n < 10
      · rw [if_pos c, TL.numL_lt c]
      · rw [if_neg c, TL.numL_step (by omega), ih (n / 10) (by omega)]
  exact key (n + 1) n (by omega)
theorem RepsA.one {vs : List V} {d : D} (h : RepsA g H F vs [d]) : ∃ v, vs = [v] ∧ Rep g H F v d all_ := by
  cases vs with
  | nil => exact h.elim
  | cons v r => cases r with
    | nil => exact ⟨v, rfl, h.1⟩
    | cons _ _ => exact h.2.elim
theorem RepsA.two {vs : List V} {d d' : D} (h : RepsA g H F vs [d, d']) : ∃ v w, vs = [v, w] ∧ Rep g H F v d all_ ∧ Rep g H F w d' all_ := by
  cases vs with
  | nil => exact h.elim
  | cons v r =>
    obtain ⟨w, rfl, h2⟩ := h.2.one
    exact ⟨v, w, rfl, h.1, h2⟩
theorem Fin.int {Q : VK} {i : Int} (f : Fin g H F Q (.int i)) : Q (.int i) H := f.1 _ (show Rep g H F (.int i) (.int i) none_ from rfl)
theorem Fin.bl {Q : VK} {i : Bool} (f : Fin g H F Q (.bl i)) : Q (.bl i) H := f.1 _ (show Rep g H F (.bl i) (.bl i) none_ from rfl)
theorem Fin.str {Q : VK} {s : List Nat} (f : Fin g H F Q (.str s)) : Q (.str (sV s)) H := f.1 _ (show Rep g H F (.str ⟨s.toArray⟩) (.str s) none_ from rfl)
theorem list_ints {d : D} {v : V} {ns : List Int} (r : Rep g H F v d P) (h : d.list?.bind D.ints = some ns) : ∃ a, v = .ref a ∧ SqL g.K H a (ns.map V.int) := by
  obtain ⟨ds, h1, h2⟩ := Option.bind_eq_some_iff.mp h
  obtain ⟨a, vs, rfl, q, P', r'⟩ := r.listL h1
  have e := reps_int r' h2
  subst e
  exact ⟨a, rfl, .inl (.inl q)⟩
theorem list_bls {d : D} {v : V} {ns : List Bool} (r : Rep g H F v d P) (h : d.list?.bind D.bls = some ns) : ∃ a, v = .ref a ∧ SqL g.K H a (ns.map V.bl) := by
  obtain ⟨ds, h1, h2⟩ := Option.bind_eq_some_iff.mp h
  obtain ⟨a, vs, rfl, q, P', r'⟩ := r.listL h1
  have e := reps_bl r' h2
  subst e
  exact ⟨a, rfl, .inl (.inl q)⟩
theorem bi_ok {b : Bi} {vs : List V} {ds : List D} {d : D} {Q : VK} (r : RepsA g H F vs ds) (h : biSem b ds = some d) (f : Fin g H F Q d) : rBi g.K b vs H Q := by
  match ds, r, h with
  | [], r, h => cases h
  | [x, y], r, h =>
    obtain ⟨v, w, rfl, r1, r2⟩ := r.two
    cases b with
    | max =>
      cases x <;> first | (cases h; done) | skip
      cases y <;> first | (cases h; done) | skip
      cases (show v = .int _ from r1); cases (show w = .int _ from r2); cases h
      exact .inl ⟨_, _, rfl, f.int⟩
    | min =>
      cases x <;> first | (cases h; done) | skip
      cases y <;> first | (cases h; done) | skip
      cases (show v = .int _ from r1); cases (show w = .int _ from r2); cases h
      exact .inl ⟨_, _, rfl, f.int⟩
    | _ => cases h
  | x :: y :: z :: t, r, h => cases h
  | [x], r, h =>
    obtain ⟨v, rfl, r1⟩ := r.one
    cases b with
    | len =>
      obtain ⟨n, h1, h2⟩ := Option.map_eq_some_iff.mp (show (lenSem x).map (fun n : Nat => D.int n) = some d from h)
      subst h2
      refine ⟨v, n, rfl, ?_, f.int⟩
      cases x with
      | str s =>
        cases (show v = .str ⟨s.toArray⟩ from r1)
        have h1 : (if s.length ≤ LIM then some s.length else none) = some n := h1
        by_cases hl : s.length ≤ LIM
        · rw [if_pos hl] at h1; cases h1
          exact ⟨by rw [str_len, LIM_eq]; exact hl, by rw [str_len]⟩
        · rw [if_neg hl] at h1; cases h1
      | tup es => obtain ⟨a, us, rfl, q, rr⟩ := r1; cases h1; exact .inr ⟨us, q, by rw [rr.length]⟩
      | lst es => obtain ⟨a, us, rfl, q, s, rr⟩ := r1; cases h1; exact .inl ⟨us, .inl (.inl q), by rw [rr.length]⟩
      | own es => obtain ⟨a, us, rfl, q, s, rr⟩ := r1; cases h1; exact .inl ⟨us, .inl (.inl q), by rw [rr.length]⟩
      | _ => cases h1
    | abs =>
      cases x <;> first | (cases h; done) | skip
      cases (show v = .int _ from r1); cases h
      exact ⟨_, rfl, f.int⟩
    | max =>
      have h : ((x.list?.bind D.ints).bind fun ns => (maxL ns).map D.int) = some d := h
      obtain ⟨ns, h1, h2⟩ := Option.bind_eq_some_iff.mp h
      obtain ⟨m, h3, h4⟩ := Option.map_eq_some_iff.mp h2
      subst h4
      obtain ⟨a, rfl, q⟩ := list_ints r1 h1
      cases ns with
      | nil => cases h3
      | cons y r =>
        cases h3
        refine .inr ⟨a, _, rfl, q, by simp, fun m hm hk => ?_⟩
        rw [← fold_max r y m hm hk]; exact f.int
    | min =>
      have h : ((x.list?.bind D.ints).bind fun ns => (minL ns).map D.int) = some d := h
      obtain ⟨ns, h1, h2⟩ := Option.bind_eq_some_iff.mp h
      obtain ⟨m, h3, h4⟩ := Option.map_eq_some_iff.mp h2
      subst h4
      obtain ⟨a, rfl, q⟩ := list_ints r1 h1
      cases ns with
      | nil => cases h3
      | cons y r =>
        cases h3
        refine .inr ⟨a, _, rfl, q, by simp, fun m hm hk => ?_⟩
        rw [← fold_min r y m hm hk]; exact f.int
    | sum =>
      obtain ⟨ns, h1, h2⟩ := Option.map_eq_some_iff.mp (show (x.list?.bind D.ints).map (fun ns => D.int ns.sum) = some d from h)
      subst h2
      obtain ⟨a, rfl, q⟩ := list_ints r1 h1
      exact ⟨a, ns, rfl, q, f.int⟩
    | any =>
      obtain ⟨ns, h1, h2⟩ := Option.map_eq_some_iff.mp (show (x.list?.bind D.bls).map (fun bs => D.bl (bs.any id)) = some d from h)
      subst h2
      obtain ⟨a, rfl, q⟩ := list_bls r1 h1
      exact ⟨a, ns, rfl, q, f.bl⟩
    | all =>
      obtain ⟨ns, h1, h2⟩ := Option.map_eq_some_iff.mp (show (x.list?.bind D.bls).map (fun bs => D.bl (bs.all id)) = some d from h)
      subst h2
      obtain ⟨a, rfl, q⟩ := list_bls r1 h1
      exact ⟨a, ns, rfl, q, f.bl⟩
    | sorted =>
      obtain ⟨es, h1, h2⟩ := Option.map_eq_some_iff.mp (show (x.list?.bind sortSem).map D.own = some d from h)
      subst h2
      obtain ⟨ds, h3, h4⟩ := Option.bind_eq_some_iff.mp h1
      obtain ⟨a, us, rfl, q, P', rr⟩ := r1.listL h3
      unfold sortSem at h4
      cases hi : D.ints ds with
      | some ns =>
        rw [hi] at h4; cases h4
        have e := reps_int rr hi; subst e
        refine .inl ⟨a, ns, rfl, .inl (.inl q), fun ns' p pm pw hp => ?_⟩
        have e := sortB_uniq (le := leI) leI_tot leI_tr leI_anti pm (pw.imp fun {a b} h => by unfold leI; exact decide_eq_true h)
        subst e
        exact f.lst hp reps_ints
      | none =>
        rw [hi] at h4
        obtain ⟨ss, h5, h6⟩ := Option.map_eq_some_iff.mp h4
        subst h6
        have e := reps_str rr h5; subst e
        refine .inr ⟨a, ss.map sV, rfl, .inl (.inl q), fun ys p pm pw hp => ?_⟩
        have e := sorted_is pm pw
        subst e
        exact f.lst hp reps_strs
    | int =>
      cases x <;> first | (cases h; done) | skip
      · cases (show v = .bl _ from r1); cases h; exact .inl (.inr ⟨_, rfl, f.int⟩)
      · cases (show v = .int _ from r1); cases h; exact .inl (.inl ⟨_, rfl, f.int⟩)
      · rename_i s
        cases (show v = .str ⟨s.toArray⟩ from r1)
        have h : (if s ≠ [] ∧ s.length ≤ 640 ∧ s.all (fun c => decide (48 ≤ c) && decide (c ≤ 57)) then some (D.int (intOfFigures s)) else none) = some d := h
        split at h
        · rename_i c
          cases h
          refine .inr ⟨_, _, rfl, SX.int_S (a := s) c.2.2 c.1 (by omega), by rw [str_len]; exact c.2.1, f.int⟩
        · cases h
    | str =>
      cases x <;> first | (cases h; done) | skip
      rename_i i
      cases (show v = .int i from r1)
      have h : (if 0 ≤ i ∧ i < 2 ^ 1900 then some (D.str (strOfInt i)) else none) = some d := h
      split at h
      · rename_i c
        cases h
        obtain ⟨n, rfl⟩ := Int.eq_ofNat_of_zero_le c.1
        refine ⟨_, rfl, PySem.Flt.log2_lt_of (k := 1920) (by omega) ?_, ?_⟩
        · have hp : (2 : Nat) ^ 1900 ≤ 2 ^ 1920 := Nat.pow_le_pow_right (by omega) (by omega)
          have c2 := c.2
          rw [Int.natAbs_natCast]
          have : (n : Int) < ((2 ^ 1900 : Nat) : Int) := by rw [Int.natCast_pow]; exact c2
          omega
        · have e : (PySem.Str.ofString (toString ((n : Nat) : Int))) = sV (strOfInt (n : Int)) := by
            unfold strOfInt
            rw [Int.toNat_natCast, figures_eq]
            have := TL.tl_num n
            unfold sV
            rw [← this]
          show Q (.str (PySem.Str.ofString (toString ((n : Nat) : Int)))) H
          rw [e]; exact f.str
      · cases h
    | list =>
      obtain ⟨es, h1, h2⟩ := Option.bind_eq_some_iff.mp (show (x.items.bind fun ds => if D.plains ds then some (D.own ds) else none) = some d from h)
      by_cases hp : D.plains es = true
      · rw [if_pos hp] at h2; cases h2
        obtain ⟨a, us, rfl, q, rr⟩ := r1.items h1
        exact ⟨a, us, rfl, q, fun l hl => f.lst hl (Reps.plain hp rr)⟩
      · rw [if_neg hp] at h2; cases h2
    | tuple =>
      obtain ⟨es, h1, h2⟩ := Option.bind_eq_some_iff.mp (show (x.items.bind fun ds => if D.plains ds then some (D.tup ds) else none) = some d from h)
      by_cases hp : D.plains es = true
      · rw [if_pos hp] at h2; cases h2
        obtain ⟨a, us, rfl, q, rr⟩ := r1.items h1
        have rr := Reps.plain hp rr
        rcases q with q | q
        · exact ⟨a, us, rfl, .inl ⟨q, fun l hl => f.tup hl rr⟩⟩
        · exact ⟨a, us, rfl, .inr ⟨q, f.1 (.ref a) ⟨a, us, rfl, q, rr⟩⟩⟩
      · rw [if_neg hp] at h2; cases h2
end Py
end
section
/-! S4c: calls of built-in functions, isinstance, methods, turned lists -/
namespace Py
open L2 (V Hp HO St TE TT TS TA TG TI TO Ends VK XK WX SqL SqT Rd upd upd_same upd_ne PE PT PA PS PSs PG PI PW PO Cx R2 OpR CallR)
variable {g : G} {H H0 H1 H2 H' : Hp} {F F0 F1 F2 F' : AS} {S S0 S1 S2 S' Se Se' Sv P T : AS} {σ : St} {e e' : Env} {W : WX}
/-- something new that nobody owns -/
theorem Cur.push {p : Adr} {o : HO} (c : Cur g σ S0 H0 F0 e H F Se P) (h : H p = Option.none) : Cur g σ S0 H0 F0 e (upd H p o) F Se P :=
  ⟨c.aft.trans (Aft.fresh c.aft.ow h fun b z => .inl z), c.dj, c.mt.stay (fun a ob z _ => by
    have n : a ≠ p := by rintro rfl; rw [h] at z; cases z
    rw [upd_ne n]; exact z) fun _ z => z⟩
/-! ### the forms of expressions -/
/-- no star, no slice, no set -/
def exq : PySem.Expr → Bool
  | .Starred _ _ => false
  | .Slice _ _ _ _ => false
  | .Set _ _ _ => false
  | _ => true
theorem star_cons {a : PySem.Expr} {es : List PySem.Expr} {env : PySem.Env} (h : exq a = true) : PySem.starEach (a :: es) env = (false, PySem.eval a env) :: PySem.starEach es env := by
  cases a <;> first | rfl | cases h
theorem back_no {pos : PySem.Pos} {env : PySem.Env} : ∀ {es : List PySem.Expr}, es.all exq = true → ((PySem.backTo pos (PySem.starEach es env)).any fun x => x.1) = false
  | [], _ => rfl
  | a :: es, h => by
    rw [List.all_cons, Bool.and_eq_true] at h
    rw [star_cons h.1]
    exact back_no h.2
theorem back_all {pos : PySem.Pos} {env : PySem.Env} : ∀ {es : List PySem.Expr}, es.all exq = true → ((PySem.backTo pos (PySem.starEach es env)).all fun x => !x.1) = true
  | [], _ => rfl
  | a :: es, h => by
    rw [List.all_cons, Bool.and_eq_true] at h
    rw [star_cons h.1]
    exact back_all h.2
theorem plainIx_of {b : PySem.Expr} (h : exq b = true) : L2.PlainIx b := by
  intro o i
  cases b <;> first | rfl | cases h
theorem marks_of {op : PySem.CmpOp} {b : PySem.Expr} (h : exq b = true) : PySem.behindInMarks op b = false := by
  cases b <;> first | rfl | cases h
theorem last2_of {o1 o2 : PySem.CmpOp} {b c : PySem.Expr} (h : exq c = true) : PySem.lastMarks [o1, o2] [b, c] = false := by
  show PySem.behindInMarks o2 c = false
  exact marks_of h
/-- its truth is asked of its value -/
def trq : PySem.Expr → Bool
  | .BoolOp _ _ _ => false
  | .UnaryOp .Not _ _ => false
  | .IfExp _ _ _ _ => false
  | .Compare _ _ _ _ => false
  | .NamedExpr _ _ _ => false
  | _ => true
theorem truth_of {a : PySem.Expr} {env : PySem.Env} (h : trq a = true) : ∀ whole, PySem.isTrue a env whole = (do let v ← whole; PySem.standAt a.pos; PySem.holding [v] (PySem.truthy v)) := by
  intro whole
  cases a <;> first | rfl | (cases h; done) | skip
  rename_i op x pos
  cases op <;> first | rfl | cases h
/-- no call of a name without arguments -/
def atq : PySem.Expr → Bool
  | .Call _ [] _ _ => false
  | _ => true
theorem base_of {o : PySem.Expr} {n : PySem.Str} {env : PySem.Env} {whole : PySem.Sem PySem.Value} (h : atq o = true) : PySem.attributeBase o n env whole = whole := by
  cases o <;> first | rfl | skip
  rename_i f as ks pos
  cases as with
  | nil => cases h
  | cons a r => cases f <;> rfl
section
variable {X : Cx} {a b c : PySem.Expr} {es : List PySem.Expr} {pos p : PySem.Pos} {ma mb mc : M D} {ms : M (List D)} {ta tb : M Bool}
/-- at the end of a reading: a result that stands or is new -/
theorem u_bi (hK : X.K = g.K) (hc : X.calm = true) (b : Bi) (hg : L2.Gl X (biName b)) (hm : X.mg (biName b) = none) (ha : PA X (a :: es) (UVL g W ms)) (hq : (a :: es).all exq = true) :
    PE X (.Call (.Name (biName b) p) (a :: es) [] pos) (UE g W (do M.of (biSem b (← ms)))) := by
  have hq' := hq
  rw [List.all_cons, Bool.and_eq_true] at hq'
  have key : PE X (.Call (.Name (biName b) p) (a :: es) [] pos) (L2.tCB (rBi g.K b) (UVL g W ms)) := by
    have hb := bi_boot b
    have hn : biName b ≠ "__name__" := by cases b <;> decide
    have hd : (biName b == ("__debug__" : PySem.Str)) = false := by cases b <;> decide
    have hr : CallR X (biFn b) (rBi g.K b) := by rw [← hK]; exact call_bi hc b
    cases b <;> first
      | exact L2.pe_callB hr hg hm hb ha hn hd (star_cons hq'.1) (back_no hq'.2)
      | exact L2.pe_callTy hr hg hm hb ha hn hd (star_cons hq'.1) (back_no hq'.2)
  refine pe_weak key fun σ H Q w => ?_
  obtain ⟨e, F, S, o, mt, out⟩ := w
  refine (Cur.start o mt).uvl (Out.bind out) fun ds e1 _ o1 vs H1 F1 Se1 c1 c1' r1 => ?_
  obtain ⟨d, hd, ok⟩ := of_end o1
  exact bi_ok r1 hd (c1'.fin ok)
/-! ### isinstance -/
def tyName : Ty → String
  | .int => "int"
  | .bool => "bool"
  | .str => "str"
  | .list => "list"
  | .tuple => "tuple"
def tyOf : D → String
  | .non => "NoneType"
  | .bl _ => "bool"
  | .int _ => "int"
  | .str _ => "str"
  | .tup _ => "tuple"
  | .lst _ => "list"
  | .own _ => "list"
  | .fn _ => ""
  | .scr _ => ""
def kits : List (String × Ty × Bool) := (["NoneType", "bool", "int", "str", "tuple", "list"].flatMap fun a => [Ty.int, .bool, .str, .list, .tuple].map fun t => (a, t, a == tyName t || (a == "bool" && t == .int)))
theorem kits_ok : (kits.all fun k => L2.kitB k.1 (tyName k.2.1) == some k.2.2) = true := by decide +kernel
theorem kit1 {K : PySem.W.Frag} {d : D} {t : Ty} {b : Bool} (h : tyIs d t = some b) : PySem.W.kitOne K (.type (tyOf d)) (.type (tyName t)) = some b := by
  refine L2.kit_ty ?_
  have k := List.all_eq_true.mp kits_ok
  have m : (tyOf d, t, b) ∈ kits := by
    cases d <;> cases t <;> cases h <;> (simp only [tyOf]; decide +kernel)
  exact eq_of_beq (k _ m)
theorem tyx_of {d : D} {v : V} {t : Ty} {b : Bool} (r : Rep g H F v d P) (h : tyIs d t = some b) : L2.TyX g.K H v (.type (tyOf d)) := by
  cases d with
  | non => cases (show v = .non from r); exact .base .non
  | bl x => cases (show v = .bl x from r); exact .base (.bl x)
  | int x => cases (show v = .int x from r); exact .base (.int x)
  | str x => cases (show v = .str _ from r); exact .base (.str _)
  | tup ds =>
    obtain ⟨a, vs, rfl, q, r⟩ := r
    rcases q with (q | ⟨o, q⟩) | q
    · exact .base (.tup q)
    · exact .fTuple q
    · obtain ⟨o, its, n, h1, h2, _⟩ := q
      exact .kTuple h1 h2
  | lst ds => obtain ⟨a, vs, rfl, q, _⟩ := r; exact .base (.lst q)
  | own ds => obtain ⟨a, vs, rfl, q, _⟩ := r; exact .base (.lst q)
  | fn f => cases h
  | scr f => cases h
theorem kitAny_of {K : PySem.W.Frag} {d : D} : ∀ {ts : List Ty} {b : Bool}, tysIs d ts = some b → PySem.W.kitAny K (.type (tyOf d)) (ts.map fun t => PySem.Value.type (tyName t)) = some b
  | [], b, h => by cases h; rfl
  | t :: r, b, h => by
    have h : (match tyIs d t, tysIs d r with
      | some a, some b => some (a || b)
      | _, _ => none) = some b := h
    cases h1 : tyIs d t with
    | none => rw [h1] at h; cases h
    | some x =>
      cases h2 : tysIs d r with
      | none => rw [h1, h2] at h; cases h
      | some y =>
        rw [h1, h2] at h
        cases h
        have k1 := kit1 (K := K) h1
        have k2 := kitAny_of (K := K) h2
        show (match PySem.W.kitOne K (.type (tyOf d)) (.type (tyName t)) with
          | some true => some true
          | some false => PySem.W.kitAny K (.type (tyOf d)) (r.map fun t => PySem.Value.type (tyName t))
          | none => none) = some (x || y)
        rw [k1]
        cases x
        · exact k2
        · rfl
theorem tyx_any {d : D} {v : V} {t : Ty} {ts : List Ty} {b : Bool} (r : Rep g H F v d P) (h : tysIs d (t :: ts) = some b) : L2.TyX g.K H v (.type (tyOf d)) := by
  have h : (match tyIs d t, tysIs d ts with
    | some a, some b => some (a || b)
    | _, _ => none) = some b := h
  cases h1 : tyIs d t with
  | none => rw [h1] at h; cases h
  | some x => exact tyx_of r h1
theorem ty_boot : ∀ t : Ty, PySem.bootBuiltins (tyName t : PySem.Str) = some (.type (tyName t))
  | .int => bi_boot .int
  | .bool => by decide +kernel
  | .str => bi_boot .str
  | .list => bi_boot .list
  | .tuple => bi_boot .tuple
/-- the class is there, by its name -/
def TyOk (X : Cx) (t : Ty) : Prop := L2.Gl X (tyName t : PySem.Str) ∧ X.mg (tyName t : PySem.Str) = none
theorem u_ty {t : Ty} {p : PySem.Pos} (h : TyOk X t) : PE X (.Name (tyName t : PySem.Str) p) (L2.tC (.ty (tyName t))) :=
  L2.pe_bltn h.1 h.2 (ty_boot t) rfl (by cases t <;> decide) (by cases t <;> decide)
theorem u_tys : ∀ {ts : List (Ty × PySem.Pos)}, (∀ t ∈ ts, TyOk X t.1) → PA X (ts.map fun t => PySem.Expr.Name (tyName t.1 : PySem.Str) t.2) (fun σ H Q => Q (ts.map fun t => V.ty (tyName t.1)) H)
  | [], _ => L2.pa_nil
  | t :: ts, h => pa_weak (L2.pa_cons (u_ty (h t (by simp))) (u_tys fun u m => h u (List.mem_cons_of_mem _ m)) rfl) fun σ H Q w => w
theorem pair_tys : ∀ ts : List Ty, PySem.Paired L2.ClsV (ts.map fun t => V.ty (tyName t)) (ts.map fun t => PySem.Value.type (tyName t))
  | [] => .nil
  | t :: ts => .cons (.ty _) (pair_tys ts)
theorem isi_boot : PySem.bootBuiltins "isinstance" = some (.builtin "isinstance") := by decide +kernel
theorem u_isi1 (hK : X.K = g.K) {t : Ty} {p2 : PySem.Pos} (hg : L2.Gl X "isinstance") (hm : X.mg "isinstance" = none) (ht : TyOk X t) (ha : PE X a (UV g W ma)) (hq : exq a = true) :
    PE X (.Call (.Name "isinstance" p) [a, .Name (tyName t : PySem.Str) p2] [] pos) (UE g W (do return .bl (← M.of (tysIs (← ma) [t])))) := by
  have pa : PA X [a, .Name (tyName t : PySem.Str) p2] _ := L2.pa_cons ha (L2.pa_cons (u_ty ht) L2.pa_nil rfl) (star_cons hq)
  refine pe_weak (L2.pe_callB (r := L2.rIsi g.K) (by rw [← hK]; exact L2.call_isi) hg hm isi_boot pa (by decide) (by decide) (star_cons hq) rfl) fun σ H Q w => ?_
  obtain ⟨e, F, S, o, mt, out⟩ := w
  refine (Cur.start o mt).uv (Out.bind out) fun x e1 _ o1 v H1 F1 Se1 c1 c1' r1 => ?_
  obtain ⟨b, hb, ok⟩ := of_ok o1
  have hb' : tyIs x t = some b := by
    have hb : (match tyIs x t, tysIs x [] with
      | some a, some b => some (a || b)
      | _, _ => none) = some b := hb
    cases h1 : tyIs x t with
    | none => rw [h1] at hb; cases hb
    | some y => rw [h1] at hb; cases hb; simp
  exact ⟨v, .ty (tyName t), _, _, b, rfl, .ty _, tyx_of r1 hb', kit1 hb', ok (.bl b) H1 F1 Se1 none_ c1'.none rfl⟩
theorem u_isiN (hK : X.K = g.K) {ts : List (Ty × PySem.Pos)} {k : Nat} {p2 : PySem.Pos} (hg : L2.Gl X "isinstance") (hm : X.mg "isinstance" = none) (ht : ∀ t ∈ ts, TyOk X t.1) (hl : ts.length ≤ 16 ∧ ts ≠ []) (ha : PE X a (UV g W ma)) (hq : exq a = true) :
    PE X (.Call (.Name "isinstance" p) [a, .Tuple (ts.map fun t => PySem.Expr.Name (tyName t.1 : PySem.Str) t.2) k p2] [] pos) (UE g W (do return .bl (← M.of (tysIs (← ma) (ts.map (·.1)))))) := by
  have pa : PA X [a, .Tuple (ts.map fun t => PySem.Expr.Name (tyName t.1 : PySem.Str) t.2) k p2] _ := L2.pa_cons ha (L2.pa_cons (L2.pe_tup (u_tys ht)) L2.pa_nil rfl) (star_cons hq)
  refine pe_weak (L2.pe_callB (r := L2.rIsiT g.K) (by rw [← hK]; exact L2.call_isiT) hg hm isi_boot pa (by decide) (by decide) (star_cons hq) rfl) fun σ H Q w => ?_
  obtain ⟨e, F, S, o, mt, out⟩ := w
  refine (Cur.start o mt).uv (Out.bind out) fun x e1 _ o1 v H1 F1 Se1 c1 c1' r1 => ?_
  obtain ⟨b, hb, ok⟩ := of_ok o1
  refine ⟨by rw [List.length_map, LIM_eq]; have : LIM = 16777216 := rfl; omega, fun tp hp => ?_⟩
  have f := c1'.fin (d := .bl b) ok
  have hb' : ∃ t r, ts.map (·.1) = t :: r := by
    cases ts with
    | nil => exact (hl.2 rfl).elim
    | cons t r => exact ⟨_, _, rfl⟩
  obtain ⟨t, r, e1⟩ := hb'
  have r1' : Rep g (upd H1 tp (.tup (ts.map fun t => V.ty (tyName t.1)))) F1 v x all_ := r1.fresh hp
  refine ⟨v, tp, _, _, (ts.map (·.1)).map fun t => PySem.Value.type (tyName t), b, rfl, upd_same, ?_, tyx_any r1' (by rw [← e1]; exact hb), kitAny_of hb, ?_⟩
  · have := pair_tys (ts.map (·.1))
    rw [List.map_map] at this
    exact this
  · exact ok (.bl b) _ F1 Se1 none_ (c1'.none.push hp) rfl
/-! ### xs.index(x) -/
theorem find_ok {x : D} (hx : x.data = true) : ∀ {ds : List D} {k : Nat}, D.datas ds = true → findD x ds = some k → ∃ z, (D.pys ds)[k]? = some z ∧ PySem.PyData.eqv z x.py = true ∧ ∀ (m : Nat) (z' : PySem.PyData), m < k → (D.pys ds)[m]? = some z' → PySem.PyData.eqv z' x.py = false
  | [], k, _, h => by cases h
  | d :: r, k, hd, h => by
    have k2 : (D.data d && D.datas r) = true := hd
    rw [Bool.and_eq_true] at k2
    have h : (if D.eqv d x then some 0 else (findD x r).map (· + 1)) = some k := h
    by_cases c : D.eqv d x = true
    · rw [if_pos c] at h; cases h
      exact ⟨d.py, rfl, by rw [py_eqv d x k2.1 hx]; exact c, fun m z' hm => by omega⟩
    · rw [if_neg c] at h
      obtain ⟨j, h1, h2⟩ := Option.map_eq_some_iff.mp h
      subst h2
      obtain ⟨z, a1, a2, a3⟩ := find_ok hx k2.2 h1
      refine ⟨z, a1, a2, fun m z' hm hz => ?_⟩
      cases m with
      | zero =>
        have e : d.py = z' := by simpa [D.pys] using hz
        subst e
        rw [py_eqv d x k2.1 hx]
        simpa using c
      | succ m => exact a3 m z' (by omega) (by simpa [D.pys] using hz)
theorem list_is {d : D} {v : V} (r : Rep g H F v d P) (h : d.list?.isSome = true) : ∃ ds, d.list? = some ds ∧ L2.tyV g.K "list" v H := by
  cases d with
  | lst es => obtain ⟨a, vs, rfl, q, _⟩ := r; exact ⟨es, rfl, .inl ⟨rfl, vs, .inl (.inl q)⟩⟩
  | own es => obtain ⟨a, vs, rfl, q, _⟩ := r; exact ⟨es, rfl, .inl ⟨rfl, vs, .inl (.inl q)⟩⟩
  | _ => cases h
theorem u_index (hK : X.K = g.K) (hu : X.A.units + 65 < PySem.cLine) {ap : PySem.Pos} (ha : PE X a (UE g W ma)) (hb : PA X (b :: es) (UVL g W ms)) (hl : (ap.endLine == pos.line) = true) (qa : atq a = true) (qb : (b :: es).all exq = true) (hn : es.length ≤ 5) :
    PE X (.Call (.Attribute a "index" ap) (b :: es) [] pos) (UE g W (do
      let x ← ma
      M.guard (mtTy .index x)
      let ys ← ms
      M.of (mtSem .index x ys))) := by
  have qb' := qb
  rw [List.all_cons, Bool.and_eq_true] at qb'
  refine pe_weak (L2.pe_bm (r := L2.rIndexD g.K) PySem.F.plainAttrs_list PySem.F.slot_list_index PySem.F.type_list_index (by rw [← hK]; exact L2.mt_indexD hu) ha hb (base_of qa) ?_ hl (star_cons qb'.1) (back_no qb'.2)) fun σ H Q w => ?_
  · rw [back_all qb]
    simp [PySem.backToKw, PySem.keywordEach]
    omega
  obtain ⟨e, F, S, o, mt, out⟩ := w
  refine (Cur.start o mt).ue (Out.bind out) fun x e1 _ o1 v H1 F1 Se1 Sv1 c1 c1' r1 => ?_
  obtain ⟨ht, o1⟩ := guard_ok o1
  obtain ⟨ds, hx, ty⟩ := list_is r1 ht
  rw [hK]
  refine ⟨ty, ?_⟩
  refine c1'.uvl (Out.bind o1) fun ys e2 _ o2 us H2 F2 Se2 c2 c2' r2 => ?_
  obtain ⟨d, hd, ok⟩ := of_end o2
  have r1' := c1'.kept c2 r1 fun a z => .inr z
  have key : ∃ y, ys = [y] ∧ (if y.data && D.datas ds && decide (y.depth ≤ 60) && decide (D.depths ds ≤ 60) then (findD y ds).map fun k : Nat => D.int k else none) = some d := by
    match ys, hd with
    | [y], hd =>
      obtain ⟨ds', h1, h2⟩ := Option.bind_eq_some_iff.mp (show (x.list?.bind fun ds => if y.data && D.datas ds && decide (y.depth ≤ 60) && decide (D.depths ds ≤ 60) then (findD y ds).map fun k : Nat => D.int k else none) = some d from hd)
      rw [hx] at h1; cases h1
      exact ⟨y, rfl, h2⟩
    | [], hd => cases hd
    | _ :: _ :: _, hd => cases hd
  obtain ⟨y, rfl, h2⟩ := key
  obtain ⟨u, rfl, ru⟩ := r2.one
  split at h2
  · rename_i c
    simp only [Bool.and_eq_true, decide_eq_true_eq] at c
    obtain ⟨⟨⟨k1, k2⟩, k3⟩, k4⟩ := c
    obtain ⟨k, h3, h4⟩ := Option.map_eq_some_iff.mp h2
    subst h4
    obtain ⟨z, z1, z2, z3⟩ := find_ok k1 k2 h3
    obtain ⟨a', vs, rfl, q, P', rr⟩ := r1'.listL hx
    refine ⟨a', u, y.py, D.pys ds, k, z, rfl, rfl, .lst (.inl (.inl q)) (Reps.dp k2 rr), ru.dp k1, ?_, py_shaped k1 k3, z1, z2, z3, ok (.int (k : Nat)) H2 F2 Se2 none_ c2'.none rfl⟩
    unfold PySem.SeqAt.shaped
    simp only [PySem.PyData.canLay0, PySem.PyData.depth, pys_lay ds k2, pys_depth]
    simp; omega
  · cases h2
/-! ### xs[::-1] -/
theorem u_rev (hK : X.K = g.K) {k : Nat} {p1 p2 p3 : PySem.Pos} (ha : PE X a (UV g W ma)) : PE X (.Subscript a (.Slice none none (some (.UnaryOp .USub (.Constant (.int 1) k p1) p2)) p3) pos) (UE g W (do M.of (revSem (← ma)))) := by
  refine pe_weak (L2.pe_revL ha) fun σ H Q w => ?_
  obtain ⟨e, F, S, o, mt, out⟩ := w
  refine (Cur.start o mt).uv (Out.bind out) fun x e1 _ o1 v H1 F1 Se1 c1 c1' r1 => ?_
  obtain ⟨d, hd, ok⟩ := of_end o1
  have f := c1'.fin ok
  rw [hK]
  cases x with
  | lst ds =>
    obtain ⟨a, vs, rfl, q, s, r⟩ := r1
    cases hd
    exact ⟨a, vs, rfl, .inl (.inl q), fun p hp => f.lst hp r.reverse0⟩
  | own ds =>
    obtain ⟨a, vs, rfl, q, s, r⟩ := r1
    have h : (if D.plains ds then some (D.own ds.reverse) else none) = some d := hd
    by_cases hp : D.plains ds = true
    · rw [if_pos hp] at h
      cases h
      exact ⟨a, vs, rfl, .inl (.inl q), fun p hp' => f.lst hp' (Reps.plain hp r).reverse0⟩
    · rw [if_neg hp] at h; cases h
  | _ => cases hd
end
end Py
end
section
set_option maxHeartbeats 2000000
/-! S5a: enumerate, zip over lists, tuples, texts, in any mixture -/
namespace L2
open PySem PySem.Spec PyProof.Rows
/-- what is walked: the list, the tuple at an address, a text -/
inductive Kd where
  | l (a : Addr) | t (a : Addr) | s (z : Str) (u : Tok)
def Kd.v : Kd → Value
  | .l a => .ref a
  | .t a => .ref a
  | .s z u => .str z u
def signs (z : Str) : List V := z.cps.toList.map fun c => V.str ⟨#[c]⟩
def SqK (K : PySem.W.Frag) (H : Hp) : Kd → List V → Prop
  | .l a, xs => SqL K H a xs
  | .t a, xs => SqT K H a xs
  | .s z _, xs => xs = signs z
/-- the iterator over it, at turn i -/
def ItS (h : Heap) (it : Addr) : Kd → Nat → Prop
  | .l a, i => h.IsListIter it a i
  | .t a, i => h.IsTupleIter it a i
  | .s z u, i => h.IsStrIter it (strIterType z) z u i
def fpK (it : Addr) : Kd → List Addr
  | .l a => [it, a]
  | .t a => [it, a]
  | .s _ _ => [it]
theorem ItS.at {h h' : Heap} {it : Addr} : ∀ {c : Kd} {i : Nat}, ItS h it c i → (∀ o, h.get? it = some o → h'.get? it = some o) → ItS h' it c i
  | .l a, i, x, k => Heap.IsListIter.at x k
  | .t a, i, x, k => Heap.IsTupleIter.at x k
  | .s z u, i, x, k => let ⟨o, ho, r⟩ := x; ⟨o, k o ho, r⟩
theorem ItS.got {h : Heap} {it : Addr} : ∀ {c : Kd} {i : Nat}, ItS h it c i → ∃ o, h.get? it = some o ∧ ∀ v, o.data ≠ .cell v
  | .l a, i, x => let ⟨o, e, _, d⟩ := x; ⟨o, e, fun v z => by rw [d] at z; cases z⟩
  | .t a, i, x => let ⟨o, e, _, d⟩ := x; ⟨o, e, fun v z => by rw [d] at z; cases z⟩
  | .s z u, i, x => let ⟨o, e, _, d⟩ := x; ⟨o, e, fun v z => by rw [d] at z; cases z⟩
theorem vals_got : ∀ {xs : List V} {us : List Value} {i : Nat} {u : Value}, Vals xs us → us[i]? = some u → ∃ x, xs[i]? = some x ∧ RelV x u
  | _, _, i, u, .nil, h => by simp at h
  | _, _, 0, u, .cons r _, h => by
    cases (show some _ = some u from h)
    exact ⟨_, rfl, r⟩
  | _, _, i + 1, u, .cons _ r, h => by
    obtain ⟨x, h1, h2⟩ := vals_got (i := i) r (by simpa using h)
    exact ⟨x, by simpa using h1, h2⟩
section
variable {X : Cx} {pins : List (Addr × Obj)} {σ : St} {H : Hp} {s : Shared}
theorem SqK.inj (I : Inv X pins σ H s) : ∀ {c : Kd} {xs ys : List V}, SqK X.K H c xs → SqK X.K H c ys → xs = ys
  | .l a, xs, ys, h, k => I.list_inj h k
  | .t a, xs, ys, h, k => I.tuple_inj h k
  | .s z u, xs, ys, h, k => (show xs = _ from h).trans (show ys = _ from k).symm
theorem draws_mono {prog : Program} {w : World} {A : Around} {it : Addr} {fp : List Addr} {n : Nat} {P P' : Nat → Value → Prop} {St : Nat → Heap → Prop} (D : Draws prog w A it fp n P St) (f : ∀ i v, P i v → P' i v) : Draws prog w A it fp n P' St :=
  ⟨D.live, D.frame, fun i s Q E hi st hQ => D.item i s Q E hi st fun x h' tk p => hQ x h' tk (f i x p), D.done⟩
/-- the iterator draws what stands there -/
theorem draws_of (I : Inv X pins σ H s) (hc : X.calm = true) {it : Addr} {c : Kd} {xs : List V} (hq : SqK X.K H c xs) (hn : (fpK it c).Nodup) :
    ∃ St : Nat → Heap → Prop, Draws X.prog X.w X.A.in1 it (fpK it c) xs.length (fun i u => ∃ x, xs[i]? = some x ∧ RelV x u) St ∧ (∀ i, ItS s.heap it c i → St i s.heap) ∧ ∀ i h, St i h → ItS h it c i := by
  have hh : X.A.in1.handled = Option.none := I.ok.hd hc
  cases c with
  | l a =>
    obtain ⟨its, rv, p, hz⟩ := I.list (show SqL X.K H a xs from hq)
    have hne : a ≠ it := fun e => by subst e; simp [fpK] at hn
    have D := Draws.list (prog := X.prog) (w := X.w) hh it a hne its.toArray
    have hl : its.toArray.size = xs.length := by rw [List.size_toArray]; exact rv.length.symm
    rw [hl] at D
    exact ⟨_, draws_mono D fun i v h => vals_got rv (by simpa using h), fun i h => ⟨h, p.isList⟩, fun i h x => x.1⟩
  | t a =>
    obtain ⟨its, rv, p, hz⟩ := I.tuple (show SqT X.K H a xs from hq)
    have hne : a ≠ it := fun e => by subst e; simp [fpK] at hn
    have D := Draws.tuple (prog := X.prog) (w := X.w) hh it a hne its.toArray
    have hl : its.toArray.size = xs.length := by rw [List.size_toArray]; exact rv.length.symm
    rw [hl] at D
    exact ⟨_, draws_mono D fun i v h => vals_got rv (by simpa using h), fun i h => ⟨h, show s.heap.IsTuple a its.toArray from p⟩, fun i h x => x.1⟩
  | s z u =>
    have hx : xs = signs z := hq
    subst hx
    have D := Draws.text (prog := X.prog) (w := X.w) hh it z u
    have hl : z.cps.size = (signs z).length := by unfold signs; simp
    rw [hl] at D
    refine ⟨_, draws_mono D fun i v ⟨c, t, h1, h2⟩ => ⟨V.str ⟨#[c]⟩, ?_, ?_⟩, fun i h => h, fun i h x => x⟩
    · unfold signs
      rw [List.getElem?_map, Array.getElem?_toList, h1]; rfl
    · subst h2; exact ⟨t, rfl⟩
end
/-! ### enumerate -/
def ItE (K : PySem.W.Frag) (c : Kd) : It :=
  ⟨fun i H => ∃ xs : List V, SqK K H c xs ∧ i < xs.length, fun i H v H' => ∃ T x, v = .ref T ∧ H T = none ∧ H' = upd H T (.tup [.int (i : Nat), x]) ∧ ∀ xs, SqK K H c xs → xs[i]? = some x, fun i H => ∃ xs : List V, SqK K H c xs ∧ xs.length = i⟩
theorem turn_enumK {P : Program} {w : World} {K : PySem.W.Frag} {elts : List Expr} {kk : Nat} {tpos : Pos} {c : Kd} {e it : Addr} (hn : (fpK it c).Nodup) (hef : e ∉ fpK it c) (hif : it ∈ fpK it c) :
    Turn P w K (.Tuple elts kk tpos) (ItE K c) [e, it] e (fun i h => (∃ old, IsEnum h e it ((i : Nat) : Int) old) ∧ ItS h it c i) where
  mem := by simp
  obj := fun i h st b hb => by
    obtain ⟨⟨old, he⟩, hi⟩ := st
    have e' : b = e ∨ b = it := by simpa using hb
    rcases e' with z | z
    · rw [z]; exact ⟨_, he, fun v q => nomatch q⟩
    · rw [z]; exact hi.got
  keep := fun i h h' st k => let ⟨⟨old, he⟩, hi⟩ := st; ⟨⟨old, k e (by simp) _ he⟩, hi.at fun o q => k it (by simp) o q⟩
  item := by
    intro X hP hw hK hc i pins s σ H E I hf st hg
    subst hP hw hK
    obtain ⟨⟨old, he⟩, hit⟩ := st
    obtain ⟨xs, hq, hi⟩ := hg
    obtain ⟨St, D, s1, s2⟩ := draws_of I hc hq hn
    have hne : e ≠ it := fun z => hef (z ▸ hif)
    have hel : e < s.heap.objs.size := Heap.lt_size he
    have hil : it < s.heap.objs.size := by obtain ⟨_, q, _⟩ := hit.got; exact Heap.lt_size q
    refine wpAny_pyNext_enum_itemD D he (s1 i hit) hi hne hef fun u h' tk hu ho st' hT hsz hk => ?_
    obtain ⟨x, hx, ru⟩ := hu
    refine ⟨_, rfl, wpAny_letOwnedTupleGo_enum (s := { s with heap := h', toks := tk + 1 }) ho fun h2 he2 sb => ?_⟩
    have hT2 : h2.get? s.heap.objs.size = some { cls := .type "tuple", data := .seq #[.int i tk, u] } := (sb.2 _ (Nat.ne_of_gt hel)).trans hT
    have new : ObjOk X.prog X.w (upd H s.heap.objs.size (.tup [.int (i : Nat), x])) h2 s.heap.objs.size (.tup [.int (i : Nat), x]) :=
      ⟨by show 2 ≤ sizeLine; decide, [.int i tk, u], .cons ⟨_, rfl⟩ (.cons ru .nil), ⟨_, hT2, rfl, _, rfl⟩⟩
    have I1 : Inv X pins σ (upd H s.heap.objs.size (.tup [.int (i : Nat), x])) { s with heap := h2, toks := tk + 1 } :=
      I.turnedNew (ch := [e, it]) (fun b ob hb q => (sb.2 b (fun z => hb (by simp [z]))).trans (hk b ob (fun z => hb (by simp [z])) (fun z => hb (by simp [z])) q)) hf (Nat.le_refl _) new
    refine ⟨.ref s.heap.objs.size, _, I1, rfl, ⟨_, x, rfl, I.hok.fresh (Nat.le_refl _), rfl, fun ys hy => by rw [SqK.inj I hy hq]; exact hx⟩, ⟨⟨u, ?_⟩, (s2 _ _ st').at fun o q => (sb.2 it (Ne.symm hne)).trans q⟩, fun b hb => ?_⟩
    · have e1 : ((i + 1 : Nat) : Int) = (i : Int) + 1 := by omega
      rw [e1]; exact he2
    · have hb' : b < s.heap.objs.size := by
        have e' : b = e ∨ b = it := by simpa using hb
        rcases e' with z | z
        · rw [z]; exact hel
        · rw [z]; exact hil
      rw [upd_ne (Nat.ne_of_lt hb')]
      exact (hf b hb).1
  done := by
    intro X hP hw hK hc i pins s σ H E I hf st hg
    subst hP hw hK
    obtain ⟨⟨old, he⟩, hit⟩ := st
    obtain ⟨xs, hq, hx⟩ := hg
    obtain ⟨St, D, s1, s2⟩ := draws_of I hc hq hn
    obtain ⟨f0, f1, f2, f3, f4, f5⟩ := hf it (by simp)
    subst hx
    exact wpAny_pyNext_enum_endD D he (s1 _ hit) fun h' eb => ⟨rfl, I.turned (t' := s.toks) (fun b o hb q => eb b o hb q) f0 f1 f3 f4 f5⟩
  self := fun A i s Q E st h => let ⟨⟨_, he⟩, _⟩ := st; wpAny_pyIter_enum he h
set_option maxHeartbeats 2000000 in
theorem meets_enum_one {v : Value} {o : Obj} {H : Heap → Prop} (B : Begins v o H) :
    Meets (Builtin.«enumerate.__new__» ⟨[.type "enumerate", v], []⟩) (fun _ R s => H s.heap ∧
      R (.ok (.ret (.ref (s.heap.push o).objs.size))) { s with heap := (s.heap.push o).push { cls := .type "enumerate", data := .fields #[.none, .bool false, .ref s.heap.objs.size, rawInt 0, .none, .none] } }) :=
  .of_wp fun prog w A R s h => by
    obtain ⟨hp, g, d, tk, os⟩ := s; obtain ⟨h1, h⟩ := h
    have hsub := sub_enumerate
    have q1 : ∀ {A' : Around} {E : Value → Shared → Prop} {Q : Value → Shared → Prop}, Q (.ref hp.objs.size) ⟨hp.push o, g, d, tk, os⟩ → wpAny (model prog w) A' (pyIter v) Q E ⟨hp, g, d, tk, os⟩ :=
      fun q => B.iter prog w _ _ ⟨hp, g, d, tk, os⟩ _ h1 q
    wp_walk using q1
    refine wpAny_stack_any fun st => wpAny_pure ?_
    split
    · rename_i c _ _ _ _ _
      cases (c == Value.type "enumerate")
      · wp_walk using q1
        exact ⟨_, rfl, h⟩
      · wp_walk using q1
        exact ⟨_, rfl, h⟩
    · wp_walk using q1
      exact ⟨_, rfl, h⟩
theorem enum_one {prog : Program} {w : World} {A : Around} {E : Value → Shared → Prop} {s : Shared} {v : Value} {o : Obj} {H : Heap → Prop} {Q : Value → Shared → Prop} (B : Begins v o H) (h1 : H s.heap)
    (h : ∀ h', IsEnum h' (s.heap.objs.size + 1) s.heap.objs.size 0 .none → h'.get? s.heap.objs.size = some o → h'.objs.size = s.heap.objs.size + 2 →
      (∀ b o, s.heap.get? b = some o → h'.get? b = some o) → Q (.ref (s.heap.objs.size + 1)) { s with heap := h' }) :
    wpAny (model prog w) A (call (.type "enumerate") [v]) Q E s := by
  refine callType_new F.called_enumerate (by decide) (F.typeCall_enumerate_1 _) (F.newCall_enumerate_1 _) (fun obj => F.args_object_init_2 obj _) F.entry_enumerate_new
    (meets_enum_one B) ⟨h1, ?_⟩
  have hz : (s.heap.push o).objs.size = s.heap.objs.size + 1 := Heap.size_push ..
  show _ ∧ _
  rw [hz]
  have he : IsEnum ((s.heap.push o).push { cls := .type "enumerate", data := .fields #[.none, .bool false, .ref s.heap.objs.size, rawInt 0, .none, .none] }) (s.heap.objs.size + 1) s.heap.objs.size 0 .none := by
    have := Heap.get?_push_size (s.heap.push o) (o := { cls := .type "enumerate", data := .fields #[.none, .bool false, .ref s.heap.objs.size, rawInt 0, .none, .none] }) rfl
    rw [hz] at this; exact this
  refine ⟨⟨_, he, rfl⟩, h _ he (Heap.get?_push_of_some _ (Heap.get?_push_size _ B.free)) (by rw [Heap.size_push, hz]) fun b o x => Heap.get?_push_of_some _ (Heap.get?_push_of_some _ x)⟩
/-- a value that is walked -/
inductive KdV (K : PySem.W.Frag) (H : Hp) : V → Value → Kd → List V → Prop where
  | l {a : Addr} {xs : List V} (h : SqL K H a xs) : KdV K H (.ref a) (.ref a) (.l a) xs
  | t {a : Addr} {xs : List V} (h : SqT K H a xs) : KdV K H (.ref a) (.ref a) (.t a) xs
  | s {z : Str} {u : Tok} : KdV K H (.str z) (.str z u) (.s z u) (signs z)
/-- the list at a, the tuple at a, a text -/
def WlkV (K : PySem.W.Frag) (H : Hp) (x : V) (R : Kd → List V → Prop) : Prop :=
  (∃ a xs, x = .ref a ∧ SqL K H a xs ∧ R (.l a) xs) ∨ ((∃ a xs, x = .ref a ∧ SqT K H a xs ∧ R (.t a) xs) ∨ ∃ z, x = .str z ∧ ∀ u, R (.s z u) (signs z))
section
variable {X : Cx} {pins : List (Addr × Obj)} {σ : St} {H : Hp} {s : Shared}
def bgO : Kd → Obj
  | .l a => { cls := .type "list_iterator", data := .fields #[.ref a, .int 0 0] }
  | .t a => { cls := .type "tuple_iterator", data := .fields #[.ref a, .int 0 0] }
  | .s z u => { cls := .type (strIterType z), data := .fields #[.str z u, .int 0 0] }
theorem wlk_of {x : V} {u : Value} {R : Kd → List V → Prop} (rx : RelV x u) (h : WlkV X.K H x R) : ∃ c xs, R c xs ∧ SqK X.K H c xs ∧ u = c.v := by
  rcases h with ⟨a, xs, rfl, h, r⟩ | ⟨a, xs, rfl, h, r⟩ | ⟨z, rfl, r⟩
  · cases rx; exact ⟨.l a, xs, r, h, rfl⟩
  · cases rx; exact ⟨.t a, xs, r, h, rfl⟩
  · obtain ⟨t, rfl⟩ := rx; exact ⟨.s z t, _, r t, rfl, rfl⟩
theorem begins_of (I : Inv X pins σ H s) {c : Kd} {xs : List V} (hq : SqK X.K H c xs) : (∃ B : Heap → Prop, Begins c.v (bgO c) B ∧ B s.heap) ∧ ∀ it, ∀ b ∈ fpK it c, b = it ∨ b < s.heap.objs.size := by
  cases c with
  | l a =>
    obtain ⟨its, rv, p, hz⟩ := I.list (show SqL X.K H a xs from hq)
    refine ⟨⟨_, begins_list a its.toArray, p.isList⟩, fun it b hb => ?_⟩
    have ha : a < s.heap.objs.size := p.lt
    have hb : b = it ∨ b = a := by simpa [fpK] using hb
    rcases hb with rfl | rfl
    · exact .inl rfl
    · exact .inr ha
  | t a =>
    obtain ⟨its, rv, p, hz⟩ := I.tuple (show SqT X.K H a xs from hq)
    refine ⟨⟨_, begins_tuple a its.toArray, show s.heap.IsTuple a its.toArray from p⟩, fun it b hb => ?_⟩
    obtain ⟨o, ho, _⟩ := id p
    have ha : a < s.heap.objs.size := Heap.lt_size ho
    have hb : b = it ∨ b = a := by simpa [fpK] using hb
    rcases hb with rfl | rfl
    · exact .inl rfl
    · exact .inr ha
  | s z u =>
    refine ⟨⟨_, begins_text z u, trivial⟩, fun it b hb => ?_⟩
    exact .inl (by simpa [fpK] using hb)
theorem its_of {h : Heap} {it : Addr} : ∀ {c : Kd}, h.get? it = some (bgO c) → ItS h it c 0
  | .l a, e => ⟨_, e, rfl, rfl⟩
  | .t a, e => ⟨_, e, rfl, rfl⟩
  | .s z u, e => ⟨_, e, rfl, rfl⟩
theorem fp_nodup {it n : Addr} {c : Kd} (h : ∀ b ∈ fpK it c, b = it ∨ b < n) (hn : n ≤ it) (h2 : ∀ a, c = .l a ∨ c = .t a → a < n) : (fpK it c).Nodup := by
  have ne : ∀ a, a < n → it ≠ a := fun a k e => by subst e; exact absurd (Nat.lt_of_lt_of_le k hn) (Nat.lt_irrefl _)
  cases c with
  | l a => have := ne a (h2 a (.inl rfl)); simp [fpK]; exact this
  | t a => have := ne a (h2 a (.inr rfl)); simp [fpK]; exact this
  | s z u => simp [fpK]
theorem kd_lt (I : Inv X pins σ H s) {c : Kd} {xs : List V} (hq : SqK X.K H c xs) : ∀ a, c = .l a ∨ c = .t a → a < s.heap.objs.size := by
  intro a h
  rcases h with rfl | rfl
  · obtain ⟨its, rv, p, hz⟩ := I.list (show SqL X.K H a xs from hq)
    exact p.lt
  · obtain ⟨its, rv, p, hz⟩ := I.tuple (show SqT X.K H a xs from hq)
    obtain ⟨o, ho, _⟩ := id p
    exact Heap.lt_size ho
def iEnumK (K : PySem.W.Frag) (ta : TA) : TI := fun σ H R => ta σ H fun vs H1 => ∃ x, vs = [x] ∧ WlkV K H1 x fun c _ => R (ItE K c) H1
theorem pi_enumK {e : Expr} {ta : TA} {p pos tpos : Pos} {elts : List Expr} {kk : Nat} (hg : Gl X "enumerate") (hm : X.mg "enumerate" = none) (ha : PA X [e] ta) (hs : starEach [e] X.env = [(false, eval e X.env)]) :
    PI X (.Tuple elts kk tpos) (.Call (.Name "enumerate" p) [e] [] pos) (iEnumK X.K ta) := by
  refine ⟨fun pins s σ H R I h => ?_⟩
  refine Call_ (ld_blt I hg hm boot_enumerate (PyProof.Rows.callWith_type1 (thn (ha.run pos pins s σ H _ I h) fun us s1 ⟨vs, H1, I1, r1, q1⟩ => ?_) hs rfl))
  obtain ⟨x, ex, q⟩ := q1
  subst ex
  obtain ⟨u, rfl, ru⟩ := vals1 r1
  obtain ⟨c, xs, hR, hq, rfl⟩ := wlk_of ru q
  obtain ⟨⟨B, hB, b1⟩, hf⟩ := begins_of I1 hq
  refine enum_one hB b1 fun h' he hit hsz hk => wpAny_pyIter_enum he ?_
  have I2 : Inv X pins σ H1 { s1 with heap := h' } := I1.kept (t' := s1.toks) hk
  have nd : (fpK s1.heap.objs.size c).Nodup := fp_nodup (hf _) (Nat.le_refl _) (kd_lt I1 hq)
  refine ⟨s1.heap.objs.size + 1, [s1.heap.objs.size + 1, s1.heap.objs.size], _, _, H1, rfl, I2, turn_enumK (c := c) (e := s1.heap.objs.size + 1) (it := s1.heap.objs.size) nd (fun hm => ?_) (by cases c <;> simp [fpK]), ⟨⟨.none, he⟩, its_of hit⟩, fun b hb => ?_, hR⟩
  · rcases hf _ _ hm with z | z
    · exact Nat.succ_ne_self _ z
    · exact absurd z (Nat.not_lt.mpr (Nat.le_succ _))
  · have e' : b = s1.heap.objs.size + 1 ∨ b = s1.heap.objs.size := by simpa using hb
    have hle : s1.heap.objs.size ≤ b := by
      rcases e' with z | z
      · rw [z]; exact Nat.le_add_right _ _
      · rw [z]; exact Nat.le_refl _
    exact I1.fpOk hle (I1.hok.fresh hle)
end
end L2
end
section
set_option maxHeartbeats 2000000
/-! S5b: zip of two, in any mixture; plain walks -/
namespace L2
open PySem PySem.Spec PyProof.Rows
def ItZ (K : PySem.W.Frag) (c1 c2 : Kd) : It :=
  ⟨fun i H => ∃ xs ys : List V, SqK K H c1 xs ∧ SqK K H c2 ys ∧ i < xs.length ∧ i < ys.length,
    fun i H v H' => ∃ T x y, v = .ref T ∧ H T = none ∧ H' = upd H T (.tup [x, y]) ∧ (∀ xs, SqK K H c1 xs → xs[i]? = some x) ∧ ∀ ys, SqK K H c2 ys → ys[i]? = some y,
    fun i H => ∃ xs ys : List V, SqK K H c1 xs ∧ SqK K H c2 ys ∧ i ≤ xs.length ∧ i ≤ ys.length ∧ (i = xs.length ∨ i = ys.length)⟩
theorem turn_zipK {P : Program} {w : World} {K : PySem.W.Frag} {elts : List Expr} {kk : Nat} {tpos : Pos} {c1 c2 : Kd} {z TI TO i1 i2 : Addr} (S : ZipSep2 z TI TO i1 i2 (fpK i1 c1) (fpK i2 c2)) (n1 : (fpK i1 c1).Nodup) (n2 : (fpK i2 c2).Nodup) :
    Turn P w K (.Tuple elts kk tpos) (ItZ K c1 c2) [z, TI, TO, i1, i2] z (fun i h => IsZip h z TI TO .none ∧ IsTupOf2 h TI (.ref i1) (.ref i2) ∧ (∃ x y, IsTupOf2 h TO x y) ∧ ItS h i1 c1 i ∧ ItS h i2 c2 i) where
  mem := by simp
  obj := fun i h st c hc => by
    obtain ⟨hz, hTI, ⟨x, y, hTO⟩, h1, h2⟩ := st
    have e' : c = z ∨ c = TI ∨ c = TO ∨ c = i1 ∨ c = i2 := by simpa using hc
    rcases e' with q | q | q | q | q
    · rw [q]; exact ⟨_, hz, fun v q => nomatch q⟩
    · rw [q]; exact ⟨_, hTI, fun v q => nomatch q⟩
    · rw [q]; exact ⟨_, hTO, fun v q => nomatch q⟩
    · rw [q]; exact h1.got
    · rw [q]; exact h2.got
  keep := fun i h h' st k => by
    obtain ⟨hz, hTI, ⟨x, y, hTO⟩, h1, h2⟩ := st
    exact ⟨k z (by simp) _ hz, k TI (by simp) _ hTI, ⟨x, y, k TO (by simp) _ hTO⟩, h1.at fun o q => k i1 (by simp) o q, h2.at fun o q => k i2 (by simp) o q⟩
  item := by
    intro X hP hw hK hc i pins s σ H E I hf st hg
    subst hP hw hK
    obtain ⟨hz, hTI, ⟨x0, y0, hTO⟩, h1, h2⟩ := st
    obtain ⟨xs, ys, hqx, hqy, hx, hy⟩ := hg
    obtain ⟨St1, D1, a1, a2⟩ := draws_of I hc hqx n1
    obtain ⟨St2, D2, b1, b2⟩ := draws_of I hc hqy n2
    have hzl : z < s.heap.objs.size := Heap.lt_size hz
    refine wpAny_pyNext_zipD2_item S D1 D2 hz hTI hTO (a1 _ h1) (b1 _ h2) hx hy fun u1 u2 h' tk p1 p2 z' TO' s1 s2 hT hsz hk => ?_
    obtain ⟨x, hxx, ru1⟩ := p1
    obtain ⟨y, hyy, ru2⟩ := p2
    refine ⟨_, rfl, wpAny_letOwnedTupleGo_zip (s := { s with heap := h', toks := tk }) z' fun h3 z3 sb => ?_⟩
    have hT2 : h3.get? s.heap.objs.size = some { cls := .type "tuple", data := .seq #[u1, u2] } := (sb.2 _ (Nat.ne_of_gt hzl)).trans hT
    have new : ObjOk X.prog X.w (upd H s.heap.objs.size (.tup [x, y])) h3 s.heap.objs.size (.tup [x, y]) :=
      ⟨by show 2 ≤ sizeLine; decide, [u1, u2], .cons ru1 (.cons ru2 .nil), ⟨_, hT2, rfl, _, rfl⟩⟩
    have I1 : Inv X pins σ (upd H s.heap.objs.size (.tup [x, y])) { s with heap := h3, toks := tk } :=
      I.turnedNew (ch := [z, TI, TO, i1, i2]) (fun c o hb q => (sb.2 c (fun q' => hb (by simp [q']))).trans (hk c o (fun q' => hb (by simp [q'])) (fun q' => hb (by simp [q'])) (fun q' => hb (by simp [q'])) (fun q' => hb (by simp [q'])) q)) hf (Nat.le_refl _) new
    refine ⟨.ref s.heap.objs.size, _, I1, rfl, ⟨_, x, y, rfl, I.hok.fresh (Nat.le_refl _), rfl, fun l hl => by rw [SqK.inj I hl hqx]; exact hxx, fun l hl => by rw [SqK.inj I hl hqy]; exact hyy⟩, ⟨z3, ?_, ⟨u1, u2, ?_⟩, ?_, ?_⟩, fun c hcm => ?_⟩
    · exact (sb.2 _ S.TIz).trans (hk _ _ S.TIz S.TITO S.TIi1 S.TIi2 hTI)
    · exact (sb.2 _ S.TOz).trans TO'
    · exact (a2 _ _ s1).at fun o q => (sb.2 _ (Ne.symm S.zi1)).trans q
    · exact (b2 _ _ s2).at fun o q => (sb.2 _ (Ne.symm S.zi2)).trans q
    · have hlt : c < s.heap.objs.size := by
        have e' : c = z ∨ c = TI ∨ c = TO ∨ c = i1 ∨ c = i2 := by simpa using hcm
        rcases e' with q | q | q | q | q
        · rw [q]; exact hzl
        · rw [q]; exact Heap.lt_size hTI
        · rw [q]; exact Heap.lt_size hTO
        · rw [q]; obtain ⟨_, e1, _⟩ := h1.got; exact Heap.lt_size e1
        · rw [q]; obtain ⟨_, e2, _⟩ := h2.got; exact Heap.lt_size e2
      rw [upd_ne (Nat.ne_of_lt hlt)]
      exact (hf c hcm).1
  done := by
    intro X hP hw hK hc i pins s σ H E I hf st hg
    subst hP hw hK
    obtain ⟨hz, hTI, ⟨x0, y0, hTO⟩, h1, h2⟩ := st
    obtain ⟨xs, ys, hqx, hqy, k1, k2, k3⟩ := hg
    obtain ⟨St1, D1, a1, a2⟩ := draws_of I hc hqx n1
    obtain ⟨St2, D2, b1, b2⟩ := draws_of I hc hqy n2
    exact wpAny_pyNext_zipD2_end S D1 D2 hz hTI hTO (a1 _ h1) (b1 _ h2) k1 k2 k3 fun h' tk hk => ⟨rfl, I.turnedL (t' := tk) (ch := [z, TI, TO, i1, i2]) (fun c o hb q =>
      hk c o (fun q' => hb (by simp [q'])) (fun q' => hb (by simp [q'])) (fun q' => hb (by simp [q'])) (fun q' => hb (by simp [q'])) q) hf⟩
  self := fun A i s Q E st h => wpAny_pyIter_zip st.1 h
section
variable {X : Cx} {pins : List (Addr × Obj)} {σ : St} {H : Hp} {s : Shared}
def iZipK (K : PySem.W.Frag) (ta : TA) : TI := fun σ H R => ta σ H fun vs H1 => ∃ x y, vs = [x, y] ∧ WlkV K H1 x fun c1 _ => WlkV K H1 y fun c2 _ => R (ItZ K c1 c2) H1
theorem pi_zipK {e e2 : Expr} {ta : TA} {p pos tpos : Pos} {elts : List Expr} {kk : Nat} (hg : Gl X "zip") (hm : X.mg "zip" = none) (ha : PA X [e, e2] ta)
    (hs : starEach [e, e2] X.env = (false, eval e X.env) :: starEach [e2] X.env) (hpl : (backTo pos (starEach [e2] X.env)).any (·.1) = false) :
    PI X (.Tuple elts kk tpos) (.Call (.Name "zip" p) [e, e2] [] pos) (iZipK X.K ta) := by
  refine ⟨fun pins s σ H R I h => ?_⟩
  refine Call_ (ld_blt I hg hm PyProof.Rows.boot_zip (PyProof.Rows.callWith_type1 (thn (ha.run pos pins s σ H _ I h) fun us s1 ⟨vs, H1, I1, r1, q1⟩ => ?_) hs hpl))
  obtain ⟨x, y, ex, q⟩ := q1
  subst ex
  obtain ⟨u1, u2, rfl, ru1, ru2⟩ := vals2 r1
  obtain ⟨c1, xs, q2, hq1, rfl⟩ := wlk_of ru1 q
  obtain ⟨c2, ys, hR, hq2, rfl⟩ := wlk_of ru2 q2
  obtain ⟨⟨B1, hB1, b1⟩, hf1⟩ := begins_of I1 hq1
  obtain ⟨⟨B2, hB2, b2⟩, hf2⟩ := begins_of I1 hq2
  have l1 := kd_lt I1 hq1
  have l2 := kd_lt I1 hq2
  have mem : ∀ {it : Addr} {c : Kd}, it ∈ fpK it c := fun {it c} => by cases c <;> simp [fpK]
  have far : ∀ {b it : Addr} {c : Kd} {xs : List V}, SqK X.K H1 c xs → s1.heap.objs.size ≤ b → b ≠ it → b ∉ fpK it c := fun {b it c xs} hq hb hne hm => by
    rcases (begins_of I1 hq).2 _ _ hm with z | z
    · exact hne z
    · exact absurd (Nat.lt_of_lt_of_le z hb) (Nat.lt_irrefl _)
  generalize hn : s1.heap.objs.size = n at *
  have ne : ∀ {a b : Nat}, a ≠ b → n + a ≠ n + b := fun h e => h (Nat.add_left_cancel e)
  have ne0 : ∀ {a : Nat}, a ≠ 0 → n + a ≠ n := fun h e => h (Nat.add_left_cancel (e.trans (Nat.add_zero n).symm))
  have S : ZipSep2 (n + 4) (n + 2) (n + 3) n (n + 1) (fpK n c1) (fpK (n + 1) c2) :=
    { TIz := ne (by decide), TOz := ne (by decide), TITO := ne (by decide), TIi1 := ne0 (by decide), mem1 := mem, zf1 := far hq1 (Nat.le_add_right _ _) (ne0 (by decide)), Tf1 := far hq1 (Nat.le_add_right _ _) (ne0 (by decide)),
      TIi2 := ne (by decide), mem2 := mem, zf2 := far hq2 (Nat.le_add_right _ _) (ne (by decide)), Tf2 := far hq2 (Nat.le_add_right _ _) (ne (by decide)), sep1_2 := far hq2 (Nat.le_refl _) (Ne.symm (ne0 (by decide))), sep2_1 := far hq1 (Nat.le_add_right _ _) (ne0 (by decide)) }
  refine zip_begins2 hB1 hB2 b1 b2 fun h' hz hTI hTO h1 h2 hsz hk => wpAny_pyIter_zip hz ?_
  rw [hn] at hz hTI hTO h1 h2 ⊢
  have I2 : Inv X pins σ H1 { s1 with heap := h' } := I1.kept (t' := s1.toks) hk
  refine ⟨n + 4, [n + 4, n + 2, n + 3, n, n + 1], _, _, H1, rfl, I2, turn_zipK S (fp_nodup (hf1 _) (Nat.le_refl _) l1) (fp_nodup (hf2 _) (Nat.le_add_right _ _) l2), ⟨hz, hTI, ⟨_, _, hTO⟩, its_of h1, its_of h2⟩, fun c hcm => ?_, hR⟩
  have hle : s1.heap.objs.size ≤ c := by
    rw [hn]
    have e' : c = n + 4 ∨ c = n + 2 ∨ c = n + 3 ∨ c = n ∨ c = n + 1 := by simpa using hcm
    rcases e' with z | z | z | z | z
    · rw [z]; exact Nat.le_add_right _ _
    · rw [z]; exact Nat.le_add_right _ _
    · rw [z]; exact Nat.le_add_right _ _
    · rw [z]; exact Nat.le_refl _
    · rw [z]; exact Nat.le_add_right _ _
  exact I1.fpOk hle (I1.hok.fresh hle)
/-! ### a list, a tuple, a text as it is -/
def ItK (K : PySem.W.Frag) : Kd → It
  | .l a => Itl K a
  | .t a => Itt K a
  | .s z _ => Its z
def iSeqK (K : PySem.W.Frag) (te : TE) : TI := fun σ H R => te σ H fun x H1 => WlkV K H1 x fun c _ => R (ItK K c) H1
theorem pi_seqK {tg l : Expr} {tl : TE} (hl : PE X l tl) : PI X tg l (iSeqK X.K tl) := by
  refine ⟨fun pins s σ H R I h => ?_⟩
  refine thn (hl.run pins s σ H _ I h) fun v s1 ⟨x, H1, I1, r1, q1⟩ => ?_
  rcases q1 with ⟨a, xs, rfl, hq, q⟩ | ⟨a, xs, rfl, hq, q⟩ | ⟨z, rfl, q⟩
  · cases r1
    obtain ⟨its, rv, p, hz⟩ := I1.list hq
    refine wpAny_pyIter_list p.isList ?_
    refine ⟨s1.heap.objs.size, [s1.heap.objs.size], _, _, H1, rfl, I1.kept (t' := s1.toks) fun b o e => Heap.get?_push_of_some _ e, turn_list a _, ⟨_, Heap.get?_push_size _ rfl, rfl, rfl⟩, fun b hb => ?_, q⟩
    have e : b = s1.heap.objs.size := by simpa using hb
    subst e
    exact I1.fpOk (Nat.le_refl _) (I1.hok.fresh (Nat.le_refl _))
  · cases r1
    obtain ⟨its, rv, p, hz⟩ := I1.tuple hq
    refine wpAny_pyIter_tuple (show s1.heap.IsTuple a its.toArray from p) ?_
    refine ⟨s1.heap.objs.size, [s1.heap.objs.size], _, _, H1, rfl, I1.kept (t' := s1.toks) fun b o e => Heap.get?_push_of_some _ e, turn_tuple a _, ⟨_, Heap.get?_push_size _ rfl, rfl, rfl⟩, fun b hb => ?_, q⟩
    have e : b = s1.heap.objs.size := by simpa using hb
    subst e
    exact I1.fpOk (Nat.le_refl _) (I1.hok.fresh (Nat.le_refl _))
  · obtain ⟨t, rfl⟩ := r1
    have q := q t
    cases ha : z.cps.all (· < 128)
    · exact wpAny_pyIter_wide ha (pi_one (tk := s1.toks) I1 _ (turn_str _ z t "str_iterator" (.inr rfl)) ⟨_, Heap.get?_push_size _ rfl, rfl, rfl⟩ q)
    · exact wpAny_pyIter_ascii ha (pi_one (tk := s1.toks) I1 _ (turn_str _ z t "str_ascii_iterator" (.inl rfl)) ⟨_, Heap.get?_push_size _ rfl, rfl, rfl⟩ q)
end
end L2
end
section
/-! S5c: what is walked -/
namespace Py
open L2 (V Hp HO St TE TT TS TA TG TI TO Ends VK XK WX SqL SqT Rd upd upd_same upd_ne PE PT PA PS PSs PG PI PW PO Cx R2 OpR CallR Walk Kd SqK WlkV)
variable {g : G} {H H0 H1 H2 H' : Hp} {F F0 F1 F2 F' : AS} {S S0 S1 S2 S' Se Se' Sv P T : AS} {σ : St} {e e' : Env} {W : WX}
/-- what a turn gives: as it stands, or a new object -/
def Yld (g : G) (H1 : Hp) (F1 : AS) (x : V) (H2 : Hp) (d : D) : Prop :=
  (H2 = H1 ∧ Rep g H1 F1 x d none_) ∨ ∃ T o, H1 T = none ∧ H2 = upd H1 T o ∧ Rep g H2 F1 x d none_
/-- J walks ds, whatever comes later -/
def IterOk (g : G) (H : Hp) (F : AS) (J : L2.It) (ds : List D) : Prop :=
  ∃ n G Y, n = ds.length ∧ Walk J n G Y ∧ ∀ H1 F1, Later H F H1 F1 → G H1 ∧ ∀ i x H2, i < n → Y i H1 x H2 → ∃ d, ds[i]? = some d ∧ Yld g H1 F1 x H2 d
def UI (g : G) (W : WX) (m : M (List D)) : TI := fun σ H R => ∃ e F S, Own S H F ∧ Ma g H F e σ S ∧
  Out g W σ S H F (m e) fun ds e' => ∀ J H' F' Se, Cur g σ S H F e' H' F' Se none_ → IterOk g H' F' J ds → R J H'
theorem pi_weak {X : Cx} {tg ex : PySem.Expr} {t t' : TI} (h : PI X tg ex t) (k : ∀ σ H Q, t' σ H Q → t σ H Q) : PI X tg ex t' := ⟨fun pins s σ H Q I w => h.run pins s σ H Q I (k σ H Q w)⟩
theorem Cur.freeze (c : Cur g σ S0 H0 F0 e H F Se P) (h : ∀ a, T a → P a) : Cur g σ S0 H0 F0 e H (fun a => F a ∨ T a) Se none_ := by
  have a1 : Aft (fun a => Se a ∨ P a) H F (fun a => (Se a ∨ P a) ∧ ¬ T a) H (fun a => F a ∨ T a) := Aft.freeze c.aft.ow fun a t => .inr (h a t)
  refine ⟨(c.aft.trans a1).weak fun a z => ?_, fun _ _ z => z, c.mt.stay (fun a ob z _ => z) fun _ => .inl⟩
  rcases z with z | z
  · exact ⟨.inl z, fun t => c.dj a z (h a t)⟩
  · exact z.elim
/-- what stands there now and later -/
def KdOk (g : G) (H : Hp) (F : AS) (c : Kd) (ds : List D) : Prop := ∃ xs, Reps g H F xs ds none_ ∧ ∀ H1 F1, Later H F H1 F1 → SqK g.K H1 c xs
theorem sqt_later {K : PySem.W.Frag} {a : Adr} {xs : List V} (h : SqT K H a xs) (l : Later H F H1 F1) : SqT K H1 a xs := by
  rcases h with (q | ⟨o, q⟩) | q
  · exact .inl (.inl (l.keep a _ q (by intro xs z; cases z)))
  · exact .inl (.inr ⟨o, l.keep a _ q (by intro xs z; cases z)⟩)
  · exact .inr q
theorem wlk_rep {d : D} {v : V} {ds : List D} {R : Kd → List V → Prop} (r : Rep g H F v d P) (h : itemsOf d = some ds) (k : ∀ c xs, KdOk g H (fun a => F a ∨ P a) c ds → R c xs) : WlkV g.K H v R := by
  cases d with
  | str s =>
    cases (show v = .str ⟨s.toArray⟩ from r)
    cases h
    refine .inr (.inr ⟨_, rfl, fun u => k _ _ ⟨L2.signs ⟨s.toArray⟩, ?_, fun _ _ _ => rfl⟩⟩)
    unfold L2.signs
    show Reps g H _ (s.toArray.toList.map fun c => V.str ⟨#[c]⟩) (s.map fun c => D.str [c]) none_
    simp only [List.toList_toArray]
    clear k r
    induction s with
    | nil => rfl
    | cons c s ih => exact Reps.cons0 (show Rep g H _ (.str ⟨[c].toArray⟩) (.str [c]) none_ from rfl) ih
  | tup es =>
    obtain ⟨a, vs, rfl, q, rr⟩ := r
    cases h
    exact .inr (.inl ⟨a, vs, rfl, q, k _ _ ⟨vs, rr.freeze (fun _ => .inl) fun _ => .inr, fun H1 F1 l => sqt_later q l⟩⟩)
  | lst es =>
    obtain ⟨a, vs, rfl, q, s, rr⟩ := r
    cases h
    exact .inl ⟨a, vs, rfl, .inl (.inl q), k _ _ ⟨vs, rr.freeze (fun _ => .inl) fun _ z => z.elim, fun H1 F1 l => .inl (.inl (l.keep a _ q fun xs e => .inl s))⟩⟩
  | own es =>
    obtain ⟨a, vs, rfl, q, s, rr⟩ := r
    cases h
    exact .inl ⟨a, vs, rfl, .inl (.inl q), k _ _ ⟨vs, rr.freeze (fun _ => .inl) fun _ z => .inr z.1, fun H1 F1 l => .inl (.inl (l.keep a _ q fun xs e => .inr s))⟩⟩
  | _ => cases h
theorem reps_at {ds : List D} {xs : List V} {i : Nat} {x : V} (r : Reps g H F xs ds none_) (h : xs[i]? = some x) : ∃ d, ds[i]? = some d ∧ Rep g H F x d none_ := by
  have hi : i < xs.length := (List.getElem?_eq_some_iff.mp h).1
  rw [r.length] at hi
  obtain ⟨v, h1, h2⟩ := r.get (d := ds[i]) (i := i) (by simp [hi])
  rw [h] at h1; cases h1
  exact ⟨ds[i], by simp [hi], h2⟩
theorem iter_seq {c : Kd} {ds : List D} (k : KdOk g H F c ds) : IterOk g H F (L2.ItK g.K c) ds := by
  obtain ⟨xs, r, hq⟩ := k
  have one : ∀ H1 F1, Later H F H1 F1 → ∀ i x, xs[i]? = some x → ∃ d, ds[i]? = some d ∧ Yld g H1 F1 x H1 d := fun H1 F1 l i x hx => by
    obtain ⟨d, h1, h2⟩ := reps_at r hx
    exact ⟨d, h1, .inl ⟨rfl, h2.later l⟩⟩
  cases c with
  | l a => exact ⟨xs.length, _, _, r.length, L2.walk_list, fun H1 F1 l => ⟨hq H1 F1 l, fun i x H2 hi y => by obtain ⟨rfl, hx⟩ := y; exact one _ F1 l i x hx⟩⟩
  | t a => exact ⟨xs.length, _, _, r.length, L2.walk_tup, fun H1 F1 l => ⟨hq H1 F1 l, fun i x H2 hi y => by obtain ⟨rfl, hx⟩ := y; exact one _ F1 l i x hx⟩⟩
  | s z u =>
    have e : xs = L2.signs z := hq H F Later.refl
    have n : z.cps.size = ds.length := by rw [← r.length, e]; unfold L2.signs; simp
    refine ⟨z.cps.size, _, _, n, L2.walk_str, fun H1 F1 l => ⟨trivial, fun i x H2 hi y => ?_⟩⟩
    obtain ⟨rfl, c, hc, rfl⟩ := y
    refine one _ F1 l i _ ?_
    rw [e]; unfold L2.signs
    rw [List.getElem?_map, Array.getElem?_toList, hc]; rfl
theorem iter_range {lo : Int} {n : Nat} : IterOk g H F (L2.Itr lo n) (rangeD lo 1 n) := by
  refine ⟨n, _, _, by unfold rangeD; simp, L2.walk_range, fun H1 F1 l => ⟨trivial, fun i x H2 hi y => ?_⟩⟩
  obtain ⟨rfl, rfl⟩ := y
  refine ⟨.int (lo + i), ?_, .inl ⟨rfl, rfl⟩⟩
  unfold rangeD
  simp [hi]
theorem tup2 {x y : V} {d d' : D} {T : Adr} (h : H T = none) (r1 : Rep g H F x d none_) (r2 : Rep g H F y d' none_) : Rep g (upd H T (.tup [x, y])) F (.ref T) (.tup [d, d']) none_ :=
  ⟨T, [x, y], rfl, .inl (.inl upd_same), Reps.cons0 (r1.fresh h) (Reps.cons0 (r2.fresh h) rfl)⟩
theorem enumAux_get : ∀ (ds : List D) (k i : Nat), (enumAux k ds)[i]? = ds[i]?.map fun d => D.tup [.int ((k + i : Nat) : Int), d]
  | [], k, i => rfl
  | d :: r, k, 0 => rfl
  | d :: r, k, i + 1 => by
    show (enumAux (k + 1) r)[i]? = _
    rw [enumAux_get r (k + 1) i]
    simp [Nat.add_assoc, Nat.add_comm 1 i]
theorem enumAux_len : ∀ (ds : List D) (k : Nat), (enumAux k ds).length = ds.length
  | [], k => rfl
  | d :: r, k => by show (enumAux (k + 1) r).length + 1 = _; rw [enumAux_len r]; rfl
theorem iter_enum {c : Kd} {ds : List D} (k : KdOk g H F c ds) : IterOk g H F (L2.ItE g.K c) (enumAux 0 ds) := by
  obtain ⟨xs, r, hq⟩ := k
  refine ⟨xs.length, fun H1 => SqK g.K H1 c xs, fun i H1 v H2 => ∃ T x, v = .ref T ∧ H1 T = none ∧ H2 = upd H1 T (.tup [.int (i : Nat), x]) ∧ xs[i]? = some x, by rw [enumAux_len, r.length], ⟨fun i H1 hi q => ⟨xs, q, hi⟩, fun H1 q => ⟨xs, q, rfl⟩, fun i H1 x H2 hi q y => ?_⟩, fun H1 F1 l => ⟨hq H1 F1 l, fun i x H2 hi y => ?_⟩⟩
  · obtain ⟨T, z, h1, h2, h3, h4⟩ := y
    exact ⟨T, z, h1, h2, h3, h4 xs q⟩
  · obtain ⟨T, z, rfl, h2, rfl, h4⟩ := y
    obtain ⟨d, h5, h6⟩ := reps_at r h4
    refine ⟨.tup [.int i, d], by rw [enumAux_get, h5]; simp, .inr ⟨T, _, h2, rfl, tup2 h2 (show Rep g H1 F1 (.int (i : Nat)) (.int (i : Nat)) none_ from rfl) (h6.later l)⟩⟩
theorem iter_zip {c1 c2 : Kd} {ds es : List D} (k1 : KdOk g H F c1 ds) (k2 : KdOk g H F c2 es) : IterOk g H F (L2.ItZ g.K c1 c2) (zipD ds es) := by
  obtain ⟨xs, r1, hq1⟩ := k1
  obtain ⟨ys, r2, hq2⟩ := k2
  refine ⟨min xs.length ys.length, fun H1 => SqK g.K H1 c1 xs ∧ SqK g.K H1 c2 ys, fun i H1 v H2 => ∃ T x y, v = .ref T ∧ H1 T = none ∧ H2 = upd H1 T (.tup [x, y]) ∧ xs[i]? = some x ∧ ys[i]? = some y, by unfold zipD; rw [List.length_zipWith, r1.length, r2.length], ⟨fun i H1 hi q => ⟨xs, ys, q.1, q.2, by omega, by omega⟩, fun H1 q => ⟨xs, ys, q.1, q.2, by omega, by omega, by omega⟩, fun i H1 x H2 hi q y => ?_⟩, fun H1 F1 l => ⟨⟨hq1 H1 F1 l, hq2 H1 F1 l⟩, fun i x H2 hi y => ?_⟩⟩
  · obtain ⟨T, z, w, h1, h2, h3, h4, h5⟩ := y
    exact ⟨T, z, w, h1, h2, h3, h4 xs q.1, h5 ys q.2⟩
  · obtain ⟨T, z, w, rfl, h2, rfl, h4, h5⟩ := y
    obtain ⟨d, h6, h7⟩ := reps_at r1 h4
    obtain ⟨d', h8, h9⟩ := reps_at r2 h5
    refine ⟨.tup [d, d'], ?_, .inr ⟨T, _, h2, rfl, tup2 h2 (h7.later l) (h9.later l)⟩⟩
    unfold zipD
    rw [List.getElem?_zipWith, h6, h8]
section
variable {X : Cx} {tg a b c : PySem.Expr} {pos p tpos : PySem.Pos} {ma mb mc : M D} {elts : List PySem.Expr} {kk : Nat}
theorem u_itPlain (hK : X.K = g.K) (ha : PE X a (UE g W ma)) : PI X tg a (UI g W (do M.of (itemsOf (← ma)))) := by
  refine pi_weak (L2.pi_seqK ha) fun σ H R w => ?_
  obtain ⟨e, F, S, o, mt, out⟩ := w
  refine (Cur.start o mt).ue (Out.bind out) fun x e1 _ o1 v H1 F1 Se1 Sv1 c1 c1' r1 => ?_
  obtain ⟨ds, hd, ok⟩ := of_end o1
  rw [hK]
  have cf := c1'.freeze (T := Sv1) fun a z => .inr z
  exact wlk_rep r1 hd fun c xs k => ok _ H1 _ Se1 cf (iter_seq k)
theorem u_itRange1 (hg : L2.Gl X "range") (hm : X.mg "range" = none) (ha : PE X a (UE g W ma)) (qa : exq a = true) : PI X tg (.Call (.Name "range" p) [a] [] pos) (UI g W (do
    let j ← asInt (← ma)
    M.guard (small j)
    return rangeD 0 1 j.toNat)) := by
  refine pi_weak (L2.pi_range1 hg hm (L2.pa_cons ha L2.pa_nil (star_cons qa)) (star_cons qa)) fun σ H R w => ?_
  obtain ⟨e, F, S, o, mt, out⟩ := w
  refine (Cur.start o mt).ue (Out.bind out) fun x e1 _ o1 v H1 F1 Se1 Sv1 c1 c1' r1 => ?_
  obtain ⟨j, rfl, o2⟩ := asInt_ok o1
  obtain ⟨hs, o3⟩ := guard_ok o2
  cases (show v = .int j from r1)
  have hs := of_decide_eq_true hs
  exact ⟨j, rfl, hs.1, hs.2, o3 _ H1 F1 Se1 c1'.none iter_range⟩
theorem u_itRange2 (hg : L2.Gl X "range") (hm : X.mg "range" = none) (ha : PE X a (UE g W ma)) (hb : PE X b (UE g W mb)) (qa : exq a = true) (qb : exq b = true) : PI X tg (.Call (.Name "range" p) [a, b] [] pos) (UI g W (do
    let i ← asInt (← ma)
    let j ← asInt (← mb)
    M.guard (small i && small j)
    return rangeD i 1 (j - i).toNat)) := by
  refine pi_weak (L2.pi_range2 hg hm (L2.pa_cons ha (L2.pa_cons hb L2.pa_nil (star_cons qb)) (star_cons qa)) (by rw [star_cons qa, star_cons qb]; rfl) (star_cons qb)) fun σ H R w => ?_
  obtain ⟨e, F, S, o, mt, out⟩ := w
  refine (Cur.start o mt).ue (Out.bind out) fun x e1 _ o1 v H1 F1 Se1 Sv1 c1 c1' r1 => ?_
  obtain ⟨i, rfl, o2⟩ := asInt_ok o1
  refine c1'.ue (Out.bind o2) fun x e2 _ o2 u H2 F2 Se2 Sv2 c2 c2' r2 => ?_
  obtain ⟨j, rfl, o2⟩ := asInt_ok o2
  obtain ⟨hs, o3⟩ := guard_ok o2
  cases (show v = .int i from r1)
  cases (show u = .int j from r2)
  rw [Bool.and_eq_true] at hs
  have h1 := of_decide_eq_true hs.1
  have h2 := of_decide_eq_true hs.2
  exact ⟨i, j, rfl, ⟨h1.1, h1.2, h2.1, h2.2⟩, o3 _ H2 F2 Se2 c2'.none iter_range⟩
theorem u_itEnum (hK : X.K = g.K) (hg : L2.Gl X "enumerate") (hm : X.mg "enumerate" = none) (ha : PE X a (UE g W ma)) (qa : exq a = true) : PI X (.Tuple elts kk tpos) (.Call (.Name "enumerate" p) [a] [] pos) (UI g W (do
    let xs ← M.of (itemsOf (← ma))
    return enumAux 0 xs)) := by
  refine pi_weak (L2.pi_enumK hg hm (L2.pa_cons ha L2.pa_nil (star_cons qa)) (star_cons qa)) fun σ H R w => ?_
  obtain ⟨e, F, S, o, mt, out⟩ := w
  refine (Cur.start o mt).ue (Out.bind out) fun x e1 _ o1 v H1 F1 Se1 Sv1 c1 c1' r1 => ?_
  obtain ⟨ds, hd, ok⟩ := of_ok o1
  rw [hK]
  have cf := c1'.freeze (T := Sv1) fun a z => .inr z
  exact ⟨v, rfl, wlk_rep r1 hd fun c xs k => ok _ H1 _ Se1 cf (iter_enum k)⟩
theorem u_itZip (hK : X.K = g.K) (hg : L2.Gl X "zip") (hm : X.mg "zip" = none) (ha : PE X a (UE g W ma)) (hb : PE X b (UE g W mb)) (qa : exq a = true) (qb : exq b = true) : PI X (.Tuple elts kk tpos) (.Call (.Name "zip" p) [a, b] [] pos) (UI g W (do
    let xs ← M.of (itemsOf (← ma))
    let ys ← M.of (itemsOf (← mb))
    return zipD xs ys)) := by
  refine pi_weak (L2.pi_zipK hg hm (L2.pa_cons ha (L2.pa_cons hb L2.pa_nil (star_cons qb)) (star_cons qa)) (star_cons qa) (back_no (by simp [qb]))) fun σ H R w => ?_
  obtain ⟨e, F, S, o, mt, out⟩ := w
  refine (Cur.start o mt).ue (Out.bind out) fun x e1 _ o1 v H1 F1 Se1 Sv1 c1 c1' r1 => ?_
  obtain ⟨ds, hd, o1⟩ := of_ok o1
  refine c1'.ue (Out.bind o1) fun y e2 _ o2 u H2 F2 Se2 Sv2 c2 c2' r2 => ?_
  obtain ⟨es, he, ok⟩ := of_ok o2
  rw [hK]
  have r1' := c1'.kept c2 r1 fun a z => .inr z
  have cf := c2'.freeze (T := fun a => Sv1 a ∨ Sv2 a) fun a z => z.elim (fun z => .inl (.inr z)) .inr
  have kd : ∀ {c ds}, KdOk g H2 (fun a => F2 a ∨ Sv1 a) c ds → KdOk g H2 (fun a => F2 a ∨ (Sv1 a ∨ Sv2 a)) c ds := fun {c ds} ⟨xs, r, q⟩ =>
    ⟨xs, r.stay (fun a ob z _ => z) fun a z => z.imp_right .inl, fun H1 F1 l => q H1 F1 ⟨fun a o h k => l.keep a o h fun xs e => (k xs e).imp_right .inl, fun a z => l.grow a (z.imp_right .inl), l.trk⟩⟩
  have kd2 : ∀ {c ds}, KdOk g H2 (fun a => F2 a ∨ Sv2 a) c ds → KdOk g H2 (fun a => F2 a ∨ (Sv1 a ∨ Sv2 a)) c ds := fun {c ds} ⟨xs, r, q⟩ =>
    ⟨xs, r.stay (fun a ob z _ => z) fun a z => z.imp_right .inr, fun H1 F1 l => q H1 F1 ⟨fun a o h k => l.keep a o h fun xs e => (k xs e).imp_right .inr, fun a z => l.grow a (z.imp_right .inr), l.trk⟩⟩
  exact ⟨v, u, rfl, wlk_rep r1' hd fun c1 xs k1 => wlk_rep r2 he fun c2 ys k2 => ok _ H2 _ Se2 cf (iter_zip (kd k1) (kd2 k2))⟩
end
end Py
end
section
/-! S5d: targets, comprehensions -/
namespace Py
open L2 (V Hp HO St TE TT TS TA TG TGs TI TO Ends VK XK WX SqL SqT Rd upd upd_same upd_ne PE PT PA PS PSs PG PGs PTs PI PW PO Cx R2 OpR CallR Walk wipe)
variable {g : G} {H H0 H1 H2 H' : Hp} {F F0 F1 F2 F' : AS} {S S0 S1 S2 S' Se Se' Sv P T : AS} {σ σ' : St} {e e' : Env} {W : WX}
/-! ### targets -/
def gNames : List Nat → TGs
  | [] => L2.gNil
  | i :: r => L2.gCons (L2.gName i) (gNames r)
def tgR (K : PySem.W.Frag) : Tg → TG
  | .nm i => L2.gName i
  | .tup is => fun v σ H Q => L2.gTup K is.length (gNames is) v σ H Q ∨ L2.gUnl K is.length (gNames is) v σ H Q
theorem pg_or {X : Cx} {tg : PySem.Expr} {t t' : TG} (h : PG X tg t) (h' : PG X tg t') : PG X tg (fun v σ H Q => t v σ H Q ∨ t' v σ H Q) :=
  ⟨fun pins s σ H v u Q I r w => w.elim (h.run pins s σ H v u Q I r) (h'.run pins s σ H v u Q I r)⟩
/-- slots set one after another -/
def setAll (e : Env) (ps : List (Nat × D)) : Env := ps.foldl (fun e p => e.set p.1 (some p.2)) e
/-- the same in the frame -/
def setAllV (σ : St) : List (Nat × V) → St
  | [] => σ
  | p :: r => setAllV (σ.set p.1 (some p.2)) r
theorem setAllV_len : ∀ (ps : List (Nat × V)) (σ : St), (setAllV σ ps).length = σ.length
  | [], σ => rfl
  | p :: r, σ => by show (setAllV _ r).length = _; rw [setAllV_len r]; simp
theorem setAllV_ne {j : Nat} : ∀ (ps : List (Nat × V)) (σ : St), (∀ p ∈ ps, p.1 ≠ j) → (setAllV σ ps)[j]? = σ[j]?
  | [], σ, _ => rfl
  | p :: r, σ, h => by
    show (setAllV _ r)[j]? = _
    rw [setAllV_ne r _ fun q m => h q (List.mem_cons_of_mem _ m), List.getElem?_set_ne (h p (by simp))]
theorem Ma.setAll : ∀ {is : List Nat} {ds : List D} {vs : List V} {e : Env} {σ : St} {S1 S2 S : AS}, Ma g H F e σ S1 → Reps g H F vs ds S2 → (∀ a, S1 a → S a) → (∀ a, S2 a → S a) → (∀ a, S1 a → ¬ S2 a) → Ma g H F (setAll e (is.zip ds)) (setAllV σ (is.zip vs)) S
  | [], ds, vs, e, σ, S1, S2, S, m, r, h1, h2, dj => by
    cases ds <;> cases vs <;> exact m.mono h1
  | i :: is, [], vs, e, σ, S1, S2, S, m, r, h1, h2, dj => by
    rw [show vs = [] from r]; exact m.mono h1
  | i :: is, d :: ds, vs, e, σ, S1, S2, S, m, r, h1, h2, dj => by
    obtain ⟨v, rr, P1, P2, rfl, k1, k2, k3, p, q⟩ := r
    show Ma g H F (Py.setAll (e.set i (some d)) (is.zip ds)) (setAllV (σ.set i (some v)) (is.zip rr)) S
    have m1 : Ma g H F (e.set i (some d)) (σ.set i (some v)) (fun a => S1 a ∨ P1 a) := m.store p (fun _ => .inl) (fun _ => .inr) fun a s z => dj a s (k1 a z)
    exact Ma.setAll m1 q (fun a z => z.elim (h1 a) fun z => h2 a (k1 a z)) (fun a z => h2 a (k2 a z)) fun a z w => z.elim (fun z => dj a z (k2 a w)) fun z => k3 a z w
theorem gNames_ok : ∀ {is : List Nat} {vs : List V} {σ : St} {Q : St → Hp → Prop}, vs.length = is.length → Q (setAllV σ (is.zip vs)) H → gNames is vs σ H Q
  | [], vs, σ, Q, h, q => by
    have : vs = [] := List.eq_nil_of_length_eq_zero h
    subst this
    exact ⟨rfl, q⟩
  | i :: is, [], σ, Q, h, q => by cases h
  | i :: is, v :: vs, σ, Q, h, q => ⟨v, vs, rfl, gNames_ok (by simpa using h) q⟩
/-- what the target's names are given -/
theorem tg_ok {t : Tg} {d : D} {v : V} {Q : St → Hp → Prop} (m : Ma g H F e σ S1) (r : Rep g H F v d S2) (h1 : ∀ a, S1 a → S a) (h2 : ∀ a, S2 a → S a) (dj : ∀ a, S1 a → ¬ S2 a) (hb : bindTg t d e = .ok () e')
    (k : ∀ σ', Ma g H F e' σ' S → σ'.length = σ.length → (∀ j, j ∉ t.slots → σ'[j]? = σ[j]?) → Q σ' H) : tgR g.K t v σ H Q := by
  cases t with
  | nm i =>
    cases (show R.ok () (e.set i (some d)) = .ok () e' from hb)
    exact k _ (m.store r h1 h2 dj) (by simp) fun j hj => List.getElem?_set_ne (by intro z; subst z; exact hj (by simp [Tg.slots]))
  | tup is =>
    have hb : (match d.items with
      | some ds => if is.length = ds.length then (fun e => R.ok () (setAll e (is.zip ds)) : M Unit) else M.bad
      | none => M.bad) e = .ok () e' := hb
    cases hi : d.items with
    | none => rw [hi] at hb; cases hb
    | some ds =>
      rw [hi] at hb
      by_cases hl : is.length = ds.length
      · rw [show (match some ds with
          | some ds => if is.length = ds.length then (fun e => R.ok () (setAll e (is.zip ds)) : M Unit) else M.bad
          | none => M.bad) = (fun e => R.ok () (setAll e (is.zip ds)) : M Unit) from if_pos hl] at hb
        cases hb
        obtain ⟨a, vs, rfl, hq, rr⟩ := r.items hi
        have hl2 : vs.length = is.length := by rw [rr.length, hl]
        have q : Q (setAllV σ (is.zip vs)) H := k _ (m.setAll rr h1 h2 dj) (setAllV_len _ _) fun j hj => setAllV_ne _ _ fun p hp z => hj (by
          subst z
          show p.1 ∈ is
          exact (List.of_mem_zip (a := p.1) (b := p.2) hp).1)
        rcases hq with hq | hq
        · exact .inr ⟨a, vs, rfl, hq, hl2, gNames_ok hl2 q⟩
        · exact .inl ⟨a, vs, rfl, hq, hl2, gNames_ok hl2 q⟩
      · rw [show (match some ds with
          | some ds => if is.length = ds.length then (fun e => R.ok () (setAll e (is.zip ds)) : M Unit) else M.bad
          | none => M.bad) = (M.bad : M Unit) from if_neg hl] at hb
        cases hb
/-! ### slots forgotten, slots given back -/
theorem wipe_len : ∀ (vs : List Nat) (e : Env), (wipeE e vs).length = e.length
  | [], e => rfl
  | v :: vs, e => by show ((wipeE e vs).set v none).length = _; rw [List.length_set, wipe_len vs e]
theorem wipeE_get {j : Nat} : ∀ (vs : List Nat) (e : Env), j ∉ vs → (wipeE e vs)[j]? = e[j]?
  | [], e, _ => rfl
  | v :: vs, e, h => by
    show ((wipeE e vs).set v none)[j]? = _
    rw [List.getElem?_set_ne (fun z => h (by simp [z])), wipeE_get vs e fun m => h (List.mem_cons_of_mem _ m)]
theorem wipeE_no {j : Nat} {d : D} : ∀ (vs : List Nat) (e : Env), j ∈ vs → (wipeE e vs)[j]? ≠ some (some d)
  | v :: vs, e, h => by
    show ((wipeE e vs).set v none)[j]? ≠ _
    by_cases n : v = j
    · subst n
      by_cases hl : v < (wipeE e vs).length
      · rw [List.getElem?_set_self hl]; intro z; cases z
      · rw [List.getElem?_eq_none (by simpa using hl)]; intro z; cases z
    · rw [List.getElem?_set_ne n]
      rcases List.mem_cons.mp h with h | h
      · exact absurd h.symm n
      · exact wipeE_no vs e h
theorem wipe_len2 : ∀ (vs : List Nat) (σ : St), (wipe σ vs).length = σ.length := fun vs σ => L2.wipe_length σ vs
theorem wipe_get {j : Nat} : ∀ (vs : List Nat) (σ : St), j ∉ vs → (wipe σ vs)[j]? = σ[j]?
  | [], σ, _ => rfl
  | v :: vs, σ, h => by
    show ((wipe σ vs).set v none)[j]? = _
    rw [List.getElem?_set_ne (fun z => h (by simp [z])), wipe_get vs σ fun m => h (List.mem_cons_of_mem _ m)]
theorem wipe_none {j : Nat} : ∀ (vs : List Nat) (σ : St), j ∈ vs → j < σ.length → (wipe σ vs)[j]? = some none
  | v :: vs, σ, h, hl => by
    show ((wipe σ vs).set v none)[j]? = _
    by_cases n : v = j
    · subst n
      rw [List.getElem?_set_self (by rw [wipe_len2]; exact hl)]
    · rw [List.getElem?_set_ne n]
      rcases List.mem_cons.mp h with h | h
      · exact absurd h.symm n
      · exact wipe_none vs σ h hl
theorem wipe_eq {vs : List Nat} (hl : σ'.length = σ.length) (h : ∀ j, j ∉ vs → σ'[j]? = σ[j]?) : wipe σ' vs = wipe σ vs := by
  refine List.ext_getElem? fun j => ?_
  by_cases m : j ∈ vs
  · by_cases hj : j < σ.length
    · rw [wipe_none vs σ m hj, wipe_none vs σ' m (by omega)]
    · rw [List.getElem?_eq_none (by rw [wipe_len2]; omega), List.getElem?_eq_none (by rw [wipe_len2]; omega)]
  · rw [wipe_get vs σ m, wipe_get vs σ' m, h j m]
theorem wipe_wipe (vs : List Nat) (σ : St) : wipe (wipe σ vs) vs = wipe σ vs := wipe_eq (wipe_len2 _ _) fun j h => wipe_get vs σ h
theorem Ma.wipes {vs : List Nat} (m : Ma g H F e σ S) : Ma g H F (wipeE e vs) (L2.wipe σ vs) S := by
  obtain ⟨T, a, b, c, l⟩ := m
  refine ⟨T, fun j d h => ?_, b, c, by rw [wipe_len, wipe_len2]; exact l⟩
  by_cases hj : j ∈ vs
  · exact absurd h (wipeE_no vs e hj)
  · rw [wipeE_get vs e hj] at h
    rw [wipe_get vs σ hj]
    exact a j d h
theorem restore_len : ∀ (vs : List Nat) (e e' : Env), (restore e e' vs).length = e'.length
  | [], e, e' => rfl
  | v :: vs, e, e' => by show ((restore e e' vs).set v _).length = _; rw [List.length_set, restore_len vs e e']
theorem restore_get {j : Nat} {d : D} : ∀ (vs : List Nat) (e e' : Env), (restore e e' vs)[j]? = some (some d) → (j ∈ vs ∧ e[j]? = some (some d)) ∨ (j ∉ vs ∧ e'[j]? = some (some d))
  | [], e, e', h => .inr ⟨by simp, h⟩
  | v :: vs, e, e', h => by
    have h : ((restore e e' vs).set v ((e[v]?).getD none))[j]? = some (some d) := h
    by_cases n : v = j
    · subst n
      by_cases hl : v < (restore e e' vs).length
      · rw [List.getElem?_set_self hl] at h
        refine .inl ⟨by simp, ?_⟩
        cases hv : e[v]? with
        | none => rw [hv] at h; cases h
        | some o => rw [hv] at h; simpa using h
      · rw [List.getElem?_eq_none (by simpa using hl)] at h; cases h
    · rw [List.getElem?_set_ne n] at h
      rcases restore_get vs e e' h with z | z
      · exact .inl ⟨List.mem_cons_of_mem _ z.1, z.2⟩
      · exact .inr ⟨by simp only [List.mem_cons, not_or]; exact ⟨fun w => n w.symm, z.1⟩, z.2⟩
theorem Ma.restore {vs : List Nat} {eb ef : Env} (m : Ma g H1 F1 (wipeE ef vs) (L2.wipe σ vs) S1) (m0 : Ma g H F eb σ S) (hp : plainAt eb vs = true) (l : Later H F H1 F1) (hl : ef.length ≤ σ.length) : Ma g H1 F1 (Py.restore eb ef vs) σ S1 := by
  obtain ⟨T, a, b, c, _⟩ := m
  refine ⟨fun j x => j ∉ vs ∧ T j x, fun j d h => ?_, fun j x z => b j x z.2, fun j k x z w => c j k x z.2 w.2, by rw [restore_len]; exact hl⟩
  rcases restore_get vs eb ef h with ⟨hj, z⟩ | ⟨hj, z⟩
  · obtain ⟨v, hv, r⟩ := m0.get z
    have pl : d.plain = true := by
      have := List.all_eq_true.mp hp j hj
      rw [z] at this
      exact this
    exact ⟨v, hv, ((r.plain pl).later l).mono fun _ z => z.elim⟩
  · obtain ⟨v, hv, r⟩ := a j d (by rw [wipeE_get vs ef hj]; exact z)
    rw [wipe_get vs σ hj] at hv
    exact ⟨v, hv, r.mono fun x z => ⟨hj, z⟩⟩
/-! ### comprehensions -/
/-- no error leaves it -/
abbrev noX : WX := fun _ _ _ _ => False
theorem bind_ok {α β : Type} {m : M α} {f : α → M β} {b : β} {e e2 : Env} (h : (m e).bind f = .ok b e2) : ∃ a e1, m e = .ok a e1 ∧ f a e1 = .ok b e2 := by
  cases hm : m e with
  | ok a e1 => rw [hm] at h; exact ⟨a, e1, rfl, h⟩
  | exc c ps e1 => rw [hm] at h; cases h
  | bad => rw [hm] at h; cases h
theorem compGo_cons {t : Tg} {mc : M Bool} {mx : M D} {d : D} {r : List D} {xs : List D} {e ef : Env} (h : compGo t mc mx (d :: r) e = .ok xs ef) :
    ∃ e2 b e3, bindTg t d (wipeE e t.slots) = .ok () e2 ∧ mc e2 = .ok b e3 ∧ (if b = true then ∃ y e4 ys, mx e3 = .ok y e4 ∧ compGo t mc mx r e4 = .ok ys ef ∧ xs = y :: ys else compGo t mc mx r e3 = .ok xs ef) := by
  have h : ((bindTg t d) (wipeE e t.slots)).bind (fun _ => M.bind mc fun b => if b = true then M.bind mx fun y => M.bind (compGo t mc mx r) fun ys => pure (y :: ys) else compGo t mc mx r) = .ok xs ef := h
  obtain ⟨_, e2, h1, h⟩ := bind_ok h
  obtain ⟨b, e3, h2, h⟩ := bind_ok (show (mc e2).bind _ = _ from h)
  refine ⟨e2, b, e3, h1, h2, ?_⟩
  cases b with
  | false => rw [if_neg Bool.false_ne_true] at h ⊢; exact h
  | true =>
    rw [if_pos rfl] at h ⊢
    obtain ⟨y, e4, h3, h⟩ := bind_ok (show (mx e3).bind _ = _ from h)
    obtain ⟨ys, e5, h4, h⟩ := bind_ok (show (compGo t mc mx r e4).bind _ = _ from h)
    cases h
    exact ⟨y, e4, ys, h3, h4, rfl⟩
/-- the list that is made stands in P, apart from the rest -/
structure Mk (g : G) (σ : St) (S0 : AS) (H0 : Hp) (F0 : AS) (e : Env) (H : Hp) (F : AS) (Se P : AS) (D : Adr) (acc : List V) (ds : List Py.D) : Prop where
  cur : Cur g σ S0 H0 F0 e H F Se P
  mem : P D
  at_ : H D = some (.lst acc)
  rep : Reps g H F acc ds (fun b => P b ∧ b ≠ D)
theorem Cur.apart' {σ2 : St} (c : Cur g σ S0 H0 F0 e H F Se P) (c' : Cur g σ2 Se H F e' H' F' Se' Sv) : ∀ a, P a → ¬ Sv a := fun a p z => (c'.aft.apart c.ownP fun a p s => c.dj a s p).2 a p (.inr z)
theorem Mk.step {D : Adr} {acc : List V} {ds : List Py.D} {σ2 : St} (m : Mk g σ S0 H0 F0 e H F Se P D acc ds) (c : Cur g σ2 Se H F e' H' F' Se' Sv) : Mk g σ2 S0 H0 F0 e' H' F' Se' (fun a => P a ∨ Sv a) D acc ds := by
  have cm : Cur g σ2 S0 H0 F0 e' H' F' Se' (fun a => P a ∨ Sv a) := by
    have f := c.aft.frame m.cur.ownP fun a p s => m.cur.dj a s p
    have ap := c.aft.apart m.cur.ownP fun a p s => m.cur.dj a s p
    refine ⟨(m.cur.aft.trans f).weak fun a z => ?_, fun a s z => ?_, c.mt⟩
    · rcases z with z | z | z
      · exact .inl (.inl z)
      · exact .inr z
      · exact .inl (.inr z)
    · rcases z with z | z
      · exact ap.2 a z (.inl s)
      · exact c.dj a s z
  refine ⟨cm, .inl m.mem, c.aft.keep _ _ m.at_ fun xs e s => m.cur.dj _ s m.mem, ?_⟩
  exact (m.rep.after c.aft m.cur.ownE fun a p s => m.cur.dj a s p.1).mono fun a p => ⟨.inl p.1, p.2⟩
theorem Mk.less {D : Adr} {acc : List V} {ds : List Py.D} (m : Mk g σ S0 H0 F0 e H F Se (fun a => P a ∨ Sv a) D acc ds) (h : P D) (r : Reps g H F acc ds (fun b => P b ∧ b ≠ D)) : Mk g σ S0 H0 F0 e H F Se P D acc ds := ⟨m.cur.less fun _ => .inl, h, m.at_, r⟩
theorem Mk.stepN {D : Adr} {acc : List V} {ds : List Py.D} {σ2 : St} (m : Mk g σ S0 H0 F0 e H F Se P D acc ds) (c : Cur g σ2 Se H F e' H' F' Se' none_) : Mk g σ2 S0 H0 F0 e' H' F' Se' P D acc ds := by
  have k := m.step c
  refine k.less m.mem ((m.rep.after c.aft m.cur.ownE fun a p s => m.cur.dj a s p.1))
/-- one more -/
theorem Mk.add {D : Adr} {acc : List V} {ds : List Py.D} {d : Py.D} {v : V} (m : Mk g σ S0 H0 F0 e H F Se (fun a => P a ∨ Sv a) D acc ds) (hP : P D) (dj : ∀ a, P a → ¬ Sv a) (r0 : Reps g H F acc ds (fun b => P b ∧ b ≠ D)) (r : Rep g H F v d Sv) : Mk g σ S0 H0 F0 e (upd H D (.lst (acc ++ [v]))) F Se (fun a => P a ∨ Sv a) D (acc ++ [v]) (ds ++ [d]) := by
  have w := Aft.write (ys := acc ++ [v]) m.cur.aft.ow m.at_ (.inr m.mem)
  have keepU : ∀ a o, H a = some o → a ≠ D → upd H D (.lst (acc ++ [v])) a = some o := fun a o z n => by rw [upd_ne n]; exact z
  have nF : ∀ a, F a → a ≠ D := fun a f e => by subst e; exact (m.cur.ownP.s a m.mem).1 f
  refine ⟨⟨m.cur.aft.trans w, m.cur.dj, m.cur.mt.stay (fun a ob z k => ?_) fun _ z => z⟩, m.mem, upd_same, ?_⟩
  · by_cases n : a = D
    · subst n
      rw [m.at_] at z; cases z
      exact ((k acc rfl).elim (fun s => m.cur.dj a s m.mem) fun f => nF a f rfl).elim
    · exact keepU a ob z n
  · refine Reps.append (es := [d]) (ws := [v]) (P1 := fun b => P b ∧ b ≠ D) (P2 := Sv) (fun b z => ⟨.inl z.1, z.2⟩) (fun b z => ⟨.inr z, fun e => dj D hP (e ▸ z)⟩) (fun b z w => dj b z.1 w) ?_ (Reps.cons (vs := []) (ds := []) (P1 := Sv) (P2 := none_) (fun _ z => z) (fun _ z => z.elim) (fun _ _ z => z) ?_ rfl)
    · exact r0.stay (fun a ob z k => by
        by_cases n : a = D
        · subst n
          rw [m.at_] at z; cases z
          exact ((k acc rfl).elim (fun p => p.2 rfl) fun f => nF a f rfl).elim
        · exact keepU a ob z n) fun _ z => z
    · exact r.stay (fun a ob z k => by
        by_cases n : a = D
        · subst n
          rw [m.at_] at z; cases z
          exact ((k acc rfl).elim (fun p => dj a hP p) fun f => nF a f rfl).elim
        · exact keepU a ob z n) fun _ z => z
theorem lc_ok {t : Tg} {mi : M (List D)} {mc : M Bool} {mx : M D} {σ : St} {H : Hp} {Q : VK} (w : UE g W (do
      let items ← mi
      compM t mc mx items) σ H Q) : L2.tLc (UI g W mi) (tgR g.K t) (UT g noX mc) (UE g noX mx) t.slots σ H Q := by
  obtain ⟨e, F, S, o, mt, out⟩ := w
  refine ⟨e, F, S, o, mt, (Out.bind out).mono fun items e1 _ o1 J H1 F1 Se1 c1 it D hD => ?_⟩
  have o1 : Out g W σ S H F (compM t mc mx items e1) _ := o1
  unfold compM at o1
  cases hc : compGo t mc mx items (wipeE e1 t.slots) with
  | exc c ps e2 => rw [hc] at o1; exact o1.elim
  | bad => rw [hc] at o1; exact o1.elim
  | ok xs ef =>
    rw [hc] at o1
    have o1 : Out g W σ S H F (if xs.length ≤ LIM ∧ plainAt e1 t.slots = true then R.ok (Py.D.own xs) (restore e1 ef t.slots) else R.bad) _ := o1
    by_cases hl : xs.length ≤ LIM ∧ plainAt e1 t.slots = true
    · rw [if_pos hl] at o1
      obtain ⟨n, Gd, Y, hn, wk, later⟩ := it
      have lE : e1.length ≤ σ.length := by obtain ⟨_, _, _, _, l⟩ := c1.mt; exact l
      refine L2.lc_it wk (fun i H' => ∃ F' Se P ei acc ds rest, Mk g (wipe σ t.slots) Se1 H1 F1 (wipeE ei t.slots) H' F' Se P D acc ds ∧ i ≤ n ∧ compGo t mc mx (items.drop i) ei = .ok rest ef ∧ xs = ds ++ rest ∧ ei.length ≤ σ.length) ?_ ?_ ?_ ?_
      · refine ⟨F1, Se1, fun a => a = D, wipeE e1 t.slots, [], [], xs, ⟨⟨?_, ?_, ?_⟩, rfl, upd_same, rfl⟩, Nat.zero_le _, hc, rfl, by rw [wipe_len]; exact lE⟩
        · exact Aft.fresh c1.ownE hD fun b z => z
        · rintro a s rfl; exact (c1.ownE.s a s).2 hD
        · have m1 := (c1.mt.stay (H1 := upd H1 D (.lst [])) (F1 := F1) (fun a ob z _ => by
            have nn : a ≠ D := by rintro rfl; rw [hD] at z; cases z
            rw [upd_ne nn]; exact z) fun _ z => z).wipes (vs := t.slots)
          have m2 := m1.wipes (vs := t.slots)
          rw [wipe_wipe] at m2
          exact m2
      · rintro i H' hi ⟨F', Se, P, ei, acc, ds, rest, m, _⟩
        exact (later H' F' (m.cur.later c1.ownE)).1
      · rintro i x H' H2 hi ⟨F', Se, P, ei, acc, ds, rest, m, hle, hg, hx, hlen⟩ hy
        obtain ⟨d, hd, y⟩ := (later H' F' (m.cur.later c1.ownE)).2 i x H2 hi hy
        have hdr : items.drop i = d :: items.drop (i + 1) := by
          obtain ⟨hi2, e2⟩ := List.getElem?_eq_some_iff.mp hd
          rw [List.drop_eq_getElem_cons hi2, e2]
        rw [hdr] at hg
        obtain ⟨e2, b, e3, hb, hcc, hrest⟩ := compGo_cons hg
        -- the heap with the new pair
        have st : ∃ m2 : Mk g (wipe σ t.slots) Se1 H1 F1 (wipeE ei t.slots) H2 F' Se P D acc ds, Rep g H2 F' x d none_ := by
          rcases y with ⟨rfl, r⟩ | ⟨T, ob, hT, rfl, r⟩
          · exact ⟨m, r⟩
          · have cu : Cur g (wipe σ t.slots) Se H' F' (wipeE ei t.slots) (upd H' T ob) F' Se none_ := ⟨(Aft.fresh m.cur.ownE hT fun b z => .inl z).weak fun a z => z.elim id False.elim, fun _ _ z => z, m.cur.mt.stay (fun a o2 z _ => by
              have nn : a ≠ T := by rintro rfl; rw [hT] at z; cases z
              rw [upd_ne nn]; exact z) fun _ z => z⟩
            exact ⟨m.stepN cu, r⟩
        obtain ⟨m2, r⟩ := st
        have lenE2 : e2.length = ei.length := by
          have : ∀ (ps : List (Nat × Py.D)) (e : Env), (setAll e ps).length = e.length := by
            intro ps
            induction ps with
            | nil => intro e; rfl
            | cons p ps ih => intro e; show (setAll (e.set _ _) ps).length = _; rw [ih]; simp
          cases t with
          | nm k =>
            cases (show R.ok () ((wipeE ei _).set k (some d)) = .ok () e2 from hb)
            rw [List.length_set, wipe_len]
          | tup is =>
            have hb : (match d.items with
              | some ds => if is.length = ds.length then (fun e => R.ok () (setAll e (is.zip ds)) : M Unit) else M.bad
              | none => M.bad) (wipeE ei (Tg.tup is).slots) = .ok () e2 := hb
            cases hi : d.items with
            | none => rw [hi] at hb; cases hb
            | some es =>
              rw [hi] at hb
              by_cases hl : is.length = es.length
              · simp only [if_pos hl] at hb
                cases hb
                rw [this, wipe_len]
              · simp only [if_neg hl] at hb
                cases hb
        refine tg_ok (S := Se) m2.cur.mt r (fun _ z => z) (fun _ z => z.elim) (fun _ _ z => z) hb fun σ2 ms sl sj => ?_
        refine ⟨(wipe_eq sl sj).trans (wipe_wipe _ _), ?_⟩
        have m3 : Mk g σ2 Se1 H1 F1 e2 H2 F' Se P D acc ds := ⟨⟨m2.cur.aft, m2.cur.dj, ms⟩, m2.mem, m2.at_, m2.rep⟩
        refine ⟨e2, F', Se, m3.cur.ownE, m3.cur.mt, ?_⟩
        rw [hcc]
        intro H3 F3 Se3 c3
        have m4 := m3.stepN c3
        have back : ∀ {Hx : Hp} {Fx Sx Px : AS} {ex : Env} {ac : List V} {dx : List Py.D}, Mk g σ2 Se1 H1 F1 ex Hx Fx Sx Px D ac dx → Mk g (wipe σ t.slots) Se1 H1 F1 (wipeE ex t.slots) Hx Fx Sx Px D ac dx := fun k => by
          have mw := k.cur.mt.wipes (vs := t.slots)
          rw [(wipe_eq sl sj).trans (wipe_wipe _ _)] at mw
          exact ⟨⟨k.cur.aft, k.cur.dj, mw⟩, k.mem, k.at_, k.rep⟩
        have l2 : σ2.length = σ.length := by rw [sl, wipe_len2]
        have le3 : e3.length ≤ σ.length := by obtain ⟨_, _, _, _, l⟩ := m4.cur.mt; rw [← l2]; exact l
        cases b with
        | false =>
          rw [if_neg Bool.false_ne_true] at hrest ⊢
          exact ⟨F3, Se3, P, e3, acc, ds, rest, back m4, hi, hrest, hx, le3⟩
        | true =>
          rw [if_pos rfl] at hrest ⊢
          obtain ⟨yv, e4, ys, h5, h6, h7⟩ := hrest
          refine ⟨e3, F3, Se3, m4.cur.ownE, m4.cur.mt, ?_⟩
          rw [h5]
          intro v H4 F4 Se4 Sv4 c4 r4
          have m5 := m4.step c4
          have ap := m4.cur.apart' c4
          have r0 := (m4.rep.after c4.aft m4.cur.ownE fun a p s => m4.cur.dj a s p.1)
          have le4 : e4.length ≤ σ.length := by obtain ⟨_, _, _, _, l⟩ := m5.cur.mt; rw [← l2]; exact l
          have hacc : acc.length = ds.length := r0.length
          refine ⟨acc, m5.at_, ?_, F4, Se4, fun a => P a ∨ Sv4 a, e4, acc ++ [v], ds ++ [yv], ys, back (m5.add m4.mem ap r0 r4), hi, h6, by rw [hx, h7, List.append_assoc]; rfl, le4⟩
          rw [LIM_eq, hacc]
          have : xs.length = ds.length + (ys.length + 1) := by rw [hx, h7, List.length_append, List.length_cons]
          have := hl.1
          omega
      · rintro H' ⟨F', Se, P, ei, acc, ds, rest, m, hle, hg, hx, hlen⟩
        rw [hn, List.drop_length] at hg
        cases (show R.ok [] ei = .ok rest ef from hg)
        rw [List.append_nil] at hx
        subst hx
        have mr := Ma.restore m.cur.mt c1.mt hl.2 (m.cur.later c1.ownE) hlen
        have cb : Cur g σ Se1 H1 F1 (restore e1 ef t.slots) H' F' Se P := ⟨m.cur.aft, m.cur.dj, mr⟩
        exact o1 (.ref D) H' F' Se P ((c1.step cb).less fun a z => .inr z) ⟨D, acc, rfl, m.at_, m.mem, m.rep⟩
    · rw [if_neg hl] at o1
      exact o1.elim
end Py
end
section
/-! S6a: calls of defs -/
namespace Py
open L2 (V Hp HO St TE TT TS TA TG TI TO Ends VK XK WX SqL SqT Rd upd upd_same upd_ne PE PT PA PS PSs PG PI PW PO Cx R2 OpR CallR Sp FnOk Room Binds Vals Takes)
variable {g : G} {H H0 H1 H2 H' : Hp} {F F0 F1 F2 F' : AS} {S S0 S1 S2 S' Se Se' Sv P T : AS} {σ : St} {e e' : Env} {W : WX}
/-- arguments: values, or slots whose lists are lent -/
def RepAr (g : G) (H : Hp) (F : AS) (σ : St) : List V → List Ar → AS → Prop
  | vs, [], _ => vs = []
  | vs, .val d :: r, S => ∃ v vr S1 S2, vs = v :: vr ∧ (∀ b, S1 b → S b) ∧ (∀ b, S2 b → S b) ∧ (∀ b, S1 b → ¬ S2 b) ∧ Rep g H F v d S1 ∧ RepAr g H F σ vr r S2
  | vs, .slot i :: r, S => ∃ v vr, vs = v :: vr ∧ σ[i]? = some (some v) ∧ RepAr g H F σ vr r S
def UAr (g : G) (W : WX) (n : Nat) (m : M (List Ar)) : TA := fun σ H Q => ∃ e F S, Own S H F ∧ Ma g H F e σ S ∧
  Out g W σ S H F (m e) fun as e' => ∀ vs H' F' Se Sv, vs.length = n → Cur g σ S H F e' H' F' Se Sv → RepAr g H' F' σ vs as Sv → Q vs H'
theorem Cur.uar {n : Nat} {m : M (List Ar)} {Ok : List Ar → Env → Prop} {Q : List V → Hp → Prop} (c : Cur g σ S0 H0 F0 e H F Se P) (o : Out g W σ S0 H0 F0 (m e) Ok)
    (k : ∀ d e', m e = .ok d e' → Ok d e' → ∀ vs H' F' Se' Sv, vs.length = n → Cur g σ Se H F e' H' F' Se' Sv → Cur g σ S0 H0 F0 e' H' F' Se' (fun a => P a ∨ Sv a) → RepAr g H' F' σ vs d Sv → Q vs H') : UAr g W n m σ H Q :=
  ⟨e, F, Se, c.ownE, c.mt, (o.rebase c).mono fun d e' z w v H' F' Se' Sv hl c' r => k d e' z w v H' F' Se' Sv hl c' (c.step c') r⟩
theorem RepAr.mono : ∀ {as : List Ar} {vs : List V} {S S' : AS}, RepAr g H F σ vs as S → (∀ b, S b → S' b) → RepAr g H F σ vs as S'
  | [], _, _, _, h, _ => h
  | .val d :: r, _, _, _, h, k => by
    obtain ⟨v, vr, S1, S2, e, h1, h2, h3, p, q⟩ := h
    exact ⟨v, vr, S1, S2, e, fun b z => k b (h1 b z), fun b z => k b (h2 b z), h3, p, q⟩
  | .slot i :: r, _, _, _, h, k => by
    obtain ⟨v, vr, e, h1, q⟩ := h
    exact ⟨v, vr, e, h1, RepAr.mono q k⟩
theorem u_anil {X : Cx} : PA X [] (UAr g W 0 (pure [])) := pa_weak L2.pa_nil fun σ H Q h => by
  obtain ⟨e, F, S, o, mt, out⟩ := h
  exact out [] H F S none_ rfl (Cur.start o mt) rfl
section
variable {X : Cx} {a b : PySem.Expr} {es : List PySem.Expr} {pos p : PySem.Pos} {ma : M D} {ms : M (List Ar)} {n : Nat}
theorem u_acons (h : PE X a (UE g W ma)) (hr : PA X es (UAr g W n ms)) (hs : exq a = true) :
    PA X (a :: es) (UAr g W (n + 1) (do
      let d ← ma
      return .val d :: (← ms))) := by
  refine pa_weak (L2.pa_cons h hr (star_cons hs)) fun σ H Q w => ?_
  obtain ⟨e, F, S, o, mt, out⟩ := w
  refine (Cur.start o mt).ue (Out.bind out) fun d e1 _ o1 v H1 F1 Se1 Sv1 c1 c1' r1 => ?_
  refine c1'.uar (Out.bind o1) fun as e2 _ o2 vs H2 F2 Se2 Sv2 hl c2 c2' r2 => ?_
  refine o2 (v :: vs) H2 F2 Se2 _ (by rw [List.length_cons, hl]) c2' ?_
  have ap := c1'.apart c2
  exact ⟨v, vs, Sv1, Sv2, rfl, fun b z => .inl (.inr z), fun b z => .inr z, fun b z => ap b (.inr z), c1'.kept c2 r1 fun a z => .inr z, r2⟩
theorem u_avar {i : Nat} {x : PySem.Str} (nm : Nam X i x) (hr : PA X es (UAr g W n ms)) :
    PA X (.Name x p :: es) (UAr g W (n + 1) (do
      let d ← getSlot i
      return (if d.plain then .val d else .slot i) :: (← ms))) := by
  refine pa_weak (L2.pa_cons (L2.pe_var nm.1 nm.2.1 nm.2.2.1 nm.2.2.2) hr (star_cons rfl)) fun σ H Q w => ?_
  obtain ⟨e, F, S, o, mt, out⟩ := w
  obtain ⟨d, hd, o1⟩ := slot_ok out
  obtain ⟨v, hv, r⟩ := mt.get hd
  refine ⟨v, hv, ?_⟩
  refine (Cur.start o mt).uar (Out.bind o1) fun as e2 _ o2 vs H2 F2 Se2 Sv2 hl c2 c2' r2 => ?_
  refine o2 (v :: vs) H2 F2 Se2 _ (by rw [List.length_cons, hl]) c2' ?_
  by_cases hp : d.plain = true
  · rw [if_pos hp]
    exact ⟨v, vs, none_, Sv2, rfl, fun b z => z.elim, fun b z => .inr z, fun b z => z.elim, (r.plain hp).later (c2.later o), r2⟩
  · rw [if_neg hp]
    exact ⟨v, vs, rfl, hv, r2.mono fun b z => .inr z⟩
end
/-! ### lending -/
theorem lend_ok : ∀ {as : List Ar} {vs : List V} {ds : List D} {e e' : Env} {Se Sv S : AS}, Ma g H F e σ Se → RepAr g H F σ vs as Sv → (∀ a, Se a → S a) → (∀ a, Sv a → S a) → (∀ a, Se a → ¬ Sv a) → lend as e = .ok ds e' →
    ∃ Se' Sl, Ma g H F e' σ Se' ∧ Reps g H F vs ds Sl ∧ (∀ a, Se' a → Se a) ∧ (∀ a, Sl a → S a) ∧ (∀ a, Se' a → ¬ Sl a)
  | [], vs, ds, e, e', Se, Sv, S, m, r, h1, h2, dj, hl => by
    cases hl
    exact ⟨Se, none_, m, r, fun _ z => z, fun _ z => z.elim, fun _ _ z => z⟩
  | .val d :: as, vs, ds, e, e', Se, Sv, S, m, r, h1, h2, dj, hl => by
    obtain ⟨v, vr, P1, P2, rfl, k1, k2, k3, p, q⟩ := r
    obtain ⟨dr, e1, hd, hp⟩ := bind_ok (show (lend as e).bind (fun ds => (pure (d :: ds) : M (List D))) = .ok ds e' from hl)
    cases hp
    obtain ⟨Se', Sl, m', rr, a1, a2, a3⟩ := lend_ok (S := fun a => S a ∧ ¬ P1 a) m q (fun a z => ⟨h1 a z, fun w => dj a z (k1 a w)⟩) (fun a z => ⟨h2 a (k2 a z), fun w => k3 a w z⟩) (fun a z w => dj a z (k2 a w)) hd
    refine ⟨Se', fun a => P1 a ∨ Sl a, m', Reps.cons (P1 := P1) (P2 := Sl) (fun b z => .inl z) (fun b z => .inr z) (fun b z w => (a2 b w).2 z) p rr, a1, fun a z => z.elim (fun z => h2 a (k1 a z)) fun z => (a2 a z).1, fun a z w => w.elim (fun w => dj a (a1 a z) (k1 a w)) (a3 a z)⟩
  | .slot i :: as, vs, ds, e, e', Se, Sv, S, m, r, h1, h2, dj, hl => by
    obtain ⟨v, vr, rfl, hv, q⟩ := r
    obtain ⟨d, e1, hd, hl2⟩ := bind_ok (show (getSlot i e).bind _ = .ok ds e' from hl)
    obtain ⟨hs, rfl⟩ := slot_val hd
    obtain ⟨_, e2, h3, hl3⟩ := bind_ok (show ((fun e => R.ok () (e.set i none) : M Unit) e1).bind (fun _ => M.bind (lend as) fun ds => (pure (d :: ds) : M (List D))) = .ok ds e' from hl2)
    cases h3
    obtain ⟨dr, e3, hd2, hp⟩ := bind_ok (show (lend as (e1.set i none)).bind (fun ds => (pure (d :: ds) : M (List D))) = .ok ds e' from hl3)
    cases hp
    obtain ⟨P1, P2, k1, k2, k3, m2, kd⟩ := m.split (i := i)
    obtain ⟨v', hv', rv⟩ := kd d hs
    rw [hv] at hv'; cases hv'
    obtain ⟨Se', Sl, m', rr, a1, a2, a3⟩ := lend_ok (S := fun a => S a ∧ ¬ P1 a) m2 q (fun a z => ⟨h1 a (k2 a z), fun w => k3 a w z⟩) (fun a z => ⟨h2 a z, fun w => dj a (k1 a w) z⟩) (fun a z w => dj a (k2 a z) w) hd2
    refine ⟨Se', fun a => P1 a ∨ Sl a, m', Reps.cons (P1 := P1) (P2 := Sl) (fun b z => .inl z) (fun b z => .inr z) (fun b z w => (a2 b w).2 z) rv rr, fun a z => k2 a (a1 a z), fun a z => z.elim (fun z => h1 a (k1 a z)) fun z => (a2 a z).1, fun a z w => w.elim (fun w => k3 a w (a1 a z)) (a3 a z)⟩
/-- the arguments' slots: what RepAr tells of the frame -/
def ArV (σ : St) : List V → List Ar → Prop
  | vs, [] => vs = []
  | vs, .val _ :: r => ∃ v vr, vs = v :: vr ∧ ArV σ vr r
  | vs, .slot i :: r => ∃ v vr, vs = v :: vr ∧ σ[i]? = some (some v) ∧ ArV σ vr r
theorem RepAr.arv : ∀ {as : List Ar} {vs : List V} {S : AS}, RepAr g H F σ vs as S → ArV σ vs as
  | [], _, _, h => h
  | .val d :: r, _, _, h => by obtain ⟨v, vr, S1, S2, e, h1, h2, h3, p, q⟩ := h; exact ⟨v, vr, e, RepAr.arv q⟩
  | .slot i :: r, _, _, h => by obtain ⟨v, vr, e, h1, q⟩ := h; exact ⟨v, vr, e, h1, RepAr.arv q⟩
theorem giveBack_ok : ∀ {as : List Ar} {vs : List V} {ds : List D} {e : Env} {S1 S2 S : AS}, ArV σ vs as → Ma g H F e σ S1 → Reps g H F vs ds S2 → (∀ a, S1 a → S a) → (∀ a, S2 a → S a) → (∀ a, S1 a → ¬ S2 a) → Ma g H F (giveBack as ds e) σ S
  | [], vs, ds, e, S1, S2, S, av, m, r, h1, h2, dj => m.mono h1
  | .val d :: as, vs, [], e, S1, S2, S, av, m, r, h1, h2, dj => m.mono h1
  | .slot i :: as, vs, [], e, S1, S2, S, av, m, r, h1, h2, dj => m.mono h1
  | .val d :: as, vs, d' :: ds, e, S1, S2, S, av, m, r, h1, h2, dj => by
    obtain ⟨v, vr, rfl, av⟩ := av
    obtain ⟨v', vr', P1, P2, e1, k1, k2, k3, p, q⟩ := r
    cases e1
    show Ma g H F (giveBack as ds e) σ S
    exact giveBack_ok av m q h1 (fun a z => h2 a (k2 a z)) fun a z w => dj a z (k2 a w)
  | .slot i :: as, vs, d' :: ds, e, S1, S2, S, av, m, r, h1, h2, dj => by
    obtain ⟨v, vr, rfl, hv, av⟩ := av
    obtain ⟨v', vr', P1, P2, e1, k1, k2, k3, p, q⟩ := r
    cases e1
    have m1 : Ma g H F (e.set i (some d')) σ (fun a => S1 a ∨ P1 a) := (m.wipe (i := i)).fill hv p (fun _ => .inl) (fun _ => .inr) fun a z w => dj a z (k1 a w)
    show Ma g H F (giveBack as ds (e.set i (some d'))) σ S
    exact giveBack_ok av m1 q (fun a z => z.elim (h1 a) fun z => h2 a (k1 a z)) (fun a z => h2 a (k2 a z)) fun a z w => z.elim (fun z => dj a z (k2 a w)) fun z => k3 a z w
/-! ### what a def promises -/
def SpF (g : G) (φ : List D → FR) : Sp := fun vs H Q E => ∃ ds F S, Own S H F ∧ Reps g H F vs ds S ∧ match φ ds with
  | .ok d ds' => ∀ v H' F' Sb Sv, Aft S H F (fun a => Sb a ∨ Sv a) H' F' → (∀ a, Sb a → ¬ Sv a) → Reps g H' F' vs ds' Sb → Rep g H' F' v d Sv → Q v H'
  | .exc c ps ds' => ∀ dd H' F' Sb, Aft S H F Sb H' F' → Reps g H' F' vs ds' Sb → ExP g H' F' c ps dd → E (.ref (g.ca c)) dd H'
  | .bad => False
/-- at the call: the arguments stand there -/
theorem call_ok {φ : List D → FR} {as : List Ar} {vs : List V} {Q : VK} (c : Cur g σ S0 H0 F0 e H F Se P) (r : RepAr g H F σ vs as Sv) (hP : ∀ a, Sv a → P a)
    (o : Out g W σ S0 H0 F0 (callM φ as e) fun d e' => ∀ v H' F' Se' Sv', Cur g σ S0 H0 F0 e' H' F' Se' Sv' → Rep g H' F' v d Sv' → Q v H') : SpF g φ vs H Q (L2.WE W σ) := by
  have o : Out g W σ S0 H0 F0 ((lend as e).bind fun ds e => match φ ds with
    | .ok d ds' => .ok d (giveBack as ds' e)
    | .exc c ps ds' => .exc c ps (giveBack as ds' e)
    | .bad => .bad) _ := o
  cases hl : lend as e with
  | exc c' ps e1 =>
    have key : ∀ (as : List Ar) (e e1 : Env) c' ps, lend as e ≠ .exc c' ps e1 := by
      intro as
      induction as with
      | nil => intro e e1 c' ps h; cases h
      | cons a as ih =>
        intro e e1 c' ps h
        cases a with
        | val d =>
          have h : (lend as e).bind (fun ds => (pure (d :: ds) : M (List D))) = .exc c' ps e1 := h
          cases hx : lend as e with
          | ok a e2 => rw [hx] at h; cases h
          | exc c2 p2 e2 => exact ih _ _ _ _ hx
          | bad => rw [hx] at h; cases h
        | slot i =>
          have h : (getSlot i e).bind (fun d => M.bind (fun e => R.ok () (e.set i none)) fun _ => M.bind (lend as) fun ds => pure (d :: ds)) = .exc c' ps e1 := h
          cases hg : getSlot i e with
          | ok d e2 =>
            rw [hg] at h
            have h : (lend as (e2.set i none)).bind (fun ds => (pure (d :: ds) : M (List D))) = .exc c' ps e1 := h
            cases hx : lend as (e2.set i none) with
            | ok a e3 => rw [hx] at h; cases h
            | exc c2 p2 e3 => exact ih _ _ _ _ hx
            | bad => rw [hx] at h; cases h
          | exc c2 p2 e2 =>
            unfold getSlot at hg
            split at hg <;> cases hg
          | bad => rw [hg] at h; cases h
    exact (key _ _ _ _ _ hl).elim
  | bad => rw [hl] at o; exact o.elim
  | ok ds e1 =>
    rw [hl] at o
    have c' := c.less hP
    obtain ⟨Se1, Sl, m1, rr, a1, a2, a3⟩ := lend_ok (S := fun a => Se a ∨ Sv a) c'.mt r (fun _ => .inl) (fun _ => .inr) c'.dj hl
    have ow : Own Sl H F := c'.aft.ow.less a2
    have o : Out g W σ S0 H0 F0 ((match φ ds with
      | .ok d ds' => .ok d (giveBack as ds' e1)
      | .exc c ps ds' => .exc c ps (giveBack as ds' e1)
      | .bad => .bad) : R D) _ := o
    refine ⟨ds, F, Sl, ow, rr, ?_⟩
    have owE : Own Se1 H F := c'.aft.ow.less fun a z => .inl (a1 a z)
    -- the rest stands apart from what the call may write
    have step : ∀ {H' : Hp} {F' Sb : AS}, Aft Sl H F Sb H' F' → Ma g H' F' e1 σ Se1 ∧ (∀ a, Se1 a → ¬ Sb a) ∧ Aft S0 H0 F0 (fun a => Se1 a ∨ Sb a) H' F' := fun {H' F' Sb} x => by
      have ap := x.apart owE fun a z w => a3 a z w
      refine ⟨m1.stay (fun a ob z k => x.keep a ob z fun xs e s => (k xs e).elim (fun t => a3 a t s) fun f => (ow.s a s).1 f) x.grow, ap.2, ?_⟩
      have fr := x.frame owE fun a z w => a3 a z w
      have : Aft (fun a => Se a ∨ Sv a) H F (fun a => Sb a ∨ Se1 a) H' F' := fr.more fun a z => z.elim (a2 a) fun z => .inl (a1 a z)
      exact (c'.aft.trans this).weak fun a z => z.symm
    cases hφ : φ ds with
    | bad => rw [hφ] at o; exact o.elim
    | ok d ds' =>
      rw [hφ] at o
      intro v H' F' Sb Sv' x dj rb rv
      obtain ⟨m2, ap, af⟩ := step x
      have mg := giveBack_ok (S := fun a => Se1 a ∨ Sb a) r.arv m2 rb (fun _ => .inl) (fun _ => .inr) fun a z w => ap a z (.inl w)
      exact o v H' F' (fun a => Se1 a ∨ Sb a) Sv' ⟨af.weak fun a z => z.elim (fun z => z.elim .inl fun z => .inr (.inl z)) fun z => .inr (.inr z), fun a z w => z.elim (fun z => ap a z (.inr w)) fun z => dj a z w, mg⟩ rv
    | exc c2 ps ds' =>
      rw [hφ] at o
      intro dd H' F' Sb x rb xp
      obtain ⟨m2, ap, af⟩ := step x
      have mg := giveBack_ok (S := fun a => Se1 a ∨ Sb a) r.arv m2 rb (fun _ => .inl) (fun _ => .inr) fun a z w => ap a z w
      exact o dd H' F' (fun a => Se1 a ∨ Sb a) af mg xp
end Py
end
section
/-! S6k: all arguments by names -/
namespace Py
open PySem
theorem pure_bind_S {α β : Type} (a : α) (f : α → Sem β) : (pure a : Sem α) >>= f = f a := rfl
theorem forIn_kw {B : Str × Value → List (Str × Value) × List (Str × Value) → Sem (ForInStep (List (Str × Value) × List (Str × Value)))} : ∀ {kws : List (Str × Value)} {s0 : List (Str × Value) × List (Str × Value)}, (∀ p ∈ kws, ∀ s : List (Str × Value) × List (Str × Value), s.1.lookup p.1 = none → B p s = pure (.yield (s.1 ++ [(p.1, p.2)], s.2))) → (kws.map (·.1)).Nodup → (∀ p ∈ kws, s0.1.lookup p.1 = none) → forIn kws s0 B = pure (s0.1 ++ kws, s0.2)
  | [], s0, _, _, _ => by
    rw [List.forIn_nil]
    simp
  | p :: kws, s0, hB, hn, h0 => by
    rw [List.forIn_cons, hB p (by simp) s0 (h0 p (by simp)), pure_bind_S]
    rw [List.map_cons, List.nodup_cons] at hn
    show forIn kws (s0.1 ++ [(p.1, p.2)], s0.2) B = _
    rw [forIn_kw (fun q hq => hB q (List.mem_cons_of_mem _ hq)) hn.2 fun q hq => ?_]
    · simp
    · show List.lookup q.1 (s0.1 ++ [(p.1, p.2)]) = none
      rw [List.lookup_append, h0 q (List.mem_cons_of_mem _ hq)]
      have ne : q.1 ≠ p.1 := fun e => hn.1 (e ▸ List.mem_map_of_mem hq)
      simp [List.lookup_cons, beq_eq_false_iff_ne.mpr ne]
theorem bind_kw {fd : FuncData} {ns : List Str} (hp : fd.params.posonlyargs = []) (ha : fd.params.args.map (·.arg) = ns) (hv : fd.params.vararg = none) (hk : fd.params.kwonlyargs = []) (hkw : fd.params.kwarg = none) (hd : fd.defaults = .none) {kws : List (Str × Value)}
    (hn : (kws.map (·.1)).Nodup) (hs : ∀ p ∈ kws, p.1 ∈ ns) (hall : ∀ n ∈ ns, (kws.lookup n).isSome = true) : bindArgs fd ⟨[], kws⟩ = pure (ns.filterMap fun n => (kws.lookup n).map (n, ·)) := by
  unfold bindArgs
  simp only [hp, ha, hv, hk, hkw, hd, List.map_nil, List.nil_append, List.append_nil, List.zip_nil_right]
  rw [forIn_kw (fun p hp s hs' => ?_) hn (fun p _ => rfl)]
  · rw [pure_bind_S]
    have hm : List.filter (fun n => (List.lookup n kws).isNone) ns = [] := by
      rw [List.filter_eq_nil_iff]
      intro n hn
      have := hall n hn
      cases h : List.lookup n kws with
      | none => rw [h] at this; cases this
      | some v => simp
    rw [show seqItems? Value.none = pure none from rfl, pure_bind_S]
    have h1 : (decide (([] : List Value).length > ns.length) && (none : Option Arg).isNone) = false := by simp
    have h2 : ((none : Option (Array Value)).getD #[]).toList = [] := rfl
    have h3 : ∀ s0 : List (Str × Value), (([] : List (Str × Value)) ++ kws, s0).1 = kws := fun _ => rfl
    simp only [h2, List.drop_nil, List.length_nil, Nat.sub_zero, List.take_length, List.drop_length, List.zip_nil_right, h3, hm, List.isEmpty_nil, Bool.not_true, List.nil_append]
    rw [if_neg (by simp), if_neg Bool.false_ne_true]
    rfl
  · have : ns.contains p.1 = true := by simpa using hs p hp
    simp only [this, Bool.true_or, if_true, hs']
    rfl
/-- the order of the parameters, told by places -/
theorem filterMap_zip : ∀ (ns : List Str) (ks : List Nat) (kn : List Str) (ws : List Value), kn.Nodup → ks.length = ns.length → kn.length = ws.length → (∀ (j : Nat) (n : Str) (k : Nat), ns[j]? = some n → ks[j]? = some k → kn[k]? = some n) →
    (ns.filterMap fun n => ((kn.zip ws).lookup n).map (n, ·)) = ns.zip (ks.filterMap fun k => ws[k]?)
  | [], ks, kn, ws, _, _, _, _ => by simp
  | n :: ns, [], kn, ws, _, h, _, _ => by cases h
  | n :: ns, k :: ks, kn, ws, hn, hl, hw, h => by
    have h0 := h 0 n k rfl rfl
    have hk : k < kn.length := (List.getElem?_eq_some_iff.mp h0).1
    have hkw : k < ws.length := by omega
    have e : (kn.zip ws).lookup n = some ws[k] := by
      have key : ∀ (kn : List Str) (ws : List Value) (k : Nat) (hkw : k < ws.length), kn.Nodup → kn[k]? = some n → (kn.zip ws).lookup n = some ws[k] := by
        intro kn
        induction kn with
        | nil => intro ws k hkw _ h; cases h
        | cons m kn ih =>
          intro ws k hkw hn h
          cases ws with
          | nil => cases hkw
          | cons w ws =>
            cases k with
            | zero =>
              have : m = n := by simpa using h
              subst this
              simp [List.lookup_cons]
            | succ k =>
              rw [List.nodup_cons] at hn
              have hk' : kn[k]? = some n := by simpa using h
              have ne : n ≠ m := fun e => hn.1 (e ▸ List.mem_of_getElem? hk')
              rw [List.zip_cons_cons, List.lookup_cons, beq_eq_false_iff_ne.mpr ne]
              exact ih ws k (by simpa using hkw) hn.2 hk'
      exact key kn ws k hkw hn h0
    rw [List.filterMap_cons, e, List.filterMap_cons, List.getElem?_eq_getElem hkw]
    show (n, ws[k]) :: _ = (n, ws[k]) :: _
    rw [filterMap_zip ns ks kn ws hn (by simpa using hl) hw fun j m l a b => h (j + 1) m l (by simpa using a) (by simpa using b)]
    rfl
end Py
end
section
/-! S6b: calls of defs, the rules -/
namespace Py
open L2 (V Hp HO St TE TT TS TA TG TI TO Ends VK XK WX SqL SqT Rd upd upd_same upd_ne PE PT PA PS PSs PG PI PW PO PK Cx R2 OpR CallR Sp FnOk Room Binds Vals Takes Inv EP)
variable {g : G} {H H0 H1 H2 H' : Hp} {F F0 F1 F2 F' : AS} {S S0 S1 S2 S' Se Se' Sv P T : AS} {σ : St} {e e' : Env} {W : WX}
/-- a def that may be called: its promise; the last arguments may be left out -/
structure Cal (P : PySem.Program) (w : PySem.World) (K : PySem.W.Frag) (mg : PySem.Str → Option PySem.Value) (base : PySem.Heap) (g : G) (n : Nat) (f : Nat) (φ : List D → FR) (dl : List Lit) : Prop where
  ex : ∃ (fd : PySem.FuncData) (ps : List PySem.Str) (ds : List PySem.Value) (dvs : List V), FnOk P w K mg base (L2.CX P w) n (g.fa f) fd ps (SpF g φ) ∧ Binds K fd ps ds ∧ Vals dvs ds ∧ ∀ H F, Reps g H F dvs (dl.map Lit.d) none_
  kp : PySem.W.keepIn K (.ref (g.fa f)) = true
/-- .. by names -/
structure CalK (P : PySem.Program) (w : PySem.World) (K : PySem.W.Frag) (mg : PySem.Str → Option PySem.Value) (base : PySem.Heap) (g : G) (n : Nat) (f : Nat) (φ : List D → FR) (ps : List PySem.Str) : Prop where
  ex : ∃ (fd : PySem.FuncData), FnOk P w K mg base (L2.CX P w) n (g.fa f) fd ps (SpF g φ) ∧ fd.params.posonlyargs = [] ∧ fd.params.args.map (·.arg) = ps ∧ fd.params.vararg = none ∧ fd.params.kwonlyargs = [] ∧ fd.params.kwarg = none ∧ fd.defaults = .none
  kp : PySem.W.keepIn K (.ref (g.fa f)) = true
theorem SpF.drop {φ : List D → FR} {vs dvs : List V} {ds : List D} {H : Hp} {Q : VK} {E : XK} (h : SpF g φ (vs ++ dvs) H Q E) : SpF g φ (vs ++ dvs) H Q E := h
/-- the literals behind -/
theorem RepAr.lits {dvs : List V} {dl : List Lit} : ∀ {as : List Ar} {vs : List V} {S : AS}, RepAr g H F σ vs as S → Reps g H F dvs (dl.map Lit.d) none_ → RepAr g H F σ (vs ++ dvs) (as ++ dl.map fun l => Ar.val l.d) S
  | [], vs, S, h, r => by
    rw [show vs = [] from h]
    show RepAr g H F σ dvs (dl.map fun l => Ar.val l.d) S
    clear h
    induction dl generalizing dvs with
    | nil => exact r
    | cons l dl ih =>
      obtain ⟨v, rr, S1, S2, rfl, h1, h2, h3, p, q⟩ := r
      exact ⟨v, rr, none_, S, rfl, fun _ z => z.elim, fun _ z => z, fun _ z => z.elim, p.mono h1, ih (q.mono h2)⟩
  | .val d :: as, _, S, h, r => by
    obtain ⟨v, vr, S1, S2, rfl, h1, h2, h3, p, q⟩ := h
    exact ⟨v, vr ++ dvs, S1, S2, rfl, h1, h2, h3, p, RepAr.lits q r⟩
  | .slot i :: as, _, S, h, r => by
    obtain ⟨v, vr, rfl, h1, q⟩ := h
    exact ⟨v, vr ++ dvs, rfl, h1, RepAr.lits q r⟩
section
variable {X : Cx} {a b : PySem.Expr} {es : List PySem.Expr} {pos p : PySem.Pos} {ms : M (List Ar)} {n k f : Nat} {φ : List D → FR} {dl : List Lit} {x : PySem.Str}
/-- reading of a call -/
theorem call_rd {tail : List Ar} {dvs : List V} (ht : ∀ H F vs as S σ, RepAr g H F σ vs as S → RepAr g H F σ (vs ++ dvs) (as ++ tail) S) {σ : St} {H : Hp} {Q : VK} (w : UE g W (do callM φ ((← ms) ++ tail)) σ H Q) : L2.tCallSD (SpF g φ) dvs (L2.WE W) (UAr g W n ms) σ H Q := by
  obtain ⟨e, F, S, o, mt, out⟩ := w
  refine (Cur.start o mt).uar (Out.bind out) fun as e1 _ o1 vs H1 F1 Se1 Sv1 hl c1 c1' r1 => ?_
  exact call_ok c1' (ht _ _ _ _ _ _ r1) (fun a z => .inr z) o1
theorem u_calld (tk : Takes X W) (c : Cal X.prog X.w X.K X.mg X.base g k f φ dl) (hr : Room k X.A) (hg : L2.Gl X x) (hm : X.mg x = some (.ref (g.fa f))) (ha : PA X (a :: es) (UAr g W n ms)) (hq : (a :: es).all exq = true) (hd : (x == ("__debug__" : PySem.Str)) = false) :
    PE X (.Call (.Name x p) (a :: es) [] pos) (UE g W (do callM φ ((← ms) ++ dl.map fun l => Ar.val l.d))) := by
  obtain ⟨fd, ps, ds, dvs, F, hb, hv, hl⟩ := c.ex
  have hq' := hq
  rw [List.all_cons, Bool.and_eq_true] at hq'
  exact pe_weak (L2.pe_callSD (E := L2.WE W) F hr hg hm c.kp hb hv (fun σ => L2.passAt tk σ) ha hd (star_cons hq'.1) (back_no hq'.2)) fun σ H Q w => call_rd (fun H F vs as S σ r => r.lits (as := as) (hl H F)) w
theorem append_nil_M {m : M (List Ar)} : (do callM φ ((← m) ++ ([] : List Lit).map fun l => Ar.val l.d) : M D) = (do callM φ (← m)) := by
  have : ∀ as : List Ar, as ++ ([] : List Lit).map (fun l => Ar.val l.d) = as := fun as => List.append_nil as
  simp only [this]
theorem u_call (tk : Takes X W) (c : Cal X.prog X.w X.K X.mg X.base g k f φ []) (hr : Room k X.A) (hg : L2.Gl X x) (hm : X.mg x = some (.ref (g.fa f))) (ha : PA X (a :: es) (UAr g W n ms)) (hq : (a :: es).all exq = true) (hd : (x == ("__debug__" : PySem.Str)) = false) :
    PE X (.Call (.Name x p) (a :: es) [] pos) (UE g W (do callM φ (← ms))) := by
  have h := u_calld (p := p) (pos := pos) tk c hr hg hm ha hq hd
  rw [append_nil_M] at h
  exact h
/-- no argument -/
theorem u_call0 (tk : Takes X W) (c : Cal X.prog X.w X.K X.mg X.base g k f φ []) (hr : Room k X.A) (hg : L2.Gl X x) (hm : X.mg x = some (.ref (g.fa f))) (hd : (x == ("__debug__" : PySem.Str)) = false) :
    PE X (.Call (.Name x p) [] [] pos) (UE g W (do callM φ (← (pure [] : M (List Ar))))) := by
  obtain ⟨fd, ps, ds, dvs, F, hb, hv, hl⟩ := c.ex
  have e : dvs = [] := by
    have := (hl (fun _ => none) none_).length
    exact List.eq_nil_of_length_eq_zero this
  subst e
  cases hv
  refine ⟨fun pins s σ H Q I h => ?_⟩
  refine PySem.wpAny_Call_Name_kw (L2.ld_glob I hg hm ?_ hd)
  refine PySem.W.callWith_K0 I.kIn c.kp (L2.run_fnS (E := L2.WE W) (us := []) (vs := []) F hr hb (L2.passAt tk σ) I .nil ?_)
  obtain ⟨e, F, S, o, mt, out⟩ := h
  exact call_ok (Cur.start o mt) (show RepAr g H F σ [] [] none_ from rfl) (fun a z => z) out
/-- the def that a slot holds -/
theorem u_callv (tk : Takes X W) {Φ : Ora} {i : Nat} (nm : Nam X i x) (hc : ∀ f, g.kn f = true → Cal X.prog X.w X.K X.mg X.base g k f (Φ f) []) (hr : Room k X.A) (ha : PA X (a :: es) (UAr g W n ms)) (hq : (a :: es).all exq = true) :
    PE X (.Call (.Name x p) (a :: es) [] pos) (UE g W (do
      match ← getSlot i with
      | .fn f => callM (Φ f) (← ms)
      | _ => M.bad)) := by
  have hq' := hq
  rw [List.all_cons, Bool.and_eq_true] at hq'
  refine ⟨fun pins s σ H Q I h => ?_⟩
  obtain ⟨e, F, S, o, mt, out⟩ := h
  obtain ⟨d, hd, o1⟩ := slot_ok out
  obtain ⟨v, hv, r⟩ := mt.get hd
  cases d with
  | fn f =>
    cases (show v = .ref (g.fa f) from r.1)
    have w : UE g W (do callM (Φ f) ((← ms) ++ [])) σ H Q := by
      have : ∀ as : List Ar, as ++ [] = as := fun as => List.append_nil as
      simp only [this]
      exact ⟨e, F, S, o, mt, o1⟩
    have c := hc f r.2
    obtain ⟨fd, ps, ds, dvs, FF, hb, hvs, hl⟩ := c.ex
    have e0 : dvs = [] := by
      have := (hl (fun _ => none) none_).length
      exact List.eq_nil_of_length_eq_zero this
    subst e0
    cases hvs
    have w2 := call_rd (n := n) (tail := []) (dvs := []) (fun H F vs as S σ r => by simpa using r) w
    refine PySem.wpAny_Call_Name_kw (L2.thn ((L2.pe_var (pos := p) nm.1 nm.2.1 nm.2.2.1 nm.2.2.2).run pins s σ H (fun v H1 => v = .ref (g.fa f) ∧ H1 = H) I ⟨_, hv, rfl, rfl⟩) fun u s1 ⟨v, H1, I1, r1, q1⟩ => ?_)
    obtain ⟨rfl, rfl⟩ := q1
    cases r1
    refine PySem.W.callWith_K (h₀ := X.base) I.ok.mod.kin c.kp (L2.thn (ha.run pos pins s1 σ _ _ I1 w2) fun us s2 ⟨vs, H2, I2, r, q⟩ => ⟨I2.kIn, ?_⟩) (star_cons hq'.1) (back_no hq'.2)
    exact L2.run_fnSD (E := L2.WE W) (dvs := []) (ds := []) FF hr hb .nil (L2.passAt tk σ) I2 r q
  | _ => exact o1.elim
end
end Py
end
section
/-! S6c: calls by names, defs as values -/
namespace Py
open L2 (V Hp HO St TE TT TS TA TG TI TO Ends VK XK WX SqL SqT Rd upd upd_same upd_ne PE PT PA PS PSs PG PI PW PO PK Cx R2 OpR CallR Sp FnOk Room Binds Vals Takes Inv EP)
variable {g : G} {H H0 H1 H2 H' : Hp} {F F0 F1 F2 F' : AS} {S S0 S1 S2 S' Se Se' Sv P T : AS} {σ : St} {e e' : Env} {W : WX}
section
variable {X : Cx} {a b : PySem.Expr} {es : List PySem.Expr} {pos p : PySem.Pos} {ms : M (List Ar)} {n k f : Nat} {φ : List D → FR} {dl : List Lit} {x : PySem.Str} {kws : List PySem.Keyword} {ma : M D}
theorem u_gfn (hg : L2.Gl X x) (hm : X.mg x = some (.ref (g.fa f))) (hk : g.kn f = true) (hd : (x == ("__debug__" : PySem.Str)) = false) : PE X (.Name x p) (UE g W (pure (.fn f))) :=
  u_pure (v := .ref (g.fa f)) (L2.pe_glob hg hm rfl hd) fun H F => ⟨rfl, hk⟩
theorem pk_weak {t t' : TA} (h : PK X kws t) (k : ∀ σ H Q, t' σ H Q → t σ H Q) : PK X kws t' := ⟨fun pos pins s σ H Q I w => h.run pos pins s σ H Q I (k σ H Q w)⟩
theorem u_knil : PK X [] (UAr g W 0 (pure [])) := pk_weak L2.pk_nil fun σ H Q h => by
  obtain ⟨e, F, S, o, mt, out⟩ := h
  exact out [] H F S none_ rfl (Cur.start o mt) rfl
theorem u_kcons {nm : Option PySem.Str} {kp : PySem.Pos} (h : PE X a (UE g W ma)) (hr : PK X kws (UAr g W n ms)) :
    PK X (⟨nm, a, kp⟩ :: kws) (UAr g W (n + 1) (do
      let d ← ma
      return .val d :: (← ms))) := by
  refine pk_weak (L2.pk_cons h hr) fun σ H Q w => ?_
  obtain ⟨e, F, S, o, mt, out⟩ := w
  refine (Cur.start o mt).ue (Out.bind out) fun d e1 _ o1 v H1 F1 Se1 Sv1 c1 c1' r1 => ?_
  refine c1'.uar (Out.bind o1) fun as e2 _ o2 vs H2 F2 Se2 Sv2 hl c2 c2' r2 => ?_
  refine o2 (v :: vs) H2 F2 Se2 _ (by rw [List.length_cons, hl]) c2' ?_
  have ap := c1'.apart c2
  exact ⟨v, vs, Sv1, Sv2, rfl, fun b z => .inl (.inr z), fun b z => .inr z, fun b z => ap b (.inr z), c1'.kept c2 r1 fun a z => .inr z, r2⟩
theorem u_kvar {nm : Option PySem.Str} {kp : PySem.Pos} {i : Nat} (nx : Nam X i x) (hr : PK X kws (UAr g W n ms)) :
    PK X (⟨nm, .Name x p, kp⟩ :: kws) (UAr g W (n + 1) (do
      let d ← getSlot i
      return (if d.plain then .val d else .slot i) :: (← ms))) := by
  refine pk_weak (L2.pk_cons (L2.pe_var nx.1 nx.2.1 nx.2.2.1 nx.2.2.2) hr) fun σ H Q w => ?_
  obtain ⟨e, F, S, o, mt, out⟩ := w
  obtain ⟨d, hd, o1⟩ := slot_ok out
  obtain ⟨v, hv, r⟩ := mt.get hd
  refine ⟨v, hv, ?_⟩
  refine (Cur.start o mt).uar (Out.bind o1) fun as e2 _ o2 vs H2 F2 Se2 Sv2 hl c2 c2' r2 => ?_
  refine o2 (v :: vs) H2 F2 Se2 _ (by rw [List.length_cons, hl]) c2' ?_
  by_cases hp : d.plain = true
  · rw [if_pos hp]
    exact ⟨v, vs, none_, Sv2, rfl, fun b z => z.elim, fun b z => .inr z, fun b z => z.elim, (r.plain hp).later (c2.later o), r2⟩
  · rw [if_neg hp]
    exact ⟨v, vs, rfl, hv, r2.mono fun b z => .inr z⟩
/-- frozen -/
theorem RepAr.frz : ∀ {as : List Ar} {vs : List V} {S : AS}, RepAr g H F σ vs as S → (∀ a, F a → F1 a) → (∀ a, S a → F1 a) → RepAr g H F1 σ vs (as.map Ar.frz) none_
  | [], vs, S, h, _, _ => h
  | .val d :: as, _, S, h, k1, k2 => by
    obtain ⟨v, vr, P1, P2, rfl, h1, h2, h3, p, q⟩ := h
    exact ⟨v, vr, none_, none_, rfl, fun _ z => z.elim, fun _ z => z.elim, fun _ z => z.elim, p.freeze k1 fun a z => k2 a (h1 a z), RepAr.frz q k1 fun a z => k2 a (h2 a z)⟩
  | .slot i :: as, _, S, h, k1, k2 => by
    obtain ⟨v, vr, rfl, h1, q⟩ := h
    exact ⟨v, vr, rfl, h1, RepAr.frz q k1 k2⟩
/-- one of them -/
theorem RepAr.at : ∀ {as : List Ar} {vs : List V} {k : Nat} {a : Ar}, RepAr g H F σ vs as none_ → as[k]? = some a → ∃ v, vs[k]? = some v ∧ (match a with
    | .val d => Rep g H F v d none_
    | .slot i => σ[i]? = some (some v))
  | [], vs, k, a, h, e => by simp at e
  | .val d :: as, _, 0, a, h, e => by
    obtain ⟨v, vr, P1, P2, rfl, h1, h2, h3, p, q⟩ := h
    cases (show some (Ar.val d) = some a from e)
    exact ⟨v, rfl, p.mono fun b z => (h1 b z).elim⟩
  | .slot i :: as, _, 0, a, h, e => by
    obtain ⟨v, vr, rfl, h1, q⟩ := h
    cases (show some (Ar.slot i) = some a from e)
    exact ⟨v, rfl, h1⟩
  | .val d :: as, _, k + 1, a, h, e => by
    obtain ⟨v, vr, P1, P2, rfl, h1, h2, h3, p, q⟩ := h
    obtain ⟨w, e1, e2⟩ := RepAr.at (k := k) (q.mono fun b z => (h2 b z).elim) (by simpa using e)
    exact ⟨w, by simpa using e1, e2⟩
  | .slot i :: as, _, k + 1, a, h, e => by
    obtain ⟨v, vr, rfl, h1, q⟩ := h
    obtain ⟨w, e1, e2⟩ := RepAr.at (k := k) q (by simpa using e)
    exact ⟨w, by simpa using e1, e2⟩
theorem RepAr.perm : ∀ {ks : List Nat} {as as' : List Ar} {vs : List V}, RepAr g H F σ vs as none_ → permute ks as = some as' → RepAr g H F σ (ks.filterMap fun k => vs[k]?) as' none_
  | [], as, as', vs, h, e => by cases e; rfl
  | k :: ks, as, as', vs, h, e => by
    have e : (match as[k]?, permute ks as with
      | some a, some r => some (a :: r)
      | _, _ => none) = some as' := e
    cases h1 : as[k]? with
    | none => rw [h1] at e; cases e
    | some a =>
      cases h2 : permute ks as with
      | none => rw [h1, h2] at e; cases e
      | some r =>
        rw [h1, h2] at e; cases e
        obtain ⟨v, e1, e2⟩ := h.at h1
        have ih := RepAr.perm h h2
        rw [List.filterMap_cons, e1]
        cases a with
        | val d => exact ⟨v, _, none_, none_, rfl, fun _ z => z, fun _ z => z, fun _ z => z.elim, e2, ih⟩
        | slot i => exact ⟨v, _, rfl, e2, ih⟩
theorem vals_perm {vs : List V} {us : List PySem.Value} (r : Vals vs us) : ∀ ks : List Nat, Vals (ks.filterMap fun k => vs[k]?) (ks.filterMap fun k => us[k]?)
  | [] => .nil
  | k :: ks => by
    rw [List.filterMap_cons, List.filterMap_cons]
    cases hv : vs[k]? with
    | none =>
      rw [r.none_of hv]
      exact vals_perm r ks
    | some v =>
      obtain ⟨u, hu, ru⟩ := r.get hv
      rw [hu]
      exact .cons ru (vals_perm r ks)
theorem mem_zip_fst {kn : List PySem.Str} {ws : List PySem.Value} {q : PySem.Str × PySem.Value} (h : q ∈ kn.zip ws) : q.1 ∈ kn := (List.of_mem_zip (a := q.1) (b := q.2) h).1
theorem u_callk (tk : Takes X W) {ps kn : List PySem.Str} {ks : List Nat} (c : CalK X.prog X.w X.K X.mg X.base g k f φ ps) (hr : Room k X.A) (hg : L2.Gl X x) (hm : X.mg x = some (.ref (g.fa f))) (hkw : PK X kws (UAr g W kn.length ms)) (hd : (x == ("__debug__" : PySem.Str)) = false)
    (hall : (PySem.backToKw pos (PySem.keywordEach kws X.env)).all (·.1.isSome) = true) (hks : (PySem.backToKw pos (PySem.keywordEach kws X.env)).filterMap (·.1) = kn) (hpl : (PySem.backToKw pos (PySem.keywordEach kws X.env)).any (·.1.isNone) = false)
    (hn : kn.Nodup) (hl : ks.length = ps.length) (hp : ∀ (j : Nat) (n : PySem.Str) (k : Nat), ps[j]? = some n → ks[j]? = some k → kn[k]? = some n) (hsub : ∀ n ∈ kn, n ∈ ps) (hsup : ∀ n ∈ ps, n ∈ kn) :
    PE X (.Call (.Name x p) [] kws pos) (UE g W (do
      let as ← ms
      callM φ (← M.of (permute ks (as.map Ar.frz))))) := by
  obtain ⟨fd, FF, p1, p2, p3, p4, p5, p6⟩ := c.ex
  refine ⟨fun pins s σ H Q I h => ?_⟩
  refine PySem.wpAny_Call_Name_kw (L2.ld_glob I hg hm ?_ hd)
  refine PySem.W.callWith_KW0 (h₀ := X.base) I.ok.mod.kin c.kp hall ?_ (by rw [hpl]; rfl)
  have w : UAr g W kn.length ms σ H (fun zs H2 => zs.length = kn.length ∧ SpF g φ (ks.filterMap fun k => zs[k]?) H2 Q (L2.WE W σ)) := by
    obtain ⟨e, F, S, o, mt, out⟩ := h
    refine (Cur.start o mt).uar (Out.bind out) fun as e1 _ o1 vs H1 F1 Se1 Sv1 hl c1 c1' r1 => ⟨hl, ?_⟩
    obtain ⟨as', ha, o2⟩ := of_ok o1
    have cf := c1'.freeze (T := Sv1) fun a z => .inr z
    have rf := (r1.frz (F1 := fun a => F1 a ∨ Sv1 a) (fun _ => .inl) fun _ => .inr).perm ha
    exact call_ok cf rf (fun a z => z) o2
  refine L2.thn (hkw.run pos pins s σ H _ I w) fun ws s2 ⟨zs, H2, I2, rz, hlen, q2⟩ => ⟨I2.kIn, ?_⟩
  rw [hks]
  have hws : kn.length = ws.length := by rw [← rz.length, hlen]
  have lk : ∀ n ∈ ps, ((kn.zip ws).lookup n).isSome = true := fun n hn' => by
    have hm := hsup n hn'
    have key : ∀ (kn : List PySem.Str) (ws : List PySem.Value), kn.length = ws.length → n ∈ kn → ((kn.zip ws).lookup n).isSome = true := by
      intro kn
      induction kn with
      | nil => intro ws _ h; cases h
      | cons m kn ih =>
        intro ws hl hm
        cases ws with
        | nil => cases hl
        | cons w ws =>
          rw [List.zip_cons_cons, List.lookup_cons]
          by_cases e : n = m
          · subst e; simp
          · rw [beq_eq_false_iff_ne.mpr e]
            rcases List.mem_cons.mp hm with h | h
            · exact absurd h e
            · exact ih ws (by simpa using hl) h
    exact key kn ws hws hm
  have bd : PySem.bindArgs fd ⟨[], kn.zip ws⟩ = pure (ps.zip (ks.filterMap fun k => ws[k]?)) := by
    rw [bind_kw p1 p2 p3 p4 p5 p6 (by rw [List.map_fst_zip (by omega)]; exact hn) (fun q hq => hsub _ (mem_zip_fst hq)) lk]
    rw [filterMap_zip ps ks kn ws hn hl hws hp]
  refine PySem.wpAny_call (PySem.codeAny_mono (FF.run X.A X.stack s2 H2 ⟨[] ++ [], kn.zip ws⟩ (ks.filterMap fun k => ws[k]?) (ks.filterMap fun k => zs[k]?) Q (L2.WE W σ) hr I2.env0 (PySem.BindsTo.of_eq bd) (vals_perm rz ks) q2) fun r s' hq => ?_)
  cases r with
  | error e => exact L2.passAt tk σ pins H2 s2 e s' I2 hq
  | ok fl =>
    cases fl with
    | ret u => exact I2.after hq
    | next => exact False.elim hq
    | brk => exact False.elim hq
    | cont => exact False.elim hq
end
end Py
end
section
/-! S7a: statements -/
namespace Py
open L2 (V Hp HO St TE TT TS TA TG TGs TI TO Ends VK XK WX SqL SqT Rd upd upd_same upd_ne PE PT PA PS PSs PG PGs PI PW PO PK Cx R2 OpR CallR Sp FnOk Room Binds Vals Takes Inv EP)
variable {g : G} {H H0 H1 H2 H' : Hp} {F F0 F1 F2 F' : AS} {S S0 S1 S2 S' Se Se' Sv P T : AS} {σ σ0 σ1 σ' : St} {e e' e1 : Env} {W : WX} {st : List Nat} {D : Ends}
/-- just the slots st are others -/
def Eqs (st : List Nat) (σ σ' : St) : Prop := σ'.length = σ.length ∧ ∀ j, j ∉ st → σ'[j]? = σ[j]?
theorem Eqs.refl : Eqs st σ σ := ⟨rfl, fun _ _ => rfl⟩
theorem Eqs.trans (a : Eqs st σ σ0) (b : Eqs st σ0 σ1) : Eqs st σ σ1 := ⟨b.1.trans a.1, fun j h => (b.2 j h).trans (a.2 j h)⟩
theorem Eqs.set {i : Nat} {o : Option V} (h : i ∈ st) : Eqs st σ (σ.set i o) := ⟨by simp, fun j hj => List.getElem?_set_ne (by rintro rfl; exact hj h)⟩
def EndS (g : G) (D : Ends) (σ' : St) (H' : Hp) (F' : AS) (Sv : AS) : Fl → Prop
  | .nx => D.nx σ' H'
  | .bk => D.bk σ' H'
  | .ct => D.ct σ' H'
  | .rt d => ∀ v, Rep g H' F' v d Sv → D.rt v H'
def OutS (g : G) (W : WX) (st : List Nat) (D : Ends) (σ : St) (S : AS) (H : Hp) (F : AS) : R Fl → Prop
  | .bad => False
  | .exc c ps e' => ∀ σ' dd H' F' S', Aft S H F S' H' F' → Ma g H' F' e' σ' S' → Eqs st σ σ' → ExP g H' F' c ps dd → W (.ref (g.ca c)) dd σ' H'
  | .ok fl e' => ∀ σ' H' F' Se Sv, Aft S H F (fun a => Se a ∨ Sv a) H' F' → (∀ a, Se a → ¬ Sv a) → Ma g H' F' e' σ' Se → Eqs st σ σ' → EndS g D σ' H' F' Sv fl
/-- a reading of a statement -/
def US (g : G) (W : WX) (st : List Nat) (m : M Fl) : TS := fun D σ H => ∃ e F S, Own S H F ∧ Ma g H F e σ S ∧ OutS g W st D σ S H F (m e)
theorem OutS.bind {α : Type} {r : R α} {f : α → M Fl} (o : OutS g W st D σ S H F (r.bind f)) : Out g W σ S H F r (fun a e' => OutS g W st D σ S H F (f a e')) := by
  cases r with
  | ok a e' => exact o
  | exc c ps e' => exact fun dd H' F' S' a m x => o σ dd H' F' S' a m Eqs.refl x
  | bad => exact o
/-- from a later state on -/
theorem OutS.move {r : R Fl} (o : OutS g W st D σ S H F r) (a : Aft S H F (fun a => Se a ∨ P a) H1 F1) (h : Eqs st σ σ1) : OutS g W st D σ1 Se H1 F1 r := by
  cases r with
  | bad => exact o
  | exc c ps e' => exact fun σ' dd H' F' S' x m q y => o σ' dd H' F' S' (a.trans (x.more fun _ => .inl)) m (h.trans q) y
  | ok fl e' => exact fun σ' H' F' Se' Sv x dj m q => o σ' H' F' Se' Sv (a.trans (x.more fun _ => .inl)) dj m (h.trans q)
theorem OutS.move0 {r : R Fl} (o : OutS g W st D σ S H F r) (a : Aft S H F Se H1 F1) (h : Eqs st σ σ1) : OutS g W st D σ1 Se H1 F1 r := o.move (P := none_) (a.weak fun a z => z.elim id False.elim) h
/-- at the end -/
theorem OutS.done {fl : Fl} (o : OutS g W st D σ S H F (.ok fl e)) (a : Aft S H F (fun a => Se a ∨ Sv a) H1 F1) (dj : ∀ a, Se a → ¬ Sv a) (m : Ma g H1 F1 e σ1 Se) (q : Eqs st σ σ1) : EndS g D σ1 H1 F1 Sv fl := o σ1 H1 F1 Se Sv a dj m q
theorem OutS.nx (o : OutS g W st D σ S H F (.ok .nx e)) (a : Aft S H F Se H1 F1) (m : Ma g H1 F1 e σ1 Se) (q : Eqs st σ σ1) : D.nx σ1 H1 := o σ1 H1 F1 Se none_ (a.weak fun a z => z.elim id False.elim) (fun _ _ z => z) m q
theorem OutS.id (o : OutS g W st D σ S H F (.ok .nx e)) (ow : Own S H F) (m : Ma g H F e σ S) : D.nx σ H := o.nx (Aft.refl ow) m Eqs.refl
section
variable {X : Cx} {a b c : PySem.Expr} {s : PySem.Stmt} {ss : List PySem.Stmt} {pos p : PySem.Pos} {ma mb : M Py.D} {tc : M Bool} {m m' : M Fl}
/-! ### blocks -/
theorem u_skip : PSs X [] (US g W st (pure .nx)) := pss_weak L2.pss_nil fun D σ H w => by
  obtain ⟨e, F, S, o, mt, out⟩ := w
  exact OutS.id (show OutS g W st D σ S H F (.ok .nx e) from out) o mt
theorem u_seq (h : PS X s (US g W st m)) (hr : PSs X ss (US g W st m')) : PSs X (s :: ss) (US g W st (do
    match ← m with
    | .nx => m'
    | f => pure f)) := by
  refine pss_weak (L2.pss_cons h hr) fun D σ H w => ?_
  obtain ⟨e, F, S, o, mt, out⟩ := w
  refine ⟨e, F, S, o, mt, ?_⟩
  have out : OutS g W st D σ S H F ((m e).bind fun r => match r with
    | .nx => m'
    | f => pure f) := out
  cases hm : m e with
  | bad => rw [hm] at out; exact out.elim
  | exc c ps e1 => rw [hm] at out; exact out
  | ok fl e1 =>
    rw [hm] at out
    cases fl with
    | nx =>
      have out : OutS g W st D σ S H F (m' e1) := out
      intro σ' H' F' Se Sv x dj m2 q
      exact ⟨e1, F', Se, x.ow.less fun _ => .inl, m2, out.move x q⟩
    | bk => exact out
    | ct => exact out
    | rt d => exact out
theorem u_pass : PS X (.Pass pos) (US g W st (pure .nx)) := ps_weak L2.ps_pass fun D σ H w => by
  obtain ⟨e, F, S, o, mt, out⟩ := w
  exact OutS.id (show OutS g W st D σ S H F (.ok .nx e) from out) o mt
theorem u_brk : PS X (.Break pos) (US g W st (pure .bk)) := ps_weak L2.ps_break fun D σ H w => by
  obtain ⟨e, F, S, o, mt, out⟩ := w
  exact (show OutS g W st D σ S H F (.ok .bk e) from out) σ H F S none_ ((Aft.refl o).weak fun a z => z.elim id False.elim) (fun _ _ z => z) mt Eqs.refl
theorem u_cont : PS X (.Continue pos) (US g W st (pure .ct)) := ps_weak L2.ps_continue fun D σ H w => by
  obtain ⟨e, F, S, o, mt, out⟩ := w
  exact (show OutS g W st D σ S H F (.ok .ct e) from out) σ H F S none_ ((Aft.refl o).weak fun a z => z.elim id False.elim) (fun _ _ z => z) mt Eqs.refl
theorem u_if {sa sb : List PySem.Stmt} (hc : PT X c (UT g W tc)) (ha : PSs X sa (US g W st m)) (hb : PSs X sb (US g W st m')) : PS X (.If c sa sb pos) (US g W st (do if ← tc then m else m')) := by
  refine ps_weak (L2.ps_if hc ha hb) fun D σ H w => ?_
  obtain ⟨e, F, S, o, mt, out⟩ := w
  refine (Cur.start o mt).ut (OutS.bind out) fun k e1 _ o1 H1 F1 Se1 c1 c1' => ?_
  cases k with
  | true =>
    rw [if_pos rfl] at o1 ⊢
    exact ⟨e1, F1, Se1, c1.ownE, c1.mt, o1.move c1.aft Eqs.refl⟩
  | false =>
    rw [if_neg Bool.false_ne_true] at o1 ⊢
    exact ⟨e1, F1, Se1, c1.ownE, c1.mt, o1.move c1.aft Eqs.refl⟩
theorem u_expr (ha : PE X a (UE g W ma)) (hs : PySem.swapsWith a none pos.line X.env = pure false) : PS X (.Expr a pos) (US g W st (do
    let _ ← ma
    pure .nx)) := by
  refine ps_weak (L2.ps_expr ha hs) fun D σ H w => ?_
  obtain ⟨e, F, S, o, mt, out⟩ := w
  refine (Cur.start o mt).ue (OutS.bind out) fun x e1 _ o1 v H1 F1 Se1 Sv1 c1 c1' r1 => ?_
  exact OutS.nx (show OutS g W st D σ S H F (.ok .nx e1) from o1) (c1.aft.weak fun a => .inl) c1.mt Eqs.refl
/-! ### return -/
theorem u_ret (ha : PE X a (UE g W ma)) : PS X (.Return (some a) pos) (US g W st (do return .rt (← ma))) := by
  refine ps_weak (L2.ps_ret ha) fun D σ H w => ?_
  obtain ⟨e, F, S, o, mt, out⟩ := w
  refine (Cur.start o mt).ue (OutS.bind out) fun x e1 _ o1 v H1 F1 Se1 Sv1 c1 c1' r1 => ?_
  exact OutS.done (show OutS g W st D σ S H F (.ok (.rt x) e1) from o1) c1.aft c1.dj c1.mt Eqs.refl v r1
theorem u_retN : PS X (.Return none pos) (US g W st (do return .rt (← (pure .non : M Py.D)))) := by
  refine ps_weak L2.ps_retN fun D σ H w => ?_
  obtain ⟨e, F, S, o, mt, out⟩ := w
  exact OutS.done (show OutS g W st D σ S H F (.ok (.rt .non) e) from out) ((Aft.refl o).weak (S2 := fun a => S a ∨ none_ a) fun a z => z.elim id False.elim) (fun _ _ z => z) mt Eqs.refl .non rfl
theorem u_retVar {i : Nat} {x : PySem.Str} (n : Nam X i x) : PS X (.Return (some (.Name x p)) pos) (US g W st (do return .rt (← (do
    let d ← getSlot i
    (fun e => .ok d (e.set i none)) : M Py.D)))) := by
  refine ps_weak (L2.ps_ret (L2.pe_var n.1 n.2.1 n.2.2.1 n.2.2.2)) fun D σ H w => ?_
  obtain ⟨e, F, S, o, mt, out⟩ := w
  have out : OutS g W st D σ S H F (((getSlot i e).bind fun d e => R.ok d (e.set i none)).bind fun d => (pure (Fl.rt d) : M Fl)) := out
  unfold getSlot at out
  cases hs : e[i]? with
  | none => rw [hs] at out; exact out.elim
  | some od =>
    cases od with
    | none => rw [hs] at out; exact out.elim
    | some d =>
      rw [hs] at out
      obtain ⟨P1, P2, k1, k2, k3, m2, kd⟩ := mt.split (i := i)
      obtain ⟨v, hv, r⟩ := kd d hs
      refine ⟨v, hv, ?_⟩
      exact OutS.done (show OutS g W st D σ S H F (.ok (.rt d) (e.set i none)) from out) (Se := P2) (Sv := P1) ((Aft.refl o).weak fun a z => z.elim (k2 a) (k1 a)) (fun a z w => k3 a w z) m2 Eqs.refl v r
/-! ### x = e -/
theorem set_end {i : Nat} {d : Py.D} {v : V} (hi : i ∈ st) (o : OutS g W st D σ S0 H0 F0 (.ok .nx (e.set i (some d)))) (c : Cur g σ S0 H0 F0 e H F Se P) (r : Rep g H F v d P) : D.nx (σ.set i (some v)) H :=
  o.nx c.aft (c.mt.store r (fun _ => .inl) (fun _ => .inr) c.dj) (Eqs.set hi)
theorem u_set {i : Nat} {x : PySem.Str} {p' : PySem.Pos} (hN : X.N.Nodup) (hi : X.N[i]? = some x) (hx : L2.Loc X.env.scope x) (hf : X.fn x = true ∨ X.env.scope.names.lookup x = some .local) (hst : i ∈ st) (ha : PE X a (UE g W ma)) (hs : PySem.swapsWith a (some (.Name x p')) pos.line X.env = pure false) :
    PS X (.Assign [.Name x p'] a pos) (US g W st (do
      let d ← ma
      setSlot i d
      pure .nx)) := by
  refine ps_weak (L2.ps_set hN hi hx ha hs hf) fun D σ H w => ?_
  obtain ⟨e, F, S, o, mt, out⟩ := w
  refine (Cur.start o mt).ue (OutS.bind out) fun d e1 _ o1 v H1 F1 Se1 Sv1 c1 c1' r1 => ?_
  exact set_end hst (show OutS g W st D σ S H F (.ok .nx (e1.set i (some d))) from o1) c1 r1
/-! ### for, while -/
theorem u_for {t : Tg} {tg it : PySem.Expr} {mi : M (List Py.D)} {body : List PySem.Stmt} (hc : X.calm = true) (hp : PySem.PassesOwn (PySem.model X.prog X.w) X.A X.env X.xe) (hi : PI X tg it (UI g W mi)) (hg : PG X tg (tgR g.K t)) (hb : PSs X body (US g W st m)) (hs : ∀ x, PySem.foldedSetIterable it X.env x = pure x) (hst : ∀ i ∈ t.slots, i ∈ st) :
    PS X (.For tg it body [] pos) (US g W st (do
      let items ← mi
      forGo t m items)) := by
  refine ps_weak (L2.ps_for hp hc hi hg hb hs) fun D σ H w => ?_
  obtain ⟨e, F, S, o, mt, out⟩ := w
  refine ⟨e, F, S, o, mt, (OutS.bind out).mono fun items e1 _ o1 J H1 F1 Se1 c1 it => ?_⟩
  obtain ⟨n, Gd, Y, hn, wk, later⟩ := it
  have o1 := o1.move (Se := Se1) c1.aft Eqs.refl
  refine L2.for_it wk (fun i σ' H' => ∃ F' Se e', Aft Se1 H1 F1 Se H' F' ∧ Ma g H' F' e' σ' Se ∧ Eqs st σ σ' ∧ OutS g W st D σ' Se H' F' (forGo t m (items.drop i) e')) ?_ ?_ ?_ ?_
  · exact ⟨F1, Se1, e1, Aft.refl c1.ownE, c1.mt, Eqs.refl, o1⟩
  · rintro i σ' H' hi ⟨F', Se, e', x, mx, q, ox⟩
    exact (later H' F' (x.later c1.ownE)).1
  · rintro i x σ' H' H2 hi ⟨F', Se, e', xa, mx, q, ox⟩ hy
    obtain ⟨d, hd, y⟩ := (later H' F' (xa.later c1.ownE)).2 i x H2 hi hy
    have hdr : items.drop i = d :: items.drop (i + 1) := by
      obtain ⟨hi2, e2⟩ := List.getElem?_eq_some_iff.mp hd
      rw [List.drop_eq_getElem_cons hi2, e2]
    rw [hdr] at ox
    have ox : OutS g W st D σ' Se H' F' ((bindTg t d e').bind fun _ => M.bind m fun r => match r with
      | .nx => forGo t m (items.drop (i + 1))
      | .ct => forGo t m (items.drop (i + 1))
      | .bk => pure .nx
      | .rt v => pure (.rt v)) := ox
    have ow : Own Se H' F' := xa.ow
    have st2 : Aft Se H' F' Se H2 F' ∧ Ma g H2 F' e' σ' Se ∧ Rep g H2 F' x d none_ := by
      rcases y with ⟨rfl, r⟩ | ⟨T, ob, hT, rfl, r⟩
      · exact ⟨Aft.refl ow, mx, r⟩
      · exact ⟨Aft.fresh ow hT fun b z => .inl z, mx.stay (fun a o2 z _ => by
          have nn : a ≠ T := by rintro rfl; rw [hT] at z; cases z
          rw [upd_ne nn]; exact z) fun _ z => z, r⟩
    obtain ⟨xb, mb2, r⟩ := st2
    cases hb2 : bindTg t d e' with
    | bad => rw [hb2] at ox; exact ox.elim
    | exc c ps e2 =>
      exfalso
      cases t with
      | nm i => cases hb2
      | tup is =>
        have hb2 : (match d.items with
          | some ds => if is.length = ds.length then (fun e => R.ok () ((is.zip ds).foldl (fun (e : Env) (p : Nat × Py.D) => e.set p.1 (some p.2)) e) : M Unit) else M.bad
          | none => M.bad) e' = .exc c ps e2 := hb2
        cases hx : d.items with
        | none => rw [hx] at hb2; cases hb2
        | some ds =>
          rw [hx] at hb2
          by_cases hl : is.length = ds.length
          · simp only [if_pos hl] at hb2; cases hb2
          · simp only [if_neg hl] at hb2; cases hb2
    | ok u e2 =>
      rw [hb2] at ox
      refine tg_ok (S := Se) mb2 r (fun _ z => z) (fun _ z => z.elim) (fun _ _ z => z) hb2 fun σ2 m2 l2 j2 => ?_
      have q2 : Eqs st σ' σ2 := ⟨l2, fun j hj => j2 j fun z => hj (hst j z)⟩
      have ox := ox.move0 (σ1 := σ2) xb q2
      refine ⟨e2, F', Se, xb.ow, m2, ?_⟩
      have ox : OutS g W st D σ2 Se H2 F' ((m e2).bind fun r => match r with
        | .nx => forGo t m (items.drop (i + 1))
        | .ct => forGo t m (items.drop (i + 1))
        | .bk => pure .nx
        | .rt v => pure (.rt v)) := ox
      have next : ∀ {e3 : Env}, OutS g W st D σ2 Se H2 F' (forGo t m (items.drop (i + 1)) e3) → ∀ (σ3 : St) (H3 : Hp) (F3 Se3 Sv3 : AS), Aft Se H2 F' (fun a => Se3 a ∨ Sv3 a) H3 F3 → Ma g H3 F3 e3 σ3 Se3 → Eqs st σ2 σ3 → ∃ F' Se e', Aft Se1 H1 F1 Se H3 F' ∧ Ma g H3 F' e' σ3 Se ∧ Eqs st σ σ3 ∧ OutS g W st D σ3 Se H3 F' (forGo t m (items.drop (i + 1)) e') := fun {e3} on σ3 H3 F3 Se3 Sv3 x3 m3 q3 =>
        ⟨F3, Se3, e3, (xa.trans (xb.trans x3)).weak fun a => .inl, m3, (q.trans q2).trans q3, on.move x3 q3⟩
      cases hm : m e2 with
      | bad => rw [hm] at ox; exact ox.elim
      | exc c ps e3 => rw [hm] at ox; exact ox
      | ok fl e3 =>
        rw [hm] at ox
        cases fl with
        | nx => exact fun σ3 H3 F3 Se3 Sv3 x3 dj3 m3 q3 => next ox σ3 H3 F3 Se3 Sv3 x3 m3 q3
        | ct => exact fun σ3 H3 F3 Se3 Sv3 x3 dj3 m3 q3 => next ox σ3 H3 F3 Se3 Sv3 x3 m3 q3
        | bk => exact fun σ3 H3 F3 Se3 Sv3 x3 dj3 m3 q3 => OutS.nx (show OutS g W st D σ2 Se H2 F' (.ok .nx e3) from ox) (x3.weak fun a => .inl) m3 q3
        | rt v => exact fun σ3 H3 F3 Se3 Sv3 x3 dj3 m3 q3 => OutS.done (W := W) (D := D) (show OutS g W st D σ2 Se H2 F' (.ok (.rt v) e3) from ox) x3 dj3 m3 q3
  · rintro σ' H' ⟨F', Se, e', xa, mx, q, ox⟩
    rw [hn, List.drop_length] at ox
    exact OutS.id (show OutS g W st D σ' Se H' F' (.ok .nx e') from ox) xa.ow mx
theorem u_while {wh : M Bool → M Fl → M Fl} (hw : ∀ c b e, wh c b e ≠ .bad → ∃ n, wh c b e = whileN c b n e) {body : List PySem.Stmt} (hp : PySem.PassesOwn (PySem.model X.prog X.w) X.A X.env X.xe) (hc : PT X c (UT g W tc)) (hb : PSs X body (US g W st m)) :
    PS X (.While c body [] pos) (US g W st (wh tc m)) := by
  refine ps_weak (L2.ps_while hp hc hb) fun D σ H w => ?_
  obtain ⟨e, F, S, o, mt, out⟩ := w
  have hx : ∃ n, OutS g W st D σ S H F (whileN tc m n e) := by
    cases hb : wh tc m e with
    | bad => rw [hb] at out; exact out.elim
    | ok fl e1 =>
      obtain ⟨n, h⟩ := hw tc m e (by rw [hb]; intro z; cases z)
      exact ⟨n, by rw [← h]; exact out⟩
    | exc c ps e1 =>
      obtain ⟨n, h⟩ := hw tc m e (by rw [hb]; intro z; cases z)
      exact ⟨n, by rw [← h]; exact out⟩
  obtain ⟨n, on⟩ := hx
  refine ⟨fun k σ' H' => ∃ F' Se e', Own Se H' F' ∧ Ma g H' F' e' σ' Se ∧ OutS g W st D σ' Se H' F' (whileN tc m k e'), ⟨n, F, S, e, o, mt, on⟩, ?_⟩
  rintro k σ' H' ⟨F', Se, e', ow, mx, ox⟩
  cases k with
  | zero => exact ox.elim
  | succ k =>
    have ox : OutS g W st D σ' Se H' F' ((tc e').bind fun b => if b = true then M.bind m fun r => (match r with
      | .nx => whileN tc m k
      | .ct => whileN tc m k
      | .bk => pure .nx
      | .rt v => pure (.rt v)) else pure .nx) := ox
    refine (Cur.start ow mx).ut (OutS.bind ox) fun b e1 _ o1 H1 F1 Se1 c1 c1' => ?_
    have o1 := o1.move (Se := Se1) c1.aft Eqs.refl
    cases b with
    | false =>
      rw [if_neg Bool.false_ne_true] at o1 ⊢
      exact OutS.id (show OutS g W st D σ' Se1 H1 F1 (.ok .nx e1) from o1) c1.ownE c1.mt
    | true =>
      rw [if_pos rfl] at o1 ⊢
      refine ⟨fun σ3 H3 => ∃ F' Se e', Own Se H3 F' ∧ Ma g H3 F' e' σ3 Se ∧ OutS g W st D σ3 Se H3 F' (whileN tc m k e'), fun σ3 H3 h3 => ⟨k, Nat.lt_succ_self k, h3⟩, e1, F1, Se1, c1.ownE, c1.mt, ?_⟩
      have o1 : OutS g W st D σ' Se1 H1 F1 ((m e1).bind fun r => match r with
        | .nx => whileN tc m k
        | .ct => whileN tc m k
        | .bk => pure .nx
        | .rt v => pure (.rt v)) := o1
      have next : ∀ {e3 : Env}, OutS g W st D σ' Se1 H1 F1 (whileN tc m k e3) → ∀ (σ3 : St) (H3 : Hp) (F3 Se3 Sv3 : AS), Aft Se1 H1 F1 (fun a => Se3 a ∨ Sv3 a) H3 F3 → Ma g H3 F3 e3 σ3 Se3 → Eqs st σ' σ3 → ∃ F' Se e', Own Se H3 F' ∧ Ma g H3 F' e' σ3 Se ∧ OutS g W st D σ3 Se H3 F' (whileN tc m k e') := fun {e3} on σ3 H3 F3 Se3 Sv3 x3 m3 q3 =>
        ⟨F3, Se3, e3, x3.ow.less fun _ => .inl, m3, on.move x3 q3⟩
      cases hm : m e1 with
      | bad => rw [hm] at o1; exact o1.elim
      | exc c ps e3 => rw [hm] at o1; exact o1
      | ok fl e3 =>
        rw [hm] at o1
        cases fl with
        | nx => exact fun σ3 H3 F3 Se3 Sv3 x3 dj3 m3 q3 => next o1 σ3 H3 F3 Se3 Sv3 x3 m3 q3
        | ct => exact fun σ3 H3 F3 Se3 Sv3 x3 dj3 m3 q3 => next o1 σ3 H3 F3 Se3 Sv3 x3 m3 q3
        | bk => exact fun σ3 H3 F3 Se3 Sv3 x3 dj3 m3 q3 => OutS.nx (show OutS g W st D σ' Se1 H1 F1 (.ok .nx e3) from o1) (x3.weak fun a => .inl) m3 q3
        | rt v => exact fun σ3 H3 F3 Se3 Sv3 x3 dj3 m3 q3 => OutS.done (W := W) (D := D) (show OutS g W st D σ' Se1 H1 F1 (.ok (.rt v) e3) from o1) x3 dj3 m3 q3
end
end Py
end
section
/-! S7b: stores into lists, several names at once, raise -/
namespace Py
open L2 (V Hp HO St TE TT TS TA TG TGs TI TO Ends VK XK WX SqL SqT Rd upd upd_same upd_ne PE PT PA PS PSs PG PGs PI PW PO PK Cx R2 OpR CallR Sp FnOk Room Binds Vals Takes Inv EP)
variable {g : G} {H H0 H1 H2 H' : Hp} {F F0 F1 F2 F' : AS} {S S0 S1 S2 S' Se Se' Sv P T : AS} {σ σ0 σ1 σ' : St} {e e' e1 : Env} {W : WX} {st : List Nat} {D : Ends}
section
variable {X : Cx} {a b c o i k : PySem.Expr} {s : PySem.Stmt} {ss : List PySem.Stmt} {pos p : PySem.Pos} {ma mb mo : M Py.D} {tc : M Bool} {m m' : M Fl} {ms : M (List Py.D)} {es : List PySem.Expr}
/-! ### a, b = x, y -/
theorem zip_set : ∀ {is : List Nat} {vs : List V} {σ : St}, Eqs st σ (setAllV σ (is.zip vs)) ∨ ∃ i ∈ is, i ∉ st
  | [], vs, σ => .inl Eqs.refl
  | i :: is, [], σ => .inl Eqs.refl
  | i :: is, v :: vs, σ => by
    by_cases h : i ∈ st
    · rcases zip_set (is := is) (vs := vs) (σ := σ.set i (some v)) with q | ⟨j, hj, q⟩
      · exact .inl ((Eqs.set (o := some v) h).trans q)
      · exact .inr ⟨j, List.mem_cons_of_mem _ hj, q⟩
    · exact .inr ⟨i, by simp, h⟩
theorem eqs_all {is : List Nat} {vs : List V} (h : ∀ i ∈ is, i ∈ st) : Eqs st σ (setAllV σ (is.zip vs)) := by
  rcases zip_set (st := st) (is := is) (vs := vs) (σ := σ) with q | ⟨j, hj, q⟩
  · exact q
  · exact absurd (h j hj) q
/-- what the statement tells -/
abbrev parM (is : List Nat) (ms : M (List Py.D)) : M Fl := do
  let ds ← ms
  if is.length = ds.length then (fun e => .ok .nx ((is.zip ds).foldl (fun (e : Env) (p : Nat × Py.D) => e.set p.1 (some p.2)) e)) else M.bad
theorem par_end {is : List Nat} {ds : List Py.D} {vs : List V} (hi : ∀ i ∈ is, i ∈ st) (o : OutS g W st D σ S0 H0 F0 ((if is.length = ds.length then (fun e => R.ok Fl.nx ((is.zip ds).foldl (fun (e : Env) (p : Nat × Py.D) => e.set p.1 (some p.2)) e) : M Fl) else M.bad) e)) (c : Cur g σ S0 H0 F0 e H F Se P) (r : Reps g H F vs ds P) : is.length = vs.length ∧ D.nx (setAllV σ (is.zip vs)) H := by
  by_cases hl : is.length = ds.length
  · rw [if_pos hl] at o
    refine ⟨by rw [r.length]; exact hl, ?_⟩
    exact OutS.nx (show OutS g W st D σ S0 H0 F0 (.ok .nx (setAll e (is.zip ds))) from o) c.aft (c.mt.setAll r (fun _ => .inl) (fun _ => .inr) c.dj) (eqs_all hi)
  · rw [if_neg hl] at o; exact o.elim
theorem u_par2 {i j : Nat} {x y : PySem.Str} {px py pt : PySem.Pos} {kt k2 pt2} (hc : X.calm = true) (hN : X.N.Nodup) (hi : X.N[i]? = some x) (hj : X.N[j]? = some y) (hij : i ≠ j) (hx : X.env.scope.names.lookup x = some .local) (hy : X.env.scope.names.lookup y = some .local)
    (ha : PA X [a, b] (UL g W ms)) (hw : PySem.swappedStores [.Tuple [.Name x px, .Name y py] kt pt] (.Tuple [a, b] k2 pt2) X.env = pure (some [x, y])) (h1 : i ∈ st) (h2 : j ∈ st) :
    PS X (.Assign [.Tuple [.Name x px, .Name y py] kt pt] (.Tuple [a, b] k2 pt2) pos) (US g W st (parM [i, j] ms)) := by
  refine ps_weak (L2.ps_par hc hN hi hj hij hx hy ha hw) fun D σ H w => ?_
  obtain ⟨e, F, S, o, mt, out⟩ := w
  refine (Cur.start o mt).ul (OutS.bind out) fun ds e1 _ o1 vs H1 F1 Se1 Sv1 c1 c1' r1 => ?_
  obtain ⟨hl, q⟩ := par_end (is := [i, j]) (by simp [h1, h2]) o1 c1 r1
  match vs, hl, q with
  | [v, w], _, q => exact ⟨v, w, rfl, q⟩
theorem u_par3 {i j l : Nat} {x y z : PySem.Str} {px py pz pt : PySem.Pos} {kt k2 pt2} (hc : X.calm = true) (hN : X.N.Nodup) (hi : X.N[i]? = some x) (hj : X.N[j]? = some y) (hl : X.N[l]? = some z) (hij : i ≠ j) (hil : i ≠ l) (hjl : j ≠ l)
    (hx : X.env.scope.names.lookup x = some .local) (hy : X.env.scope.names.lookup y = some .local) (hz : X.env.scope.names.lookup z = some .local)
    (ha : PA X [a, b, c] (UL g W ms)) (hw : PySem.swappedStores [.Tuple [.Name x px, .Name y py, .Name z pz] kt pt] (.Tuple [a, b, c] k2 pt2) X.env = pure (some [x, y, z])) (h1 : i ∈ st) (h2 : j ∈ st) (h3 : l ∈ st) :
    PS X (.Assign [.Tuple [.Name x px, .Name y py, .Name z pz] kt pt] (.Tuple [a, b, c] k2 pt2) pos) (US g W st (parM [i, j, l] ms)) := by
  refine ps_weak (L2.ps_par3 hc hN hi hj hl hij hil hjl hx hy hz ha hw) fun D σ H w => ?_
  obtain ⟨e, F, S, o, mt, out⟩ := w
  refine (Cur.start o mt).ul (OutS.bind out) fun ds e1 _ o1 vs H1 F1 Se1 Sv1 c1 c1' r1 => ?_
  obtain ⟨hl, q⟩ := par_end (is := [i, j, l]) (by simp [h1, h2, h3]) o1 c1 r1
  match vs, hl, q with
  | [u, v, w], _, q => exact ⟨u, v, w, rfl, q⟩
/-- over a tuple -/
theorem u_parT {is : List Nat} {tg : PySem.Expr} {k2 pt2} (hg : PG X tg (tgR g.K (.tup is))) (ha : PA X es (UL g W ms)) (hs : PySem.swapsWithSole [tg] (.Tuple es k2 pt2) pos.line X.env = pure false) (hw : PySem.swappedStores [tg] (.Tuple es k2 pt2) X.env = pure none)
    (h1 : (PySem.assignEach [tg] X.env).map (·.2) = [PySem.assign tg X.env]) (hi : ∀ i ∈ is, i ∈ st) (hl : is.length ≤ 100) :
    PS X (.Assign [tg] (.Tuple es k2 pt2) pos) (US g W st (parM is ms)) := by
  refine ps_weak (L2.ps_asg (L2.pe_tup ha) hg hs hw h1) fun D σ H w => ?_
  obtain ⟨e, F, S, o, mt, out⟩ := w
  refine (Cur.start o mt).ul (OutS.bind out) fun ds e1 _ o1 vs H1 F1 Se1 Sv1 c1 c1' r1 => ?_
  obtain ⟨hle, q⟩ := par_end (is := is) hi o1 c1 r1
  refine ⟨by rw [← hle, LIM_eq]; have : LIM = 16777216 := rfl; omega, fun q hq => .inl ⟨q, vs, rfl, .inl (.inl upd_same), hle.symm, ?_⟩⟩
  have cp := c1.push (o := .tup vs) hq
  obtain ⟨_, qq⟩ := par_end (is := is) hi o1 cp (r1.fresh hq)
  exact gNames_ok hle.symm qq
theorem u_unpack {is : List Nat} {tg : PySem.Expr} (hg : PG X tg (tgR g.K (.tup is))) (ha : PE X a (UE g W ma)) (hs : PySem.swapsWithSole [tg] a pos.line X.env = pure false) (hw : PySem.swappedStores [tg] a X.env = pure none)
    (h1 : (PySem.assignEach [tg] X.env).map (·.2) = [PySem.assign tg X.env]) (hi : ∀ i ∈ is, i ∈ st) :
    PS X (.Assign [tg] a pos) (US g W st (do
      bindTg (.tup is) (← ma)
      pure .nx)) := by
  refine ps_weak (L2.ps_asg ha hg hs hw h1) fun D σ H w => ?_
  obtain ⟨e, F, S, o, mt, out⟩ := w
  refine (Cur.start o mt).ue (OutS.bind out) fun d e1 _ o1 v H1 F1 Se1 Sv1 c1 c1' r1 => ?_
  have o1 : OutS g W st D σ S H F ((bindTg (.tup is) d e1).bind fun _ => (pure .nx : M Fl)) := o1
  cases hb : bindTg (.tup is) d e1 with
  | bad => rw [hb] at o1; exact o1.elim
  | exc c ps e2 =>
    exfalso
    have hb2 : (match d.items with
      | some ds => if is.length = ds.length then (fun e => R.ok () ((is.zip ds).foldl (fun (e : Env) (p : Nat × Py.D) => e.set p.1 (some p.2)) e) : M Unit) else M.bad
      | none => M.bad) e1 = .exc c ps e2 := hb
    cases hx : d.items with
    | none => rw [hx] at hb2; cases hb2
    | some ds =>
      rw [hx] at hb2
      by_cases hl : is.length = ds.length
      · simp only [if_pos hl] at hb2; cases hb2
      · simp only [if_neg hl] at hb2; cases hb2
  | ok u e2 =>
    rw [hb] at o1
    refine tg_ok (S := fun a => Se1 a ∨ Sv1 a) c1.mt r1 (fun _ => .inl) (fun _ => .inr) c1.dj hb fun σ2 m2 l2 j2 => ?_
    exact OutS.nx (show OutS g W st D σ S H F (.ok .nx e2) from o1) c1.aft m2 ⟨l2, fun j hj => j2 j fun z => hj (hi j z)⟩
/-! ### x op= e -/
def ipX (o : Bop) : R2 := match o with
  | .add => fun x y H Q => L2.rI0 (fun i j => .int (i + j)) x y H Q ∨ ∃ i j, x = .str i ∧ y = .str j ∧ i.length + j.length ≤ PySem.sizeLine ∧ Q (.str (i ++ j)) H
  | .sub => L2.rI0 fun i j => .int (i - j)
  | _ => fun _ _ _ _ => False
theorem op_never {X : Cx} {f : PySem.Value → PySem.Value → PySem.Sem PySem.Value} : OpR X f (fun _ _ _ _ => False) := fun pins s σ H x y v u Q I rx ry h => h.elim
theorem iop_all {X : Cx} : ∀ o : Bop, OpR X (PySem.inplaceOp (bopOf o)) (ipX o)
  | .add => L2.iop_add.or L2.iop_add_str
  | .sub => L2.iop_sub
  | .mul => op_never
  | .fdiv => op_never
  | .mod => op_never
  | .pow => op_never
theorem aug_ok {v w : V} {Q : VK} {x y d : Py.D} {o : Bop} (rx : Rep g H F v x P) (ry : Rep g H F w y T) (h : augSem o x y = some d) (q : ∀ u, Rep g H F u d none_ → Q u H) : ipX o v w H Q ∧ d.plain = true := by
  cases o with
  | add =>
    cases x with
    | int i =>
      cases y <;> first | (cases h; done) | skip
      cases (show v = .int _ from rx); cases (show w = .int _ from ry); cases h
      exact ⟨.inl ⟨_, _, rfl, rfl, q _ (show Rep g H F (.int _) (.int _) none_ from rfl)⟩, rfl⟩
    | str s =>
      cases y <;> first | (cases h; done) | skip
      rename_i t
      cases (show v = .str ⟨s.toArray⟩ from rx); cases (show w = .str ⟨t.toArray⟩ from ry)
      have h : (if s.length + t.length ≤ LIM then some (Py.D.str (s ++ t)) else none) = some d := h
      split at h
      · rename_i c
        cases h
        refine ⟨.inr ⟨_, _, rfl, rfl, by rw [str_len, str_len, LIM_eq]; exact c, q _ ?_⟩, rfl⟩
        show V.str (⟨s.toArray⟩ ++ ⟨t.toArray⟩) = V.str ⟨(s ++ t).toArray⟩
        rw [str_app]
      · cases h
    | _ => cases h
  | sub =>
    cases x <;> first | (cases h; done) | skip
    cases y <;> first | (cases h; done) | skip
    cases (show v = .int _ from rx); cases (show w = .int _ from ry); cases h
    exact ⟨⟨_, _, rfl, rfl, q _ (show Rep g H F (.int _) (.int _) none_ from rfl)⟩, rfl⟩
  | _ => cases h
theorem aug_plain {x y d : Py.D} {o : Bop} (h : augSem o x y = some d) : x.plain = true := by
  cases o <;> first | (cases h; done) | skip
  · cases x <;> first | rfl | (cases h; done)
  · cases x <;> first | rfl | (cases h; done)
theorem u_aug {i : Nat} {x : PySem.Str} {p' : PySem.Pos} (op : Bop) (hN : X.N.Nodup) (hi : X.N[i]? = some x) (hx : L2.Loc X.env.scope x) (hf : X.fn x = true ∨ X.env.scope.names.lookup x = some .local) (hst : i ∈ st) (ha : PE X a (UE g W ma)) :
    PS X (.AugAssign (.Name x p') (bopOf op) a pos) (US g W st (do
      let x ← getSlot i
      let y ← ma
      let z ← M.of (augSem op x y)
      setSlot i z
      pure .nx)) := by
  refine ps_weak (L2.ps_aug (ti := ipX op) hN hi hx ha (iop_all op) hf) fun D σ H w => ?_
  obtain ⟨e, F, S, o, mt, out⟩ := w
  have out := OutS.bind (show OutS g W st D σ S H F ((getSlot i e).bind fun x => M.bind ma fun y => M.bind (M.of (augSem op x y)) fun z => M.bind (setSlot i z) fun _ => pure .nx) from out)
  unfold getSlot at out
  cases hs : e[i]? with
  | none => rw [hs] at out; exact out.elim
  | some od =>
    cases od with
    | none => rw [hs] at out; exact out.elim
    | some d0 =>
      rw [hs] at out
      obtain ⟨v, hv, r⟩ := mt.get hs
      refine ⟨v, hv, ?_⟩
      refine (Cur.start o mt).ue (OutS.bind (show OutS g W st D σ S H F ((ma e).bind fun y => M.bind (M.of (augSem op d0 y)) fun z => M.bind (setSlot i z) fun _ => pure .nx) from out)) fun y e1 _ o1 u H1 F1 Se1 Sv1 c1 c1' r1 => ?_
      have o1 : OutS g W st D σ S H F ((M.of (augSem op d0 y) e1).bind fun z => M.bind (setSlot i z) fun _ => pure .nx) := o1
      cases hz : augSem op d0 y with
      | none => rw [hz] at o1; exact o1.elim
      | some z =>
        rw [hz] at o1
        have r0 := (r.plain (aug_plain hz)).later (c1.later o)
        exact (aug_ok r0 r1 hz fun t rt => set_end hst (show OutS g W st D σ S H F (.ok .nx (e1.set i (some z))) from o1) c1'.none rt).1
/-! ### owned lists -/
/-- a list that a slot owns, written -/
theorem own_write {a : Adr} {i : Nat} {ws ws' : List V} {es : List Py.D} {ds : List Py.D} (c : Cur g σ S0 H0 F0 e H F Se P) (hs : e[i]? = some (some (.own ds))) (hv : σ[i]? = some (some (.ref a))) (k : ∀ St : AS, H a = some (.lst ws) → Reps g H F ws ds (fun b => St b ∧ b ≠ a) → (∀ b, St b → Se b) → St a → (∀ b, St b → ¬ P b) →
      Reps g (upd H a (.lst ws')) F ws' es (fun b => (St b ∨ P b) ∧ b ≠ a)) (hw : ∀ vs, H a = some (.lst vs) → vs = ws) :
    Cur g σ S0 H0 F0 (e.set i (some (.own es))) (upd H a (.lst ws')) F (fun b => Se b ∨ P b) none_ := by
  obtain ⟨P1, P2, k1, k2, k3, m2, kd⟩ := c.mt.split (i := i)
  obtain ⟨v, hv', r⟩ := kd _ hs
  rw [hv] at hv'; cases hv'
  obtain ⟨a', vs, ea, hl, ha, rr⟩ := r
  cases ea
  have e1 := hw vs hl
  subst e1
  have nF : ∀ b, F b → b ≠ a := fun b f z => by subst z; exact (c.ownE.s b (k1 b ha)).1 f
  have keep : ∀ b o, H b = some o → b ≠ a → upd H a (.lst ws') b = some o := fun b o z n => by rw [upd_ne n]; exact z
  have wr := Aft.write (ys := ws') c.aft.ow hl (.inl (k1 a ha))
  refine ⟨(c.aft.trans wr).weak fun b z => z.elim id False.elim, fun _ _ z => z, ?_⟩
  have m3 : Ma g (upd H a (.lst ws')) F (e.set i none) σ P2 := m2.stay (fun b ob z q => by
    by_cases n : b = a
    · subst n
      rw [hl] at z; cases z
      exact ((q vs rfl).elim (fun s => k3 b ha s) fun f => nF b f rfl).elim
    · exact keep b ob z n) fun _ z => z
  have nr := k P1 hl rr k1 ha fun b s z => c.dj b (k1 b s) z
  have := m3.fill (i := i) (d := .own es) (v := .ref a) (S2 := fun b => P1 b ∨ P b) (S := fun b => Se b ∨ P b) hv ⟨a, ws', rfl, upd_same, .inl ha, nr⟩ (fun b z => .inl (k2 b z)) (fun b z => z.imp_left (k1 b)) fun b z w => w.elim (fun w => k3 b w z) fun w => c.dj b (k2 b z) w
  exact this
theorem Reps.keepU {ds : List Py.D} {vs : List V} {a : Adr} {ys : List V} {xs : List V} (r : Reps g H F vs ds T) (hl : H a = some (.lst xs)) (nT : ¬ T a) (nF : ¬ F a) : Reps g (upd H a (.lst ys)) F vs ds T := r.stay (fun b ob z q => by
  by_cases n : b = a
  · subst n
    rw [hl] at z; cases z
    exact ((q xs rfl).elim nT nF).elim
  · rw [upd_ne n]; exact z) fun _ z => z
theorem Rep.keepU {d : Py.D} {v : V} {a : Adr} {ys : List V} {xs : List V} (r : Rep g H F v d T) (hl : H a = some (.lst xs)) (nT : ¬ T a) (nF : ¬ F a) : Rep g (upd H a (.lst ys)) F v d T := r.stay (fun b ob z q => by
  by_cases n : b = a
  · subst n
    rw [hl] at z; cases z
    exact ((q xs rfl).elim nT nF).elim
  · rw [upd_ne n]; exact z) fun _ z => z
/-- one item anew -/
theorem Reps.setAt : ∀ {ds : List Py.D} {vs : List V} {j : Nat} {d : Py.D} {v : V} {T T2 Tall : AS}, Reps g H F vs ds T → Rep g H F v d T2 → (∀ b, T b → Tall b) → (∀ b, T2 b → Tall b) → (∀ b, T b → ¬ T2 b) → Reps g H F (vs.set j v) (ds.set j d) Tall
  | [], vs, j, d, v, T, T2, Tall, r, rv, h1, h2, dj => by rw [show vs = [] from r]; rfl
  | d0 :: ds, vs, 0, d, v, T, T2, Tall, r, rv, h1, h2, dj => by
    obtain ⟨v0, rr, P1, P2, rfl, k1, k2, k3, p, q⟩ := r
    exact Reps.cons (P1 := T2) (P2 := P2) h2 (fun b z => h1 b (k2 b z)) (fun b z w => dj b (k2 b w) z) rv q
  | d0 :: ds, vs, j + 1, d, v, T, T2, Tall, r, rv, h1, h2, dj => by
    obtain ⟨v0, rr, P1, P2, rfl, k1, k2, k3, p, q⟩ := r
    refine Reps.cons (P1 := P1) (P2 := fun b => P2 b ∨ T2 b) (fun b z => h1 b (k1 b z)) (fun b z => z.elim (fun z => h1 b (k2 b z)) (h2 b)) (fun b z w => w.elim (k3 b z) (dj b (k1 b z))) p ?_
    exact Reps.setAt q rv (fun _ => .inl) (fun _ => .inr) fun b z w => dj b (k2 b z) w
/-- what a change of a slot's list tells -/
theorem mod0 {α : Type} {i : Nat} {f : List Py.D → Option (List Py.D × Py.D)} {kk : Py.D → M α} {Ok : α → Env → Prop} (o : Out g W σ S H F ((modSlot i [] f e).bind kk) Ok) : ∃ ds es r, e[i]? = some (some (.own ds)) ∧ f ds = some (es, r) ∧ Out g W σ S H F (kk r (e.set i (some (.own es)))) Ok := by
  unfold modSlot at o
  cases hs : e[i]? with
  | none => rw [hs] at o; exact o.elim
  | some od =>
    cases od with
    | none => rw [hs] at o; exact o.elim
    | some d =>
      rw [hs] at o
      cases d with
      | own ds =>
        have o : Out g W σ S H F ((match (f ds).map (fun (r : List Py.D × Py.D) => (Py.D.own r.1, r.2)) with
          | some r => R.ok r.2 (e.set i (some r.1))
          | none => .bad).bind kk) Ok := o
        cases hf : f ds with
        | none => rw [hf] at o; exact o.elim
        | some r => rw [hf] at o; exact ⟨ds, r.1, r.2, rfl, hf, o⟩
      | _ => exact o.elim
end
end Py
end
section
/-! S7c: stores into lists -/
namespace Py
open L2 (V Hp HO St TE TT TS TA TG TGs TI TO Ends VK XK WX SqL SqT Rd upd upd_same upd_ne PE PT PA PS PSs PG PGs PI PW PO PK Cx R2 OpR CallR Sp FnOk Room Binds Vals Takes Inv EP)
variable {g : G} {H H0 H1 H2 H' : Hp} {F F0 F1 F2 F' : AS} {S S0 S1 S2 S' Se Se' Sv P T : AS} {σ σ0 σ1 σ' : St} {e e' e1 : Env} {W : WX} {st : List Nat} {D : Ends}
section
variable {X : Cx} {a b c o k : PySem.Expr} {s : PySem.Stmt} {pos p p' ap : PySem.Pos} {ma mb mk : M Py.D} {i : Nat} {x : PySem.Str}
theorem OutS.bind' {α : Type} {m : M α} {f : α → M Fl} (o : OutS g W st D σ S H F ((m >>= f) e)) : Out g W σ S H F (m e) (fun a e' => OutS g W st D σ S H F (f a e')) := OutS.bind o
theorem slot_okS {i : Nat} {f : Py.D → M Fl} (o : OutS g W st D σ S H F ((getSlot i >>= f) e)) : ∃ d, e[i]? = some (some d) ∧ OutS g W st D σ S H F (f d e) := by
  have o : OutS g W st D σ S H F ((getSlot i e).bind f) := o
  unfold getSlot at o
  cases hs : e[i]? with
  | none => rw [hs] at o; exact o.elim
  | some od =>
    cases od with
    | none => rw [hs] at o; exact o.elim
    | some d' => rw [hs] at o; exact ⟨d', rfl, o⟩
theorem asInt_okS {d : Py.D} {f : Int → M Fl} (o : OutS g W st D σ S H F ((asInt d >>= f) e)) : ∃ i, d = .int i ∧ OutS g W st D σ S H F (f i e) := by
  cases d <;> first | exact ⟨_, rfl, o⟩ | exact o.elim
theorem of_okS {α : Type} {y : Option α} {f : α → M Fl} (o : OutS g W st D σ S H F ((M.of y >>= f) e)) : ∃ a, y = some a ∧ OutS g W st D σ S H F (f a e) := by
  cases y with
  | some a => exact ⟨a, rfl, o⟩
  | none => exact o.elim
theorem mod0S {f : List Py.D → Option (List Py.D × Py.D)} {kk : Py.D → M Fl} (o : OutS g W st D σ S H F ((modSlot i [] f >>= kk) e)) : ∃ ds es r, e[i]? = some (some (.own ds)) ∧ f ds = some (es, r) ∧ OutS g W st D σ S H F (kk r (e.set i (some (.own es)))) := by
  have o : OutS g W st D σ S H F ((modSlot i [] f e).bind kk) := o
  unfold modSlot at o
  cases hs : e[i]? with
  | none => rw [hs] at o; exact o.elim
  | some od =>
    cases od with
    | none => rw [hs] at o; exact o.elim
    | some d =>
      rw [hs] at o
      cases d with
      | own ds =>
        have o : OutS g W st D σ S H F ((match (f ds).map (fun (r : List Py.D × Py.D) => (Py.D.own r.1, r.2)) with
          | some r => R.ok r.2 (e.set i (some r.1))
          | none => .bad).bind kk) := o
        cases hf : f ds with
        | none => rw [hf] at o; exact o.elim
        | some r => rw [hf] at o; exact ⟨ds, r.1, r.2, rfl, hf, o⟩
      | _ => exact o.elim
theorem peek0S {d : Py.D} {kk : Unit → M Fl} (hs : e[i]? = some (some d)) (o : OutS g W st D σ S H F ((peekAt i [] >>= kk) e)) : (∃ ds, d = .own ds) ∧ OutS g W st D σ S H F (kk () e) := by
  have o : OutS g W st D σ S H F (((getSlot i e).bind fun c => match getAt [] c with
    | some (.own _) => pure ()
    | _ => M.bad).bind kk) := o
  unfold getSlot at o
  rw [hs] at o
  cases d with
  | own ds => exact ⟨⟨ds, rfl⟩, o⟩
  | _ => exact o.elim
/-- a slot's own list -/
theorem Cur.slotList {ds : List Py.D} (c : Cur g σ S0 H0 F0 e H F Se P) (hs : e[i]? = some (some (.own ds))) : ∃ a ws, σ[i]? = some (some (.ref a)) ∧ H a = some (.lst ws) ∧ ws.length = ds.length ∧ Se a := by
  obtain ⟨v, hv, r⟩ := c.mt.get hs
  obtain ⟨a, ws, rfl, h1, h2, rr⟩ := r
  exact ⟨a, ws, hv, h1, rr.length, h2⟩
theorem setAt_ok {ds es : List Py.D} {kk : Int} {v r : Py.D} (h : setAtD kk v ds = some (es, r)) : ∃ j, ixN ds.length kk = some j ∧ es = ds.set j v ∧ r = .non := by
  obtain ⟨j, h1, h2⟩ := Option.map_eq_some_iff.mp (show (ixN ds.length kk).map (fun j => (ds.set j v, Py.D.non)) = some (es, r) from h)
  cases h2
  exact ⟨j, h1, rfl, rfl⟩
/-- x[k] = e -/
theorem u_setIx (nx : Nam X i x) (ha : PE X a (UE g W ma)) (hk : PE X k (UE g W mk)) (hs : PySem.swapsWithSole [.Subscript (.Name x p) k p'] a pos.line X.env = pure false) (hw : PySem.swappedStores [.Subscript (.Name x p) k p'] a X.env = pure none)
    (h1 : (PySem.assignEach [.Subscript (.Name x p) k p'] X.env).map (·.2) = [PySem.assign (.Subscript (.Name x p) k p') X.env])
    (hp : ∀ v, PySem.assign (.Subscript (.Name x p) k p') X.env v = (do
      let ov ← PySem.holding [v] (PySem.eval (.Name x p) X.env)
      let iv ← PySem.holding [v, ov] (PySem.eval k X.env)
      PySem.standAt p'
      PySem.holding [v, ov, iv] (PySem.setItem ov iv v)
      PySem.release [v, ov, iv] [])) :
    PS X (.Assign [.Subscript (.Name x p) k p'] a pos) (US g W st (do
      let v ← ma
      let _ ← getSlot i
      let kd ← mk
      let k ← asInt kd
      let _ ← modSlot i [] (setAtD k v)
      pure .nx)) := by
  refine ps_weak (L2.ps_asg ha (L2.pg_sub (L2.pe_var nx.1 nx.2.1 nx.2.2.1 nx.2.2.2) hk L2.set_list hp) hs hw h1) fun D σ H w => ?_
  obtain ⟨e, F, S, o, mt, out⟩ := w
  refine (Cur.start o mt).ue (OutS.bind' out) fun d e1 _ o1 v H1 F1 Se1 Sv1 c1 c1' r1 => ?_
  obtain ⟨d0, hd0, o1⟩ := slot_okS o1
  obtain ⟨w0, hw0, _⟩ := c1'.mt.get hd0
  refine ⟨w0, hw0, ?_⟩
  refine c1'.ue (OutS.bind' o1) fun kd e2 _ o2 u H2 F2 Se2 Sv2 c2 c2' r2 => ?_
  obtain ⟨kk, rfl, o2⟩ := asInt_okS o2
  cases (show u = .int kk from r2)
  obtain ⟨ds, es, rr, hs2, hf, o3⟩ := mod0S o2
  obtain ⟨j, hj, rfl, rfl⟩ := setAt_ok hf
  obtain ⟨a', ws, hv, hl, hlen, hSe⟩ := c2'.slotList hs2
  rw [hw0] at hv; cases hv
  have rv := c1'.kept c2 r1 fun a z => .inr z
  refine ⟨a', ws, kk, j, rfl, rfl, hl, by rw [ixN_eq, hlen]; exact hj, ?_⟩
  have cv : Cur g σ S H F e2 H2 F2 Se2 Sv1 := c2'.less fun a z => .inl (.inr z)
  have cw := own_write (es := ds.set j d) (ws' := ws.set j v) cv hs2 hw0 (fun St hl rr h1 h2 dj => ?_) (fun vs z => by rw [hl] at z; cases z; rfl)
  · exact OutS.nx (show OutS g W st D σ S H F (.ok .nx (e2.set i (some (.own (ds.set j d))))) from o3) (cw.aft.weak fun a z => .inl z) cw.mt Eqs.refl
  · have nF : ¬ F2 a' := (cv.ownE.s a' hSe).1
    have ne : ∀ b, Sv1 b → b ≠ a' := fun b z e => by subst e; exact cv.dj b hSe z
    exact Reps.setAt (rr.keepU hl (fun z => z.2 rfl) nF) (rv.keepU hl (fun z => ne a' z rfl) nF) (fun b z => ⟨.inl z.1, z.2⟩) (fun b z => ⟨.inr z, ne b z⟩) fun b z w => dj b z.1 w
/-- x.append(e) -/
theorem u_append (hK : X.K = g.K) (nx : Nam X i x) (ha : PE X a (UE g W ma)) (qa : exq a = true) (hl : (ap.endLine == p'.line) = true) (hq : PySem.swapsWith (.Call (.Attribute (.Name x p) "append" ap) [a] [] p') none pos.line X.env = pure false) :
    PS X (.Expr (.Call (.Attribute (.Name x p) "append" ap) [a] [] p') pos) (US g W st (do
      let _ ← getSlot i
      peekAt i []
      let v ← ma
      let _ ← modSlot i [] fun ds => if ds.length < LIM then some (ds ++ [v], .non) else none
      pure .nx)) := by
  refine ps_weak (L2.ps_expr (L2.pe_bm (r := L2.rAppend) PySem.F.plainAttrs_list PySem.F.slot_list_append PySem.F.type_list_append L2.mt_append (L2.pe_var nx.1 nx.2.1 nx.2.2.1 nx.2.2.2) (L2.pa_cons ha L2.pa_nil (star_cons qa)) (base_of rfl) (by rw [back_all (by simp [qa])]; rfl) hl (star_cons qa) rfl) hq) fun D σ H w => ?_
  obtain ⟨e, F, S, o, mt, out⟩ := w
  obtain ⟨d0, hd0, out⟩ := slot_okS out
  obtain ⟨w0, hw0, r0⟩ := mt.get hd0
  refine ⟨w0, hw0, ?_⟩
  obtain ⟨⟨ds0, rfl⟩, out⟩ := peek0S hd0 out
  obtain ⟨a0, ws0, ea, hla, _⟩ := r0
  refine ⟨by rw [ea]; exact .inl ⟨rfl, ws0, .inl (.inl hla)⟩, ?_⟩
  refine (Cur.start o mt).ue (OutS.bind' (show OutS g W st D σ S H F ((ma >>= fun v => modSlot i [] (fun ds => if ds.length < LIM then some (ds ++ [v], .non) else none) >>= fun _ => pure .nx) e) from out)) fun d e1 _ o1 v H1 F1 Se1 Sv1 c1 c1' r1 => ?_
  obtain ⟨ds, es, rr, hs2, hf, o3⟩ := mod0S o1
  have hf : (if ds.length < LIM then some (ds ++ [d], Py.D.non) else none) = some (es, rr) := hf
  split at hf
  · rename_i hlt
    cases hf
    obtain ⟨a', ws, hv, hl, hlen, hSe⟩ := c1.slotList hs2
    rw [hw0] at hv; cases hv
    refine ⟨a', ws, v, rfl, rfl, hl, by rw [LIM_eq, hlen]; exact hlt, ?_⟩
    have cw := own_write (es := ds ++ [d]) (ws' := ws ++ [v]) c1 hs2 hw0 (fun St hl rr h1 h2 dj => ?_) (fun vs z => by rw [hl] at z; cases z; rfl)
    · exact OutS.nx (show OutS g W st D σ S H F (.ok .nx (e1.set i (some (.own (ds ++ [d]))))) from o3) (cw.aft.weak fun a z => .inl z) cw.mt Eqs.refl
    · have nF : ¬ F1 a' := (c1.ownE.s a' hSe).1
      have ne : ∀ b, Sv1 b → b ≠ a' := fun b z e => by subst e; exact c1.dj b hSe z
      exact Reps.append (P1 := fun b => St b ∧ b ≠ a') (P2 := Sv1) (fun b z => ⟨.inl z.1, z.2⟩) (fun b z => ⟨.inr z, ne b z⟩) (fun b z w => dj b z.1 w) (rr.keepU hl (fun z => z.2 rfl) nF)
        (Reps.cons (vs := []) (ds := []) (P1 := Sv1) (P2 := none_) (fun _ z => z) (fun _ z => z.elim) (fun _ _ z => z) (r1.keepU hl (fun z => ne a' z rfl) nF) rfl)
  · cases hf
theorem list_own {d : Py.D} {v : V} {ds : List Py.D} (r : Rep g H F v d P) (h : d.list? = some ds) : ∃ a vs, v = .ref a ∧ H a = some (.lst vs) ∧ Reps g H F vs ds P ∧ (P a ∨ F a) ∧ Reps g H F vs ds (fun b => P b ∧ b ≠ a) := by
  cases d with
  | lst es => cases h; obtain ⟨a, vs, e, q, f, r⟩ := r; exact ⟨a, vs, e, q, r.mono fun _ z => z.elim, .inr f, r.mono fun _ z => z.elim⟩
  | own es => cases h; obtain ⟨a, vs, e, q, s, r⟩ := r; exact ⟨a, vs, e, q, r.mono fun b z => z.1, .inl s, r⟩
  | _ => cases h
/-- x.extend(e) -/
theorem u_extend (hK : X.K = g.K) (nx : Nam X i x) (ha : PE X a (UE g W ma)) (qa : exq a = true) (hl : (ap.endLine == p'.line) = true) (hq : PySem.swapsWith (.Call (.Attribute (.Name x p) "extend" ap) [a] [] p') none pos.line X.env = pure false) :
    PS X (.Expr (.Call (.Attribute (.Name x p) "extend" ap) [a] [] p') pos) (US g W st (do
      let _ ← getSlot i
      peekAt i []
      let v ← ma
      let vs ← M.of v.list?
      let _ ← modSlot i [] fun ds => if ds.length + vs.length ≤ LIM then some (ds ++ vs, .non) else none
      pure .nx)) := by
  refine ps_weak (L2.ps_expr (L2.pe_bm (r := L2.rExtend) PySem.F.plainAttrs_list PySem.F.slot_list_extend PySem.F.type_list_extend L2.mt_extend (L2.pe_var nx.1 nx.2.1 nx.2.2.1 nx.2.2.2) (L2.pa_cons ha L2.pa_nil (star_cons qa)) (base_of rfl) (by rw [back_all (by simp [qa])]; rfl) hl (star_cons qa) rfl) hq) fun D σ H w => ?_
  obtain ⟨e, F, S, o, mt, out⟩ := w
  obtain ⟨d0, hd0, out⟩ := slot_okS out
  obtain ⟨w0, hw0, r0⟩ := mt.get hd0
  refine ⟨w0, hw0, ?_⟩
  obtain ⟨⟨ds0, rfl⟩, out⟩ := peek0S hd0 out
  obtain ⟨a0, ws0, ea, hla, _⟩ := r0
  refine ⟨by rw [ea]; exact .inl ⟨rfl, ws0, .inl (.inl hla)⟩, ?_⟩
  refine (Cur.start o mt).ue (OutS.bind' (show OutS g W st D σ S H F ((ma >>= fun v => M.of v.list? >>= fun vs => modSlot i [] (fun ds => if ds.length + vs.length ≤ LIM then some (ds ++ vs, .non) else none) >>= fun _ => pure .nx) e) from out)) fun d e1 _ o1 v H1 F1 Se1 Sv1 c1 c1' r1 => ?_
  obtain ⟨vs, hvs, o1⟩ := of_okS o1
  obtain ⟨ds, es, rr, hs2, hf, o3⟩ := mod0S o1
  have hf : (if ds.length + vs.length ≤ LIM then some (ds ++ vs, Py.D.non) else none) = some (es, rr) := hf
  split at hf
  · rename_i hlt
    cases hf
    obtain ⟨a', ws, hv, hl, hlen, hSe⟩ := c1.slotList hs2
    rw [hw0] at hv; cases hv
    obtain ⟨b, zs, rfl, hb, rz, _, _⟩ := list_own r1 hvs
    refine ⟨a', b, ws, zs, rfl, rfl, hl, hb, by rw [LIM_eq, hlen, rz.length]; exact hlt, ?_⟩
    have cw := own_write (es := ds ++ vs) (ws' := ws ++ zs) c1 hs2 hw0 (fun St hl rr h1 h2 dj => ?_) (fun vs z => by rw [hl] at z; cases z; rfl)
    · exact OutS.nx (show OutS g W st D σ S H F (.ok .nx (e1.set i (some (.own (ds ++ vs))))) from o3) (cw.aft.weak fun a z => .inl z) cw.mt Eqs.refl
    · have nF : ¬ F1 a' := (c1.ownE.s a' hSe).1
      have ne : ∀ b, Sv1 b → b ≠ a' := fun b z e => by subst e; exact c1.dj b hSe z
      exact Reps.append (P1 := fun b => St b ∧ b ≠ a') (P2 := Sv1) (fun b z => ⟨.inl z.1, z.2⟩) (fun b z => ⟨.inr z, ne b z⟩) (fun b z w => dj b z.1 w) (rr.keepU hl (fun z => z.2 rfl) nF) (rz.keepU hl (fun z => ne a' z rfl) nF)
  · cases hf
end
end Py
end
section
/-! S7d: several except clauses with names; raise -/
namespace L2
open PySem PySem.Spec PyProof.Rows
/-- a clause: the class, the name's slot, what its suite asks -/
abbrev ClauseN := Value × Nat × (Addr → Value → Option Addr → TS)
def wManyN (K : PySem.W.Frag) (Wout : WX) (D : Ends) : List ClauseN → WX
  | [] => Wout
  | (c, i, ts) :: r => fun cls d σ H => ∃ b, PySem.W.exmOne K cls c = some b ∧
      (b = true → ∀ a, H a = none → ts a cls d { nx := fun σ' H' => D.nx (σ'.set i none) H', rt := D.rt, bk := fun σ' H' => D.bk (σ'.set i none) H', ct := fun σ' H' => D.ct (σ'.set i none) H' } (σ.set i (some (.ref a))) H) ∧
      (b = false → wManyN K Wout D r cls d σ H)
inductive HdsN (X : Cx) : List ExceptHandler → List ClauseN → Prop
  | nil : HdsN X [] []
  | cons {x n : Str} {c : Value} {i : Nat} {ts : Addr → Value → Option Addr → TS} {b₀ : Stmt} {suite : List Stmt} {np pos' : Pos} {hds : List ExceptHandler} {l : List ClauseN} (hc : Names X x c) (hi : X.N[i]? = some n) (hln : X.env.kindOf n = some .local)
      (hsu : ∀ (a : Addr) (oe : Obj) (cls : Value) (d : Option Addr) (pn : List (Addr × Obj)), Zc cls d oe → (∃ vs, oe.data = .fields vs) → PSs (X.suite a ((a, oe) :: pn)) (b₀ :: suite) (ts a cls d)) (r : HdsN X hds l) :
      HdsN X (.ExceptHandler (some (.Name x np)) (some n) (b₀ :: suite) pos' :: hds) ((c, i, ts) :: l)
section
variable {X : Cx} {body : List Stmt} {h₀ : ExceptHandler} {hds : List ExceptHandler} {l : List ClauseN} {pos : Pos} {tb : WX → TS} {Wout : WX}
theorem ps_try_manyN (hs : X.stack = X.env :: X.outer) (hf : X.env.frame = some X.env.locals) (hN : X.N.Nodup) (tk : Takes X Wout)
    (hb : ∀ (W : WX) (pn : List (Addr × Obj)) (xe : Value → Shared → Prop), Takes (X.tr pn xe) W → PassesOwn (model X.prog X.w) X.A X.env xe → PSs (X.tr pn xe) body (tb W))
    (hh : HdsN X (h₀ :: hds) l) : PS X (.Try body (h₀ :: hds) [] [] pos) (fun D σ H => tb (wManyN X.K Wout D l) D σ H) := by
  refine ⟨fun pins s σ H D I h => ?_⟩
  have ok := I.ok
  have hfr : X.A.frames = some (X.env :: X.outer) := by rw [ok.frames, hs]
  refine wpAny_Try_except ?_
  refine wpAny_mono ((hb (wManyN X.K Wout D l) (X.pn ++ pins) (fun e s₁ => wpAny (model X.prog X.w) X.A (noteFrame e X.env) (fun _ s₂ => wpAny (model X.prog X.w) X.A (setFlight e none) (fun _ s₃ =>
    wpAny (model X.prog X.w) X.A (handleBy e X.env (h₀ :: hds)) (SP X pins D) X.xe s₃) X.xe s₂) X.xe s₁) (fun u s' xx => ?_) PassesOwn.looking).run [] s σ H D (I.toTry _) h) (fun f s1 hsp => ?_) (fun e s1 he => he)
  · obtain ⟨a, B, sI, pins', σ', H', cls, d, rfl, J', nb, up, sky, na, os, ag, w⟩ := xx
    have J : Inv X pins σ' H' sI := J'.ofTry ok
    have sky' : Sky B (X.env :: X.outer) a (Zc cls d) X.env.locals s'.heap := by rw [← hs]; exact sky
    show wpAny (model X.prog X.w) X.A (noteFrame (.ref a) X.env) _ _ _
    refine Sky.land Zc.steady hfr hf sky' fun h3 fl3 up3 => ?_
    have J3 : Inv X pins σ' H' { s' with heap := h3 } := J.landed nb fl3.1 (up.trans up3) os ag
    obtain ⟨oe3, vs3, he3, hz3, hd3⟩ := fl3.there
    have nfr : a ∉ frs (X.env :: X.outer) := fun hm => by
      obtain ⟨_, o', e', hnf⟩ := fl3.2.2.1.mem hm
      rw [he3] at e'; cases e'
      exact hnf _ hd3
    have nL : a ≠ X.env.locals := fun z => nfr (List.mem_filterMap.mpr ⟨X.env, List.mem_cons_self, by rw [hf, z]⟩)
    have nF : a ∉ X.fs := fun hm => by
      obtain ⟨e, he, q⟩ := List.mem_filterMap.mp hm
      exact nfr (List.mem_filterMap.mpr ⟨e, List.mem_cons_of_mem _ he, q⟩)
    have S3 := J3.suite he3 hd3 na nL nF
    have go : ∀ {hds' : List ExceptHandler} {l' : List ClauseN}, HdsN X hds' l' → wManyN X.K Wout D l' cls d σ' H' →
        wpAny (model X.prog X.w) X.A (handleBy (.ref a) X.env hds') (SP X pins D) X.xe { s' with heap := h3 } := by
      intro hds' l' hk
      induction hk with
      | nil =>
        intro w
        refine wpAny_handleBy_nil ?_
        obtain ⟨k1, k2, k3, oe, vs, T, oT, ts', he, hz, hd, h1, hr⟩ := id fl3
        unfold PySem.passOn
        refine wpAny_bind (wpAny_field he hd h1 ?_)
        rw [if_neg (show ¬ ((Value.ref T == Value.none) = true) from by simp)]
        have fin : wpAny (model X.prog X.w) X.A (setFlight (.ref a) X.env.frame) (fun _ s4 => wpAny (model X.prog X.w) X.A (throw (.ref a) : Sem Flow) (SP X pins D) X.xe s4) X.xe { s' with heap := h3 } := by
          rw [hf]
          refine HandSPX.setFlight_upZ fl3 fun h4 hh4 up4 => wpAny_throw (tk _ _ ?_)
          exact ⟨a, B, sI, pins, σ', H', cls, d, rfl, J, nb, (up.trans up3).trans up4, .inr (.inr (by rw [hs]; exact hh4)), na, os, ag, w⟩
        first
          | exact wpAny_bind (wpAny_pure (wpAny_bind fin))
          | exact wpAny_bind fin
      | @cons x n c i ts b₀ suite np pos' hds2 l2 hc hi hln hsu r ih =>
        intro w
        obtain ⟨b, hb1, hyes, hno⟩ := w
        refine wpAny_handleBy_cons (codeAny_handlers_test ?_) (by intro q; cases q)
        have LT : PySem.W.Looks (model X.prog X.w) h3 (typeOf (.ref a)) cls := fun A Q E s k q => wpAny_typeOf_ref (k _ _ he3) (by rw [hz3.1]; exact q)
        have LM := PySem.W.exm_one (M := model X.prog X.w) (J3.kIn) LT hb1
        have test : ∀ {Q : Value → Shared → Prop} {E : Value → Shared → Prop}, Q c { s' with heap := h3 } → wpAny (model X.prog X.w) (X.A.mark (some (.ref a))) (eval (.Name x np) X.env) Q E { s' with heap := h3 } := fun {Q E} q => by
          obtain ⟨hg, hdbg, hm | ⟨hm, hv, hnn⟩⟩ := hc
          · exact ld_glob (X := X.suite a ((a, oe3) :: (X.pn ++ pins))) S3 hg hm q hdbg
          · exact ld_blt (X := X.suite a ((a, oe3) :: (X.pn ++ pins))) S3 hg hm hv q hnn hdbg
        refine test (LM.here ?_)
        cases b with
        | true =>
          refine codeAny_handlers_suite_as ?_
          refine HandSPX.lands_againZ fl3 fun h4 fl4 up4 => ?_
          have J4 : Inv X pins σ' H' { s' with heap := h4 } := J.landed nb fl4.1 ((up.trans up3).trans up4) os ag
          obtain ⟨oe4, vs4, he4, hz4, hd4⟩ := fl4.there
          have S4 := J4.suite he4 hd4 na nL nF
          refine store_ok (X := X.suite a ((a, oe4) :: (X.pn ++ pins))) (v := .ref a) S4 hN hi (.inl hln) rfl (fun s5 S5 => ?_) (.inr hln)
          refine wpAny_mono ((hsu a oe4 cls d (X.pn ++ pins) hz4 ⟨_, hd4⟩).run [] s5 _ H' _ S5 (hyes rfl a na)) (fun f s6 hsp => ?_) (fun _ _ z => False.elim z)
          have end_ : ∀ {σ6 : St} {H6 : Hp} {Q : Shared → Prop}, Inv (X.suite a ((a, oe4) :: (X.pn ++ pins))) [] σ6 H6 s6 → (∀ s7, Inv X pins (σ6.set i none) H6 s7 → Q s7) →
              wpAny (model X.prog X.w) X.A (do bindName X.env n .none; unbindBehindTheSuite X.env n pos') (fun _ s7 => Q s7) X.xe s6 := fun {σ6 H6 Q} S6 hq => gone_ok (S6.unsuite ok) hN hi hln hq
          cases f with
          | next => obtain ⟨σ6, H6, S6, q6⟩ := hsp; exact end_ S6 fun s7 J7 => ⟨_, _, J7, q6⟩
          | brk => obtain ⟨σ6, H6, S6, q6⟩ := hsp; exact end_ S6 fun s7 J7 => ⟨_, _, J7, q6⟩
          | cont => obtain ⟨σ6, H6, S6, q6⟩ := hsp; exact end_ S6 fun s7 J7 => ⟨_, _, J7, q6⟩
          | ret u => obtain ⟨v6, σ6, H6, S6, r6, q6⟩ := hsp; exact end_ S6 fun s7 J7 => ⟨_, _, _, J7, r6, q6⟩
        | false =>
          show wpAny _ X.A (handleBy (.ref a) X.env hds2) _ _ _
          exact ih (hno rfl)
    exact go hh w
  · cases f with
    | next => obtain ⟨σ', H', J', q⟩ := hsp; exact wpAny_execs_nil ⟨σ', H', J'.ofTry ok, q⟩
    | brk => obtain ⟨σ', H', J', q⟩ := hsp; exact ⟨σ', H', J'.ofTry ok, q⟩
    | cont => obtain ⟨σ', H', J', q⟩ := hsp; exact ⟨σ', H', J'.ofTry ok, q⟩
    | ret u => obtain ⟨v, σ', H', J', r, q⟩ := hsp; exact ⟨v, σ', H', J'.ofTry ok, r, q⟩
end
/-- X() -/
theorem pmk_own0 {X : Cx} {C : Addr} {bmB : List Value} {B newId initId : String} {x : Str} {p pos : Pos} (F : ExcBaseFacts B newId initId bmB) (q : PySem.W.excIn X.K C bmB newId = true) (gC : X.mg x = some (.ref C)) (kC : PySem.W.keepIn X.K (.ref C) = true) (r : Raises X (.ref C)) (hg : Gl X x)
    (hdb : (x == ("__debug__" : Str)) = false) : PMk X (.Call (.Name x p) [] [] pos) (fun _ H Q => Q (.ref C) none H) := by
  intro pins s σ H Q I h
  refine wpAny_Call_Name_kw (ld_glob I hg gC ?_ hdb)
  refine PySem.W.callWith_K0 I.kIn kC ?_
  show wpAny _ _ (call (.ref C) []) _ _ _
  obtain ⟨bm, N, nm, qn, bs, hdct, sn, sub, ab, col, dd, k0, k1, k2, k3, k5, mN, hC, hN, hni, T⟩ := exc_obj I.kIn q
  refine wpAny_call_exc_subT F T hC hN hni (fun h' e hm => ?_) (Nat.zero_le _)
  exact mk_of I hm r h (I.hok.gone hm.new)
end L2
end
section
/-! S7e: raise, try -/
namespace Py
open L2 (V Hp HO St TE TT TS TA TG TGs TI TO Ends VK XK WX SqL SqT Rd upd upd_same upd_ne PE PT PA PS PSs PG PGs PI PW PO PK Cx R2 OpR CallR Sp FnOk Room Binds Vals Takes Inv EP)
variable {g : G} {H H0 H1 H2 H' : Hp} {F F0 F1 F2 F' : AS} {S S0 S1 S2 S' Se Se' Sv P T : AS} {σ σ0 σ1 σ' : St} {e e' e1 : Env} {W : WX} {st : List Nat} {D : Ends}
def xcName : Xc → PySem.Str
  | .unfit => "Unfit"
  | .cannot => "CanNot"
  | .toomany => "TooMany"
  | .badtext => "BadText"
  | .nothing => "NothingDone"
/-- an own class of errors, over ValueError, without own __init__ -/
structure XcOk (g : G) (c : Xc) : Prop where
  gC : g.mg (xcName c) = some (.ref (g.ca c))
  kC : PySem.W.keepIn g.K (.ref (g.ca c)) = true
  raise : ∃ (bmB : List PySem.Value) (B nid iid : String), PySem.ExcBaseFacts B nid iid bmB ∧ PySem.W.excIn g.K (g.ca c) bmB nid = true
  bP : PySem.W.subIn g.K (.ref (g.ca c)) (.type "BaseException") = some true
  tP : PySem.W.typeIn g.K (.ref (g.ca c)) = some (.type "type")
  ec : L2.ExcC g.K (g.ca c)
  kv : PySem.W.kitOne g.K (.ref (g.ca c)) (.type "ValueError") = some true
/-- no class of errors is another one -/
def XcApart (g : G) : Prop := ∀ c c', g.xc c = true → g.xc c' = true → PySem.W.subIn g.K (.ref (g.ca c)) (.ref (g.ca c')) = some (decide (c = c'))
def litV : Lit → V
  | .non => .non
  | .bl b => .bl b
  | .int i => .int i
  | .str s => .str ⟨s.toArray⟩
theorem pe_litV {X : Cx} {l : Lit} {j pos} : PE X (.Constant (litConst l) j pos) (L2.tC (litV l)) := by
  cases l with
  | non => exact L2.pe_non
  | bl b => exact L2.pe_bl
  | int i => exact L2.pe_int
  | str s => exact L2.pe_str
theorem rep_litV {l : Lit} : Rep g H F (litV l) l.d none_ := by cases l <;> rfl
section
variable {X : Cx} {a b c o k : PySem.Expr} {s : PySem.Stmt} {ss : List PySem.Stmt} {pos p p' ap : PySem.Pos} {ma mb mk : M Py.D} {i : Nat} {x : PySem.Str} {m m' : M Fl}
theorem u_raise (hK : X.K = g.K) (hmg : X.mg = g.mg) (hc : X.calm = true) (tk : Takes X W) {c : Xc} (xo : XcOk g c) (xc : g.xc c = true) (hg : L2.Gl X (xcName c)) : PS X (.Raise (some (.Call (.Name (xcName c) p) [] [] p')) none pos) (US g W st (do
    let ds ← (pure [] : M (List Py.D))
    fun e => .exc c ds e)) := by
  obtain ⟨bmB, B, nid, iid, F, q⟩ := xo.raise
  refine ps_weak (L2.ps_raise hc tk (L2.pmk_own0 F (by rw [hK]; exact q) (by rw [hmg]; exact xo.gC) (by rw [hK]; exact xo.kC) (L2.raises_own (by rw [hK]; exact xo.bP) (by rw [hK]; exact xo.tP)) hg (by cases c <;> decide))) fun D σ H w => ?_
  obtain ⟨e, F, S, o, mt, out⟩ := w
  exact (show OutS g W st D σ S H F (.exc c [] e) from out) σ none H F S (Aft.refl o) mt Eqs.refl ⟨xc, .inl ⟨rfl, rfl⟩⟩
/-! ### except suites -/
/-- what a suite asks: the error's class, no dict, its name's slot; it hands back a literal -/
def tsRet (g : G) (c : Xc) (i : Nat) (l : Lit) : PySem.Addr → PySem.Value → Option PySem.Addr → TS := fun a cls d D σ H => cls = .ref (g.ca c) ∧ d = none ∧ σ[i]? = some (some (.ref a)) ∧ D.rt (litV l) H
/-- the clauses, one after the other -/
inductive HdsP (g : G) (st : List Nat) : Hds → List L2.ClauseN → Prop
  | nil : HdsP g st .nil []
  | cons {c : Xc} {i : Nat} {l b : Lit} {r : Hds} {cl : List L2.ClauseN} (hx : g.xc c = true) (hb : c ≠ .badtext) (hi : i ∈ st) (hr : HdsP g st r cl) : HdsP g st (.cons c i none (.iteYes l b) r) ((.ref (g.ca c), i, tsRet g c i l) :: cl)
theorem u_suite {a : PySem.Addr} {oe : PySem.Obj} {cls : PySem.Value} {d : Option PySem.Addr} {pn : List (PySem.Addr × PySem.Obj)} (hz : L2.Zc cls d oe) (hv : ∃ vs, oe.data = .fields vs) (hK : X.K = g.K) {c : Xc} (xo : XcOk g c) {l l' : Lit} {j j' : Nat} {q1 q2 q3 q4 q5 q6 q7 q8 : PySem.Pos}
    (hg1 : L2.Gl X "isinstance") (hm1 : X.mg "isinstance" = none) (hg2 : L2.Gl X "ValueError") (hm2 : X.mg "ValueError" = none) (n : Nam X i x) :
    PSs (X.suite a ((a, oe) :: pn)) [.Return (some (.IfExp (.Call (.Name "isinstance" q1) [.Name x q2, .Name "ValueError" q3] [] q4) (.Constant (litConst l) j q5) (.Constant (litConst l') j' q6) q7)) q8] (tsRet g c i l a cls d) := by
  refine ⟨fun pins s σ H D I w => ?_⟩
  obtain ⟨rfl, rfl, hσ, q⟩ := w
  have pa : PA (X.suite a ((a, oe) :: pn)) [.Name x q2, .Name "ValueError" q3] _ := L2.pa_cons (L2.pe_var n.1 n.2.1 n.2.2.1 n.2.2.2) (L2.pa_cons (L2.pe_bltn (v := .ty "ValueError") hg2 hm2 (by decide +kernel) rfl) L2.pa_nil)
  have ec : L2.ExcC (X.suite a ((a, oe) :: pn)).K (g.ca c) := by show L2.ExcC X.K _; rw [hK]; exact xo.ec
  have pc := L2.pe_callB (pos := q4) (p := q1) (L2.call_isE ec hz hv) hg1 hm1 isi_boot pa (by decide) (by decide)
  have pt := L2.pt_truth pc (fun _ => rfl)
  refine (L2.pss_one (L2.ps_ret (L2.pe_ifExp pt pe_litV pe_litV))).run pins s σ H D I ?_
  refine ⟨.ref a, hσ, .ty "ValueError", .type "ValueError", true, rfl, fun u r => r, ?_, true, rfl, ?_⟩
  · show PySem.W.kitOne X.K _ _ = _
    rw [hK]; exact xo.kv
  · exact q
/-- what the clauses wish follows from what the statement tells -/
theorem catch_ok (ap : XcApart g) (xk : ∀ c, g.xc c = true → XcOk g c) {c : Xc} {ps : List Py.D} {dd : Option Adr} {Wout : WX} {hs : Hds} {cl : List L2.ClauseN} (hp : HdsP g st hs cl) :
    OutS g Wout st D σ S H F (catch_ c ps hs e) → ∀ σ' H' F' S', Aft S H F S' H' F' → Ma g H' F' e σ' S' → Eqs st σ σ' → ExP g H' F' c ps dd → (∀ i ∈ st, i < σ'.length) → L2.wManyN g.K Wout D cl (.ref (g.ca c)) dd σ' H' := by
  induction hp with
  | nil => exact fun o σ' H' F' S' a m q x hl => o σ' dd H' F' S' a m q x
  | @cons c' i l b r cl hx hb hi hr ih =>
    intro o σ' H' F' S' a m q x hl
    have ok' := xk c' hx
    refine ⟨decide (c = c'), PySem.W.exm_ref ok'.bP ok'.ec.hd ok'.tP (ap c c' x.1 hx), fun h adr ha => ?_, fun h => ?_⟩
    · have e1 : c = c' := of_decide_eq_true h
      subst e1
      have o : OutS g Wout st D σ S H F (.ok (.rt l.d) (e.set i none)) := by
        have : catch_ c ps (.cons c i none (.iteYes l b) r) e = .ok (.rt l.d) (e.set i none) := by
          show (if c = c then _ else _ : M Fl) e = _
          rw [if_pos rfl]
          rfl
        rw [← this]; exact o
      have hd : dd = none := by
        rcases x.2 with ⟨_, h⟩ | ⟨_, _, _, h, _⟩
        · exact h
        · exact absurd h hb
      refine ⟨rfl, hd, by rw [List.getElem?_set_self (hl i hi)], ?_⟩
      exact OutS.done o (Se := S') (Sv := none_) (a.weak fun b z => z.elim id False.elim) (fun _ _ z => z) (m.forget (i := i) (o := none)) (q.trans (Eqs.set hi)) (litV l) rep_litV
    · have ne : c ≠ c' := of_decide_eq_false h
      refine ih ?_ σ' H' F' S' a m q x hl
      have : catch_ c ps (.cons c' i none (.iteYes l b) r) e = catch_ c ps r e := by
        show (if c = c' then _ else _ : M Fl) e = _
        rw [if_neg ne]
      rw [← this]; exact o
theorem u_try (hK : X.K = g.K) (hs : X.stack = X.env :: X.outer) (hf : X.env.frame = some X.env.locals) (hN : X.N.Nodup) (tk : Takes X W) (ap : XcApart g) (xk : ∀ c, g.xc c = true → XcOk g c) {h₀ : PySem.ExceptHandler} {hds : List PySem.ExceptHandler} {h : Hds} {cl : List L2.ClauseN} {body : List PySem.Stmt}
    (hb : ∀ (W : WX) (pn : List (PySem.Addr × PySem.Obj)) (xe : PySem.Value → PySem.Shared → Prop), Takes (X.tr pn xe) W → PySem.PassesOwn (PySem.model X.prog X.w) X.A X.env xe → PSs (X.tr pn xe) body (US g W st m))
    (hh : L2.HdsN X (h₀ :: hds) cl) (hp : HdsP g st h cl) (hlen : ∀ i ∈ st, i < X.N.length) : PS X (.Try body (h₀ :: hds) [] [] pos) (US g W st (fun e => match m e with
      | .exc c ps e' => catch_ c ps h e'
      | r => r)) := by
  have key := L2.ps_try_manyN (pos := pos) (tb := fun W => US g W st m) hs hf hN tk hb hh
  refine ⟨fun pins s σ H D I w => key.run pins s σ H D I ?_⟩
  obtain ⟨e, F, S, o, mt, out⟩ := w
  refine ⟨e, F, S, o, mt, ?_⟩
  have lσ : σ.length = X.N.length := I.len
  have out : OutS g W st D σ S H F (match m e with
    | .exc c ps e' => catch_ c ps h e'
    | r => r) := out
  rw [hK]
  cases hm : m e with
  | bad => rw [hm] at out; exact out.elim
  | ok fl e1 => rw [hm] at out; exact out
  | exc c ps e1 =>
    rw [hm] at out
    intro σ' dd H' F' S' a m2 q x
    exact catch_ok ap xk hp out σ' H' F' S' a m2 q x fun i hi => by rw [q.1, lσ]; exact hlen i hi
end
end Py
end
section
/-! S7f: comprehensions as expressions, as the value of a name -/
namespace Py
open L2 (V Hp HO St TE TT TS TA TG TGs TI TO Ends VK XK WX SqL SqT Rd upd upd_same upd_ne PE PT PA PS PSs PG PGs PTs PI PW PO PK Cx R2 OpR CallR Sp FnOk Room Binds Vals Takes Inv EP BlkOk)
open PySem (compEnvC)
variable {g : G} {H H0 H1 H2 H' : Hp} {F F0 F1 F2 F' : AS} {S S0 S1 S2 S' Se Se' Sv P T : AS} {σ σ0 σ1 σ' : St} {e e' e1 : Env} {W : WX} {st : List Nat} {D : Ends}
section
variable {X : Cx} {elt tg it : PySem.Expr} {ifs : List PySem.Expr} {scope : PySem.Scope} {own : List (PySem.Str × Nat)} {pos p spos : PySem.Pos} {t : Tg} {mi : M (List Py.D)} {mc : M Bool} {mx : M Py.D} {c : PySem.Expr}
theorem u_ifs0 : PTs X [] (UT g W (pure true)) := ⟨fun pins s σ H Q I w => L2.pts_nil.run pins s σ H Q I (by
  obtain ⟨e, F, S, o, mt, out⟩ := w
  exact out H F S (Cur.start o mt))⟩
theorem u_ifs1 (h : PT X c (UT g W mc)) : PTs X [c] (UT g W mc) := L2.pts_one h
theorem u_comp (hc : X.calm = true) (hN : X.N.Nodup) (hi : PI X tg it (UI g W mi)) (ok : BlkOk X.N X.env.scope scope own) (ho : own.map (·.2) = t.slots)
    (hg : ∀ (s : PySem.Shared) (H : Hp) (C : PySem.Addr) (cl : List (PySem.Str × PySem.Addr)) (fp : List PySem.Addr), PG (X.blk s H scope (compEnvC scope cl C X.env) fp) tg (tgR g.K t))
    (ht : ∀ (s : PySem.Shared) (H : Hp) (C : PySem.Addr) (cl : List (PySem.Str × PySem.Addr)) (fp : List PySem.Addr), PTs (X.blk s H scope (compEnvC scope cl C X.env) fp) ifs (UT g noX mc))
    (he : ∀ (s : PySem.Shared) (H : Hp) (C : PySem.Addr) (cl : List (PySem.Str × PySem.Addr)) (fp : List PySem.Addr), PE (X.blk s H scope (compEnvC scope cl C X.env) fp) elt (UE g noX mx))
    (hs : ∀ x, PySem.foldedSetIterable it X.env x = pure x) : PE X (.ListComp elt [⟨tg, it, ifs, 0⟩] scope pos) (UE g W (do
      let items ← mi
      compM t mc mx items)) := by
  refine pe_weak (L2.pe_lc hc hN hi ok hg ht he hs) fun σ H Q w => ?_
  rw [ho]
  exact lc_ok w
theorem ut_set {i : Nat} (hst : i ∈ st) {m : M Py.D} (w : US g W st (do
      let d ← m
      setSlot i d
      pure .nx) D σ H) : UE g W m σ H (fun v H1 => D.nx (σ.set i (some v)) H1) := by
  obtain ⟨e, F, S, o, mt, out⟩ := w
  refine ⟨e, F, S, o, mt, (OutS.bind out).mono fun d e1 _ o1 v H1 F1 Se1 Sv1 c1 r1 => ?_⟩
  exact set_end hst (show OutS g W st D σ S H F (.ok .nx (e1.set i (some d))) from o1) c1 r1
theorem u_setLc (hc : X.calm = true) (hN : X.N.Nodup) {i : Nat} {y : PySem.Str} {py : PySem.Pos} (hy : X.N[i]? = some y) (hyl : X.env.scope.names.lookup y = some .local) (hst : i ∈ st)
    (hsw : PySem.swapsWith (.ListComp elt [⟨tg, it, ifs, 0⟩] scope pos) (some (.Name y py)) spos.line X.env = pure true) (hi : PI X tg it (UI g W mi)) (ok : BlkOk X.N X.env.scope scope own) (ho : own.map (·.2) = t.slots)
    (hg : ∀ (s : PySem.Shared) (H : Hp) (C : PySem.Addr) (cl : List (PySem.Str × PySem.Addr)) (fp : List PySem.Addr), PG (X.blk s H scope (compEnvC scope cl C X.env) fp) tg (tgR g.K t))
    (ht : ∀ (s : PySem.Shared) (H : Hp) (C : PySem.Addr) (cl : List (PySem.Str × PySem.Addr)) (fp : List PySem.Addr), PTs (X.blk s H scope (compEnvC scope cl C X.env) fp) ifs (UT g noX mc))
    (he : ∀ (s : PySem.Shared) (H : Hp) (C : PySem.Addr) (cl : List (PySem.Str × PySem.Addr)) (fp : List PySem.Addr), PE (X.blk s H scope (compEnvC scope cl C X.env) fp) elt (UE g noX mx))
    (hs : ∀ x, PySem.foldedSetIterable it X.env x = pure x) : PS X (.Assign [.Name y py] (.ListComp elt [⟨tg, it, ifs, 0⟩] scope pos) spos) (US g W st (do
      let d ← (do
        let items ← mi
        compM t mc mx items)
      setSlot i d
      pure .nx)) := by
  refine ps_weak (L2.ps_setLc hc hN hy hyl hsw hi ok hg ht he hs) fun D σ H w => ?_
  have := lc_ok (ut_set hst w)
  rw [← ho] at this
  exact this
/-- when a name's value is a comprehension -/
def swapB (sc : PySem.Scope) (scope : PySem.Scope) (y : PySem.Str) (py pos : PySem.Pos) : Bool :=
  sc.names.lookup y == some .local && py.line == pos.line && !(scope.names.any fun n => n.1 == y && (n.2 == .local || n.2 == .cell))
theorem swap_is {gs : List PySem.Comprehension} {y : PySem.Str} {py : PySem.Pos} {l : Nat} {env : PySem.Env} (hk : env.scope.kind = .function) : PySem.swapsWith (.ListComp elt gs scope pos) (some (.Name y py)) l env = pure (swapB env.scope scope y py pos) := by
  have hb : env.blockKind = .function := by unfold PySem.Env.blockKind; rw [hk]; rfl
  unfold PySem.swapsWith swapB
  simp only [hb, PySem.Env.kindOf]
  show (pure _ : PySem.Sem Bool) = _
  congr 1
end
end Py
end
section
/-! S8a: the checker: my syntax against the program's -/
namespace Py
open PySem (Scope Str Expr)
/-- what is known of the program -/
structure Tb where
  fname : Nat → Option Str
  fns : Nat → Option Fn
  cons : List (Str × D)
  xcs : List Xc
/-- a place in the text: names' kinds, which cells may be stored -/
structure Ct where
  sc : Scope
  fn : Str → Bool
mutual
def D.same : D → D → Bool
  | .non, .non => true
  | .bl a, .bl b => a == b
  | .int i, .int j => decide (i = j)
  | .str a, .str b => decide (a = b)
  | .tup a, .tup b => D.sames a b
  | .lst a, .lst b => D.sames a b
  | _, _ => false
def D.sames : List D → List D → Bool
  | [], [] => true
  | a :: as, b :: bs => D.same a b && D.sames as bs
  | _, _ => false
end
mutual
theorem same_eq : ∀ {a b : D}, D.same a b = true → a = b
  | .non, b, h => by cases b <;> first | rfl | cases h
  | .bl x, b, h => by
    cases b <;> first | (cases h; done) | skip
    rw [eq_of_beq (show (x == _) = true from h)]
  | .int x, b, h => by
    cases b <;> first | (cases h; done) | skip
    rw [of_decide_eq_true (show decide (x = _) = true from h)]
  | .str x, b, h => by
    cases b <;> first | (cases h; done) | skip
    rw [of_decide_eq_true (show decide (x = _) = true from h)]
  | .tup x, b, h => by
    cases b <;> first | (cases h; done) | skip
    rw [sames_eq (show D.sames x _ = true from h)]
  | .lst x, b, h => by
    cases b <;> first | (cases h; done) | skip
    rw [sames_eq (show D.sames x _ = true from h)]
  | .own x, b, h => by cases h
  | .fn x, b, h => by cases h
  | .scr x, b, h => by cases h
theorem sames_eq : ∀ {a b : List D}, D.sames a b = true → a = b
  | [], [], _ => rfl
  | [], _ :: _, h => by cases h
  | _ :: _, [], h => by cases h
  | a :: as, b :: bs, h => by
    have h : (D.same a b && D.sames as bs) = true := h
    rw [Bool.and_eq_true] at h
    rw [same_eq h.1, sames_eq h.2]
end
def glB (sc : Scope) (x : Str) : Bool := decide (sc.names.lookup x = some .globalImplicit)
def visB (sc : Scope) (x : Str) : Bool := decide (sc.names.lookup x = some .local) || (decide (sc.names.lookup x = some .cell) || decide (sc.names.lookup x = some .free))
def okName (x : Str) : Bool := (x == ("__debug__" : Str)) == false && (x == ("__classdict__" : Str)) == false
def namB (N : List Str) (sc : Scope) (i : Nat) (x : Str) : Bool := decide (N[i]? = some x) && visB sc x && okName x
def constB : Lit → PySem.Const → Bool
  | .non, c => (match c with | .none => true | _ => false)
  | .bl b, c => (match c with | .bool b' => b == b' | _ => false)
  | .int i, c => (match c with | .int j => decide (i = j) | _ => false)
  | .str s, c => (match c with | .str t => decide (s = t.cps.toList) | _ => false)
theorem const_eq {l : Lit} {c : PySem.Const} (h : constB l c = true) : c = litConst l := by
  cases l <;> cases c <;> first | rfl | (cases h; done) | skip
  · rename_i a b; cases a <;> cases b <;> first | rfl | cases h
  · rename_i a b; rw [show litConst (.int a) = .int a from rfl, of_decide_eq_true (show decide (a = b) = true from h)]
  · rename_i a b
    have e := of_decide_eq_true (show decide (a = b.cps.toList) = true from h)
    subst e
    rfl
def conB (tb : Tb) (y : Str) (d : D) : Bool := tb.cons.any fun p => decide (p.1 = y) && D.same p.2 d
def fnB (tb : Tb) (sc : Scope) (f : Nat) (x : Str) : Bool := decide (tb.fname f = some x) && glB sc x && (x == ("__debug__" : Str)) == false
def litsB : List Lit → List Lit → Bool
  | [], [] => true
  | a :: as, b :: bs => D.same a.d b.d && litsB as bs
  | _, _ => false
/-- a test that is asked as a test -/
def tokX : Ex → Bool
  | .ite _ _ _ => false
  | .and a b => tokX a && tokX b
  | .or a b => tokX a && tokX b
  | .not a => tokX a
  | _ => true
def isTup : Expr → Bool
  | .Tuple _ _ _ => true
  | _ => false
def nmE (f : Str → Bool) : Expr → Bool
  | .Name x _ => f x
  | _ => false
/-- a target's names -/
def nmB (N : List Str) (ct : Ct) (i : Nat) (x : Str) : Bool := decide (N[i]? = some x) && (decide (ct.sc.names.lookup x = some .local) || (decide (ct.sc.names.lookup x = some .cell) && ct.fn x))
def chkNs (N : List Str) (ct : Ct) : List Nat → List Expr → Bool
  | [], [] => true
  | i :: is, e :: es => nmE (nmB N ct i) e && chkNs N ct is es
  | _, _ => false
def chkTg (N : List Str) (ct : Ct) : Tg → Expr → Bool
  | .nm i, e => (match e with
    | .Name x _ => nmB N ct i x
    | _ => false)
  | .tup is, e => (match e with
    | .Tuple es _ _ => chkNs N ct is es
    | _ => false)
/-- the names of a comprehension's target, with their slots -/
def ownOf : Tg → Expr → List (Str × Nat)
  | .nm i, .Name x _ => [(x, i)]
  | .tup is, .Tuple es _ _ => (es.map fun e => match e with
    | .Name x _ => x
    | _ => "").zip is
  | _, _ => []
def blkCt (ct : Ct) (scope : Scope) : Ct := ⟨L2.relS scope ct.sc, fun x => scope.names.lookup x == some .cell⟩
/-- isinstance's classes -/
def chkTys (sc : Scope) : List Ty → List Expr → Bool
  | [], [] => true
  | t :: ts, e :: es => nmE (fun x => decide (x = (tyName t : Str)) && glB sc x) e && chkTys sc ts es
  | _, _ => false
def chkTy (sc : Scope) (ts : List Ty) (e : Expr) : Bool := match ts, e with
  | [t], .Name x _ => decide (x = (tyName t : Str)) && glB sc x
  | ts, .Tuple es _ _ => decide (ts.length ≤ 16) && !ts.isEmpty && chkTys sc ts es
  | _, _ => false
/-- keywords: names and places -/
def kwsB (ps : List Str) (ks : List Nat) (kn : List Str) : Bool :=
  decide kn.Nodup && decide (ks.length = ps.length) && (ps.all fun n => kn.contains n) && (kn.all fun n => ps.contains n) && ((List.range ps.length).all fun j => match ps[j]?, ks[j]? with
    | some n, some k => decide (kn[k]? = some n)
    | _, _ => false)
mutual
def chkE (tb : Tb) (N : List Str) : Ex → Ct → Expr → Bool
  | .var i, ct, e => (match e with
    | .Name x _ => namB N ct.sc i x
    | _ => false)
  | .con x d, ct, e => (match e with
    | .Name y _ => conB tb y d && glB ct.sc y && (y == ("__debug__" : Str)) == false
    | _ => false)
  | .gfn f, ct, e => (match e with
    | .Name y _ => fnB tb ct.sc f y
    | _ => false)
  | .lit l, ct, e => (match e with
    | .Constant c _ _ => constB l c
    | _ => false)
  | .tuple es, ct, e => (match e with
    | .Tuple xs _ _ => chkEs tb N es ct xs
    | _ => false)
  | .list es, ct, e => (match e with
    | .List xs _ => chkEs tb N es ct xs
    | _ => false)
  | .neg a, ct, e => (match e with
    | .UnaryOp .USub x _ => chkE tb N a ct x
    | _ => false)
  | .not a, ct, e => (match e with
    | .UnaryOp .Not x _ => chkE tb N a ct x
    | _ => false)
  | .and a b, ct, e => (match e with
    | .BoolOp .And (x :: y :: rest) pos => chkE tb N a ct x && (match rest with
      | [] => chkE tb N b ct y
      | z :: r => chkE tb N b ct (.BoolOp .And (y :: z :: r) pos))
    | _ => false)
  | .or a b, ct, e => (match e with
    | .BoolOp .Or (x :: y :: rest) pos => chkE tb N a ct x && (match rest with
      | [] => chkE tb N b ct y
      | z :: r => chkE tb N b ct (.BoolOp .Or (y :: z :: r) pos))
    | _ => false)
  | .bin o a b, ct, e => (match e with
    | .BinOp x op y _ => decide (op = bopOf o) && chkE tb N a ct x && chkE tb N b ct y
    | _ => false)
  | .cmp o a b, ct, e => (match e with
    | .Compare x [op] [y] _ => decide (op = copOf o) && chkE tb N a ct x && chkE tb N b ct y && exq y
    | _ => false)
  | .isC a l, ct, e => (match e with
    | .Compare x [.Is] [.Constant c _ _] _ => chkE tb N a ct x && constB l c
    | _ => false)
  | .notC a l, ct, e => (match e with
    | .Compare x [.IsNot] [.Constant c _ _] _ => chkE tb N a ct x && constB l c
    | _ => false)
  | .chain o1 o2 a b c, ct, e => (match e with
    | .Compare x [p, q] [y, z] _ => decide (p = copOf o1) && decide (q = copOf o2) && chkE tb N a ct x && chkE tb N b ct y && chkE tb N c ct z && exq z
    | _ => false)
  | .chain3 _ _ _ _ _ _ _, _, _ => false
  | .ite c a b, ct, e => (match e with
    | .IfExp t x y _ => tokX c && chkE tb N c ct t && chkE tb N a ct x && chkE tb N b ct y
    | _ => false)
  | .call f as, ct, e => (match e with
    | .Call (.Name x _) xs [] _ => fnB tb ct.sc f x && chkEs tb N as ct xs
    | _ => false)
  | .calld f as dl, ct, e => (match e with
    | .Call (.Name x _) (y :: xs) [] _ => fnB tb ct.sc f x && (match tb.fns f with
      | some fn => litsB dl fn.dfl
      | none => false) && chkEs tb N as ct (y :: xs)
    | _ => false)
  | .callk f ks as, ct, e => (match e with
    | .Call (.Name x _) [] kws _ => fnB tb ct.sc f x && (match tb.fns f with
      | some fn => fn.dfl.isEmpty && kwsB ((fn.names.take fn.np).map Str.ofString) ks (kws.filterMap fun k => k.arg)
      | none => false) && (kws.all fun k => k.arg.isSome) && chkEs tb N as ct (kws.map fun k => k.value)
    | _ => false)
  | .callv i as, ct, e => (match e with
    | .Call (.Name x _) (y :: xs) [] _ => namB N ct.sc i x && chkEs tb N as ct (y :: xs)
    | _ => false)
  | .bi b as, ct, e => (match e with
    | .Call (.Name x _) (y :: xs) [] _ => decide (x = biName b) && glB ct.sc x && chkEs tb N as ct (y :: xs)
    | _ => false)
  | .rangeL _, _, _ => false
  | .isi a ts, ct, e => (match e with
    | .Call (.Name x _) [y, t] [] _ => decide (x = ("isinstance" : Str)) && glB ct.sc x && chkE tb N a ct y && exq y && chkTy ct.sc ts t
    | _ => false)
  | .sset _, _, _ => false
  | .lset _, _, _ => false
  | .idx a b, ct, e => (match e with
    | .Subscript x y _ => chkE tb N a ct x && chkE tb N b ct y && exq y
    | _ => false)
  | .sl a lo hi, ct, e => (match e with
    | .Subscript x (.Slice l h none _) _ => chkE tb N a ct x && chkO tb N lo ct l && chkO tb N hi ct h
    | _ => false)
  | .rev a, ct, e => (match e with
    | .Subscript x (.Slice none none (some (.UnaryOp .USub (.Constant (.int k) _ _) _)) _) _ => decide (k = 1) && chkE tb N a ct x
    | _ => false)
  | .meth m a as, ct, e => (match m, e with
    | .index, .Call (.Attribute x n ap) (y :: ys) [] pos => decide (n = ("index" : Str)) && (ap.endLine == pos.line) && atq x && decide (ys.length ≤ 5) && chkE tb N a ct x && chkEs tb N as ct (y :: ys)
    | _, _ => false)
  | .pop _ _ _, _, _ => false
  | .comp x tg it c, ct, e => (match e with
    | .ListComp elt [⟨t, i, ifs, 0⟩] scope _ => L2.blkC N ct.sc scope (ownOf tg t) && decide ((ownOf tg t).map (·.2) = tg.slots) && exq i && chkIt tb N it ct (isTup t) i && chkTg N (blkCt ct scope) tg t && chkC tb N c (blkCt ct scope) ifs && chkE tb N x (blkCt ct scope) elt
    | _ => false)
  | .comp2 _ _ _ _ _ _ _, _, _ => false
def chkEs (tb : Tb) (N : List Str) : Exs → Ct → List Expr → Bool
  | .nil, _, es => (match es with
    | [] => true
    | _ => false)
  | .cons x r, ct, es => (match es with
    | e :: es => exq e && chkE tb N x ct e && chkEs tb N r ct es
    | _ => false)
def chkO (tb : Tb) (N : List Str) : Op → Ct → Option Expr → Bool
  | .none, _, o => (match o with
    | none => true
    | _ => false)
  | .some x, ct, o => (match o with
    | some e => chkE tb N x ct e
    | _ => false)
def chkC (tb : Tb) (N : List Str) : Op → Ct → List Expr → Bool
  | .none, _, o => (match o with
    | [] => true
    | _ => false)
  | .some x, ct, o => (match o with
    | [e] => tokX x && chkE tb N x ct e
    | _ => false)
def chkIt (tb : Tb) (N : List Str) : It → Ct → Bool → Expr → Bool
  | .plain x, ct, _, e => chkE tb N x ct e
  | .range1 a, ct, _, e => (match e with
    | .Call (.Name x _) [y] [] _ => decide (x = ("range" : Str)) && glB ct.sc x && exq y && chkE tb N a ct y
    | _ => false)
  | .range2 a b, ct, _, e => (match e with
    | .Call (.Name x _) [y, z] [] _ => decide (x = ("range" : Str)) && glB ct.sc x && exq y && exq z && chkE tb N a ct y && chkE tb N b ct z
    | _ => false)
  | .range3 _ _ _, _, _, _ => false
  | .zip2 a b, ct, tup, e => (match e with
    | .Call (.Name x _) [y, z] [] _ => tup && decide (x = ("zip" : Str)) && glB ct.sc x && exq y && exq z && chkE tb N a ct y && chkE tb N b ct z
    | _ => false)
  | .enum a, ct, tup, e => (match e with
    | .Call (.Name x _) [y] [] _ => tup && decide (x = ("enumerate" : Str)) && glB ct.sc x && exq y && chkE tb N a ct y
    | _ => false)
end
end Py
end
section
/-! S8b: the facts that the checker rests on -/
namespace Py
open L2 (V Hp HO St TE TT TS TA TG TGs TI TO Ends VK XK WX SqL SqT Rd upd upd_same upd_ne PE PT PA PS PSs PG PGs PTs PI PW PO PK Cx R2 OpR CallR Sp FnOk Room Binds Vals Takes Inv EP BlkOk)
open PySem (compEnvC Scope Str Expr)
variable {g : G} {H H0 H1 H2 H' : Hp} {F F0 F1 F2 F' : AS} {S S0 S1 S2 S' Se Se' Sv P T : AS} {σ σ0 σ1 σ' : St} {e e' e1 : Env} {W : WX} {st : List Nat} {D : Ends}
/-- names that stand for built-in things -/
def frees : List Str := ["len", "abs", "max", "min", "sum", "any", "all", "sorted", "int", "str", "list", "tuple", "isinstance", "range", "enumerate", "zip", "bool", "ValueError", "set"]
/-- the program, as far as the checker asks -/
structure Wd (tb : Tb) (g : G) (P : PySem.Program) (w : PySem.World) (base : PySem.Heap) (n : Nat) (Φ : Ora) : Prop where
  con : ∀ y d, conB tb y d = true → ConOk g y d
  mgf : ∀ f x, tb.fname f = some x → g.mg x = some (.ref (g.fa f)) ∧ g.kn f = true
  cal : ∀ f, g.kn f = true → Cal P w g.K g.mg base g n f (Φ f) []
  cald : ∀ f fn, tb.fns f = some fn → g.kn f = true → Cal P w g.K g.mg base g n f (Φ f) fn.dfl
  calk : ∀ f fn, tb.fns f = some fn → g.kn f = true → fn.dfl = [] → CalK P w g.K g.mg base g n f (Φ f) ((fn.names.take fn.np).map Str.ofString)
  free : ∀ x ∈ frees, g.mg x = none
  kn : ∀ f fn, tb.fns f = some fn → g.kn f = true
  xcs : ∀ c, g.xc c = true → XcOk g c
  xap : XcApart g
  xin : ∀ c ∈ tb.xcs, g.xc c = true
/-- the place in the text -/
structure Gd (g : G) (P : PySem.Program) (w : PySem.World) (base : PySem.Heap) (N : List Str) (n : Nat) (ct : Ct) (W : WX) (X : Cx) : Prop where
  nd : N.Nodup
  room : Room n X.A
  K : X.K = g.K
  mg : X.mg = g.mg
  P : X.prog = P
  w : X.w = w
  base : X.base = base
  N : X.N = N
  sc : X.env.scope = ct.sc
  fn : ∀ x, ct.fn x = true → X.fn x = true
  calm : X.calm = true
  tk : Takes X W
section
variable {tb : Tb} {P : PySem.Program} {w : PySem.World} {base : PySem.Heap} {N : List Str} {n : Nat} {ct : Ct} {X : Cx} {Φ : Ora}
theorem Gd.units (gd : Gd g P w base N n ct W X) : X.A.units + 65 < PySem.cLine := by have := gd.room.un; omega
theorem Gd.gl (gd : Gd g P w base N n ct W X) {x : Str} (h : glB ct.sc x = true) : L2.Gl X x := by
  show X.env.scope.names.lookup x = _
  rw [gd.sc]; exact of_decide_eq_true h
theorem Gd.nam (gd : Gd g P w base N n ct W X) {i : Nat} {x : Str} (h : namB N ct.sc i x = true) : Nam X i x := by
  unfold namB visB okName at h
  simp only [Bool.and_eq_true, Bool.or_eq_true, decide_eq_true_eq] at h
  obtain ⟨⟨h1, h2⟩, h3⟩ := h
  refine ⟨by rw [gd.N]; exact h1, ?_, eq_of_beq h3.1, eq_of_beq h3.2⟩
  rw [gd.sc]; exact h2
theorem Gd.blk (gd : Gd g P w base N n ct W X) {scope : Scope} (s : PySem.Shared) (H : Hp) (C : PySem.Addr) (cl : List (Str × PySem.Addr)) (fp : List PySem.Addr) : Gd g P w base N n (blkCt ct scope) noX (X.blk s H scope (compEnvC scope cl C X.env) fp) where
  K := gd.K
  mg := gd.mg
  P := gd.P
  w := gd.w
  base := gd.base
  N := gd.N
  nd := gd.nd
  sc := by show L2.relS scope X.env.scope = _; rw [gd.sc]; rfl
  fn := fun x h => h
  room := gd.room
  calm := gd.calm
  tk := L2.takes0
theorem Gd.cal (gd : Gd g P w base N n ct W X) {f : Nat} {φ : List Py.D → FR} {dl : List Lit} (c : Cal P w g.K g.mg base g n f φ dl) : Cal X.prog X.w X.K X.mg X.base g n f φ dl := by
  rw [gd.P, gd.w, gd.K, gd.mg, gd.base]; exact c
theorem Gd.calk (gd : Gd g P w base N n ct W X) {f : Nat} {φ : List Py.D → FR} {ps : List Str} (c : CalK P w g.K g.mg base g n f φ ps) : CalK X.prog X.w X.K X.mg X.base g n f φ ps := by
  rw [gd.P, gd.w, gd.K, gd.mg, gd.base]; exact c
theorem Wd.fr (wd : Wd tb g P w base n Φ) (gd : Gd g P w base N n ct W X) {x : Str} (h : x ∈ frees) : X.mg x = none := by rw [gd.mg]; exact wd.free x h
theorem fn_of (wd : Wd tb g P w base n Φ) (gd : Gd g P w base N n ct W X) {f : Nat} {x : Str} (h : fnB tb ct.sc f x = true) : L2.Gl X x ∧ X.mg x = some (.ref (g.fa f)) ∧ g.kn f = true ∧ (x == ("__debug__" : Str)) = false := by
  unfold fnB at h
  simp only [Bool.and_eq_true, decide_eq_true_eq] at h
  obtain ⟨⟨h1, h2⟩, h3⟩ := h
  obtain ⟨m, k⟩ := wd.mgf f x h1
  exact ⟨gd.gl h2, by rw [gd.mg]; exact m, k, eq_of_beq h3⟩
theorem lits_eq : ∀ {a b : List Lit}, litsB a b = true → a.map Lit.d = b.map Lit.d
  | [], [], _ => rfl
  | [], _ :: _, h => by cases h
  | _ :: _, [], h => by cases h
  | a :: as, b :: bs, h => by
    have h : (D.same a.d b.d && litsB as bs) = true := h
    rw [Bool.and_eq_true] at h
    rw [List.map_cons, List.map_cons, same_eq h.1, lits_eq h.2]
theorem lit_inj : ∀ {a b : Lit}, a.d = b.d → a = b := by
  intro a b h
  cases a <;> cases b <;> cases h <;> rfl
theorem lits_eq2 : ∀ {a b : List Lit}, a.map Lit.d = b.map Lit.d → a = b
  | [], [], _ => rfl
  | [], _ :: _, h => by cases h
  | _ :: _, [], h => by cases h
  | a :: as, b :: bs, h => by
    rw [List.map_cons, List.map_cons] at h
    rw [lit_inj (List.cons.inj h).1, lits_eq2 (List.cons.inj h).2]
/-! ### targets -/
theorem nm_of (gd : Gd g P w base N n ct W X) {i : Nat} {x : Str} (h : nmB N ct i x = true) : X.N[i]? = some x ∧ L2.Loc X.env.scope x ∧ (X.fn x = true ∨ X.env.scope.names.lookup x = some .local) := by
  unfold nmB at h
  simp only [Bool.and_eq_true, Bool.or_eq_true, decide_eq_true_eq] at h
  obtain ⟨h1, h2⟩ := h
  rw [gd.N, gd.sc]
  rcases h2 with h2 | ⟨h2, h3⟩
  · exact ⟨h1, .inl h2, .inr h2⟩
  · exact ⟨h1, .inr h2, .inl (gd.fn x h3)⟩
theorem chkNs_len : ∀ {is : List Nat} {es : List Expr}, chkNs N ct is es = true → is.length = es.length
  | [], [], _ => rfl
  | [], _ :: _, h => by cases h
  | _ :: _, [], h => by cases h
  | i :: is, e :: es, h => by
    have h : (nmE (nmB N ct i) e && chkNs N ct is es) = true := h
    rw [Bool.and_eq_true] at h
    rw [List.length_cons, List.length_cons, chkNs_len h.2]
theorem ns_each {env : PySem.Env} : ∀ {is : List Nat} {es : List Expr}, chkNs N ct is es = true → PySem.assignEach es env = es.map fun e => (false, PySem.assign e env)
  | [], [], _ => rfl
  | [], _ :: _, h => by cases h
  | _ :: _, [], h => by cases h
  | i :: is, e :: es, h => by
    have h : (nmE (nmB N ct i) e && chkNs N ct is es) = true := h
    rw [Bool.and_eq_true] at h
    cases e with
    | Name x p =>
      rw [List.map_cons, ← ns_each h.2]
      rfl
    | _ => cases h.1
theorem pgs_ns (gd : Gd g P w base N n ct W X) : ∀ {is : List Nat} {es : List Expr}, chkNs N ct is es = true → PGs X es (gNames is)
  | [], [], _ => L2.pgs_nil
  | [], _ :: _, h => by cases h
  | _ :: _, [], h => by cases h
  | i :: is, e :: es, h => by
    have h : (nmE (nmB N ct i) e && chkNs N ct is es) = true := h
    rw [Bool.and_eq_true] at h
    cases e with
    | Name x p =>
      obtain ⟨a1, a2, a3⟩ := nm_of gd h.1
      exact L2.pgs_cons (L2.pg_name (by rw [gd.N]; exact gd.nd) a1 a2 a3) (pgs_ns gd h.2) rfl
    | _ => cases h.1
theorem pg_of (gd : Gd g P w base N n ct W X) {t : Tg} {e : Expr} (h : chkTg N ct t e = true) : PG X e (tgR g.K t) := by
  cases t with
  | nm i =>
    cases e with
    | Name x p =>
      obtain ⟨a1, a2, a3⟩ := nm_of gd (show nmB N ct i x = true from h)
      exact L2.pg_name (by rw [gd.N]; exact gd.nd) a1 a2 a3
    | _ => cases h
  | tup is =>
    cases e with
    | Tuple es k pos =>
      have h : chkNs N ct is es = true := h
      have hl : (PySem.assignEach es X.env).length = is.length := by rw [ns_each h, List.length_map, chkNs_len h]
      have hst : (PySem.assignEach es X.env).findIdx? (·.1) = none := by
        rw [ns_each h, List.findIdx?_eq_none_iff]
        intro q hq
        obtain ⟨e, _, rfl⟩ := List.mem_map.mp hq
        rfl
      rw [← gd.K]
      exact pg_or (L2.pg_tup gd.calm (pgs_ns gd h) hl hst) (L2.pg_unl gd.calm (pgs_ns gd h) hl hst)
    | _ => cases h
theorem fold_none {i : Expr} (h : exq i = true) {env : PySem.Env} : ∀ x, PySem.foldedSetIterable i env x = pure x := by
  intro x
  cases i <;> first | rfl | cases h
theorem tys_of {sc : Scope} : ∀ {ts : List Ty} {es : List Expr}, chkTys sc ts es = true → ∃ tp : List (Ty × PySem.Pos), tp.map (·.1) = ts ∧ es = tp.map (fun t => Expr.Name (tyName t.1 : Str) t.2) ∧ ∀ t ∈ tp, glB sc (tyName t.1 : Str) = true
  | [], [], _ => ⟨[], rfl, rfl, fun _ h => by cases h⟩
  | [], _ :: _, h => by cases h
  | _ :: _, [], h => by cases h
  | t :: ts, e :: es, h => by
    have h : (nmE (fun x => decide (x = (tyName t : Str)) && glB sc x) e && chkTys sc ts es) = true := h
    rw [Bool.and_eq_true] at h
    obtain ⟨tp, h1, h2, h3⟩ := tys_of h.2
    cases e with
    | Name x p =>
      have h0 : (decide (x = (tyName t : Str)) && glB sc x) = true := h.1
      rw [Bool.and_eq_true, decide_eq_true_eq] at h0
      obtain ⟨rfl, hg⟩ := h0
      refine ⟨(t, p) :: tp, by rw [List.map_cons, h1], by rw [List.map_cons, h2], fun u hu => ?_⟩
      rcases List.mem_cons.mp hu with rfl | hu
      · exact hg
      · exact h3 u hu
    | _ => cases h.1
theorem ty_free (t : Ty) : (tyName t : Str) ∈ frees := by cases t <;> decide
theorem bi_free (b : Bi) : biName b ∈ frees := by cases b <;> decide
theorem exqs_of : ∀ {es : Exs} {xs : List Expr}, chkEs tb N es ct xs = true → xs.all exq = true
  | .nil, xs, h => by
    unfold chkEs at h
    cases xs with
    | nil => rfl
    | cons _ _ => cases h
  | .cons x r, xs, h => by
    unfold chkEs at h
    cases xs with
    | nil => cases h
    | cons e es =>
      simp only [Bool.and_eq_true] at h
      rw [List.all_cons, h.1.1, exqs_of h.2]; rfl
end
end Py
end
section
/-! S8c: expressions that the checker passes do what the interpreter tells -/
namespace Py
open L2 (V Hp HO St TE TT TS TA TG TGs TI TO Ends VK XK WX SqL SqT Rd upd upd_same upd_ne PE PT PA PS PSs PG PGs PTs PI PW PO PK Cx R2 OpR CallR Sp FnOk Room Binds Vals Takes Inv EP BlkOk)
open PySem (compEnvC Scope Str Expr)
variable {g : G} {W : WX} {tb : Tb} {P : PySem.Program} {w : PySem.World} {base : PySem.Heap} {N : List Str} {n : Nat} {ct : Ct} {X : Cx} {Φ : Ora}
def isB : Expr → Bool
  | .BoolOp _ _ _ => true
  | _ => false
abbrev TrE (g : G) (W : WX) (X : Cx) (e : Expr) (tok : Bool) (t : Tri) : Prop := PE X e (UE g W t.o) ∧ PE X e (UV g W t.v) ∧ (tok = true → PT X e (UT g W t.t) ∧ (isB e = true → PW X e (UT g W t.t)))
theorem tri_of (hK : X.K = g.K) {e : Expr} {m : M D} {tok : Bool} (h : PE X e (UE g W m)) (hq : trq e = true) : TrE g W X e tok (tri m) := by
  have hv : PE X e (UV g W m) := pe_weak h fun _ _ _ => uv_ue
  refine ⟨h, hv, fun _ => ⟨u_truth hK hv (truth_of hq), fun hb => ?_⟩⟩
  cases e <;> first | (cases hb; done) | (cases hq; done)
theorem tri_t {e : Expr} {m : M D} {t : M Bool} {tok : Bool} (h : PE X e (UE g W m)) (ht : PT X e (UT g W t)) (hb : isB e = false) : TrE g W X e tok ⟨m, m, t⟩ :=
  ⟨h, pe_weak h fun _ _ _ => uv_ue, fun _ => ⟨ht, fun z => by rw [hb] at z; cases z⟩⟩

/-! ### quiet, still -/
theorem lits_ok : ∀ (es : Exs), litsOnly es = true → ∃ ds, ∀ e, evs Φ es e = .ok ds e
  | .nil, _ => ⟨[], fun e => rfl⟩
  | .cons x r, h => by
    cases x <;> first | (cases h; done) | skip
    rename_i l
    obtain ⟨ds, hd⟩ := lits_ok r h
    refine ⟨l.d :: ds, fun e => ?_⟩
    show ((evs Φ r e).bind fun ds => M.pure (l.d :: ds)) = _
    rw [hd e]; rfl
theorem quiet_fx {b : Ex} (h : quiet b = true) : ∃ y, (∀ e, (ev Φ b).v e = .bad) ∨ ∀ e, (ev Φ b).v e = .ok y e := by
  cases b <;> first | (cases h; done) | skip
  · rename_i x d; exact ⟨d, .inr fun e => rfl⟩
  · rename_i l; exact ⟨l.d, .inr fun e => rfl⟩
  · rename_i es
    obtain ⟨ds, hd⟩ := lits_ok (Φ := Φ) es h
    have key : ∀ e, (ev Φ (.tuple es)).v e = ((M.guard (decide (ds.length ≤ LIM)) e).bind fun _ => M.pure (D.tup ds)) := fun e => by
      show ((evs Φ es e).bind _) = _
      rw [hd e]; rfl
    by_cases c : ds.length ≤ LIM
    · exact ⟨.tup ds, .inr fun e => by rw [key, decide_eq_true c]; rfl⟩
    · exact ⟨.tup ds, .inl fun e => by rw [key, decide_eq_false c]; rfl⟩
  · rename_i es
    obtain ⟨ds, hd⟩ := lits_ok (Φ := Φ) es h
    have key : ∀ e, (ev Φ (.list es)).v e = ((M.guard (decide (ds.length ≤ LIM)) e).bind fun _ => M.pure (D.own ds)) := fun e => by
      show ((evs Φ es e).bind _) = _
      rw [hd e]; rfl
    by_cases c : ds.length ≤ LIM
    · exact ⟨.own ds, .inr fun e => by rw [key, decide_eq_true c]; rfl⟩
    · exact ⟨.own ds, .inl fun e => by rw [key, decide_eq_false c]; rfl⟩
def Still (g : G) (X : Cx) (y : Expr) (m : M D) : Prop := ∃ te, PE X y te ∧ (∀ σ H Q, (∃ e F S i, Own S H F ∧ Ma g H F e σ S ∧ m e = .ok (.int i) e ∧ Q (.int i) H) → te σ H Q) ∧ (∀ e i e', m e = .ok (.int i) e' → e' = e) ∧ ∀ e c ps e', m e ≠ .exc c ps e'
theorem still_var {i : Nat} {x : Str} {p : PySem.Pos} (nm : Nam X i x) : Still g X (.Name x p) (keep i) := by
  refine ⟨_, L2.pe_var nm.1 nm.2.1 nm.2.2.1 nm.2.2.2, ?_, ?_, ?_⟩
  · intro σ H Q ⟨e, F, S, k, o, mt, h, q⟩
    have hg : e[i]? = some (some (.int k)) := by
      unfold keep getSlot at h
      cases hh : e[i]? with
      | none => simp only [bind, M.bind, hh, R.bind] at h; cases h
      | some od =>
        cases od with
        | none => simp only [bind, M.bind, hh, R.bind] at h; cases h
        | some d =>
          simp only [bind, M.bind, hh, R.bind] at h
          by_cases hp : d.plain = true
          · rw [if_pos hp] at h; cases h; rfl
          · rw [if_neg hp] at h
            cases d <;> simp only [setSlot, R.bind, bind, M.bind, pure, M.pure, D.frz] at h <;> first | (cases h; done) | exact absurd rfl hp
    obtain ⟨v, hv, r⟩ := mt.get hg
    cases (show v = .int k from r)
    exact ⟨_, hv, q⟩
  · intro e k e' h
    unfold keep getSlot at h
    cases hh : e[i]? with
    | none => simp only [bind, M.bind, hh, R.bind] at h; cases h
    | some od =>
      cases od with
      | none => simp only [bind, M.bind, hh, R.bind] at h; cases h
      | some d =>
        simp only [bind, M.bind, hh, R.bind] at h
        by_cases hp : d.plain = true
        · rw [if_pos hp] at h; cases h; rfl
        · rw [if_neg hp] at h
          cases d <;> simp only [setSlot, R.bind, bind, M.bind, pure, M.pure, D.frz] at h <;> first | (cases h; done) | exact absurd rfl hp
  · intro e c ps e' h
    unfold keep getSlot at h
    cases hh : e[i]? with
    | none => simp only [bind, M.bind, hh, R.bind] at h; cases h
    | some od =>
      cases od with
      | none => simp only [bind, M.bind, hh, R.bind] at h; cases h
      | some d =>
        simp only [bind, M.bind, hh, R.bind] at h
        by_cases hp : d.plain = true
        · rw [if_pos hp] at h; cases h
        · rw [if_neg hp] at h; cases h
theorem still_c {y : Expr} {v : V} {d : D} (h : PE X y (L2.tC v)) (r : ∀ H F, Rep g H F v d none_) : Still g X y (pure d) := by
  refine ⟨_, h, ?_, ?_, ?_⟩
  · intro σ H Q ⟨e, F, S, k, o, mt, h, q⟩
    cases h
    cases (show v = .int k from r H F)
    exact q
  · intro e i e' h; cases h; rfl
  · intro e c ps e' h; cases h
theorem still_neg {y : Expr} {p : PySem.Pos} {v : V} {d : D} (h : PE X y (L2.tC v)) (r : ∀ H F, Rep g H F v d none_) : Still g X (.UnaryOp .USub y p) (do
    let i ← asInt (← (pure d : M D))
    return .int (-i)) := by
  refine ⟨_, L2.pe_un L2.un_neg h, ?_, ?_, ?_⟩
  · intro σ H Q ⟨e, F, S, k, o, mt, hm, q⟩
    have hz : ((asInt d e).bind fun i => M.pure (D.int (-i))) = R.ok (.int k) e := hm
    cases d <;> first | (cases hz; done) | skip
    rename_i i
    have r := r H F
    cases (show v = .int i from r)
    have hk : -i = k := by injection hz with hz; injection hz
    rw [← hk] at q
    exact ⟨i, rfl, q⟩
  · intro e k e' h
    have h : ((asInt d e).bind fun i => M.pure (D.int (-i))) = R.ok (.int k) e' := h
    cases d <;> first | (cases h; done) | skip
    cases h; rfl
  · intro e c ps e' h
    have h : ((asInt d e).bind fun i => M.pure (D.int (-i))) = R.exc c ps e' := h
    cases d <;> first | (cases h; done) | skip
theorem keep_int {i : Nat} {e e' : Env} {d : D} (h : keep i e = .ok d e') : (∃ k, d = .int k) → e' = e ∧ e[i]? = some (some d) := by
  intro ⟨k, hk⟩
  subst hk
  unfold keep getSlot at h
  cases hh : e[i]? with
  | none => simp only [bind, M.bind, hh, R.bind] at h; cases h
  | some od =>
    cases od with
    | none => simp only [bind, M.bind, hh, R.bind] at h; cases h
    | some d =>
      simp only [bind, M.bind, hh, R.bind] at h
      by_cases hp : d.plain = true
      · rw [if_pos hp] at h; cases h; exact ⟨rfl, rfl⟩
      · rw [if_neg hp] at h
        cases d <;> simp only [setSlot, R.bind, bind, M.bind, pure, M.pure, D.frz] at h <;> first | (cases h; done) | exact absurd rfl hp
theorem keep_exc {i : Nat} {e e' : Env} {c : Xc} {ps : List D} : keep i e ≠ .exc c ps e' := by
  intro h
  unfold keep getSlot at h
  cases hh : e[i]? with
  | none => simp only [bind, M.bind, hh, R.bind] at h; cases h
  | some od =>
    cases od with
    | none => simp only [bind, M.bind, hh, R.bind] at h; cases h
    | some d =>
      simp only [bind, M.bind, hh, R.bind] at h
      by_cases hp : d.plain = true
      · rw [if_pos hp] at h; cases h
      · rw [if_neg hp] at h; cases h
theorem frz_int {x : D} {k : Int} (h : x.frz = .int k) : x = .int k := by
  cases x <;> first | (cases h; done) | exact h
def asI : Bop → Int → Int → Int
  | .add, i, j => i + j
  | _, i, j => i - j
theorem still_bin {o : Bop} (ho : o = .add ∨ o = .sub) {i : Nat} {x : Str} {p pos : PySem.Pos} (nm : Nam X i x) {y : Expr} {v : V} {d : D} (h : PE X y (L2.tC v)) (r : ∀ H F, Rep g H F v d none_) (hl : ∃ l : Lit, d = l.d) : Still g X (.BinOp (.Name x p) (bopOf o) y pos) (do
    let x ← keep i
    let y ← (pure d : M D)
    M.of (binSem o x.frz y.frz)) := by
  have key : ∀ {e e' : Env} {k : Int}, ((keep i e).bind fun x => M.of (binSem o x.frz d.frz)) = R.ok (.int k) e' → e' = e ∧ ∃ a b, e[i]? = some (some (.int a)) ∧ d = .int b ∧ k = asI o a b := by
    intro e e' k h
    cases hk : keep i e with
    | bad => rw [hk] at h; cases h
    | exc c ps e1 => exact absurd hk keep_exc
    | ok z e1 =>
      rw [hk] at h
      have h : M.of (binSem o z.frz d.frz) e1 = R.ok (.int k) e' := h
      cases hb : binSem o z.frz d.frz with
      | none => rw [hb] at h; cases h
      | some w =>
        rw [hb] at h
        cases h
        have : ∃ a b, z.frz = .int a ∧ d.frz = .int b ∧ k = asI o a b := by
          rcases ho with rfl | rfl
          · have hb : addSem z.frz d.frz = some (.int k) := hb
            obtain ⟨l, rfl⟩ := hl
            cases l <;> cases hz : z.frz <;> rw [hz] at hb <;> simp only [Lit.d, D.frz, addSem, D.list?] at hb <;> first | (cases hb; done) | skip
            · cases hb; exact ⟨_, _, rfl, rfl, rfl⟩
            · split at hb <;> cases hb
          · obtain ⟨l, rfl⟩ := hl
            cases l <;> cases hz : z.frz <;> rw [hz] at hb <;> simp only [Lit.d, D.frz, binSem] at hb <;> first | (cases hb; done) | skip
            cases hb; exact ⟨_, _, rfl, rfl, rfl⟩
        obtain ⟨a, b, h1, h2, h3⟩ := this
        obtain ⟨g1, g2⟩ := keep_int hk ⟨a, frz_int h1⟩
        exact ⟨g1, a, b, by rw [g2, frz_int h1], frz_int h2, h3⟩
  have op : OpR X (PySem.binaryOp (bopOf o)) (L2.rI0 fun i j => .int (asI o i j)) := by
    rcases ho with rfl | rfl
    · exact L2.op_add
    · exact L2.op_sub
  refine ⟨_, L2.pe_op op (L2.pe_var nm.1 nm.2.1 nm.2.2.1 nm.2.2.2) h, ?_, ?_, ?_⟩
  · intro σ H Q ⟨e, F, S, k, o, mt, h, q⟩
    obtain ⟨_, a, b, h1, rfl, rfl⟩ := key h
    obtain ⟨w, hw, rw⟩ := mt.get h1
    cases (show w = .int a from rw)
    cases (show v = .int b from r H F)
    exact ⟨_, hw, a, b, rfl, rfl, q⟩
  · intro e k e' h
    exact (key h).1
  · intro e c ps e' h
    have h : ((keep i e).bind fun x => M.of (binSem o x.frz d.frz)) = R.exc c ps e' := h
    cases hk : keep i e with
    | bad => rw [hk] at h; cases h
    | exc c ps e1 => exact absurd hk keep_exc
    | ok z e1 =>
      rw [hk] at h
      have h : M.of (binSem o z.frz d.frz) e1 = R.exc c ps e' := h
      cases hb : binSem o z.frz d.frz <;> rw [hb] at h <;> cases h
theorem still_of (wd : Wd tb g P w base n Φ) (gd : Gd g P w base N n ct W X) {b : Ex} {y : Expr} (hs : still b = true) (h : chkE tb N b ct y = true) : Still g X y (ev Φ b).o := by
  have lit : ∀ {l : Lit} {y : Expr}, chkE tb N (.lit l) ct y = true → ∃ v, PE X y (L2.tC v) ∧ ∀ (H : Hp) (F : AS), Rep g H F v l.d none_ := by
    intro l y h
    unfold chkE at h
    split at h
    · obtain ⟨v, h1, h2⟩ := rep_lit (l := l)
      rw [const_eq h]
      exact ⟨v, h1, h2 g⟩
    · cases h
  have var : ∀ {i : Nat} {y : Expr}, chkE tb N (.var i) ct y = true → ∃ x p, y = .Name x p ∧ Nam X i x := by
    intro i y h
    unfold chkE at h
    split at h
    · exact ⟨_, _, rfl, gd.nam h⟩
    · cases h
  unfold still at hs
  split at hs
  · obtain ⟨x, p, rfl, nm⟩ := var h
    exact still_var nm
  · obtain ⟨v, h1, h2⟩ := lit h
    exact still_c h1 h2
  · unfold chkE at h
    split at h
    · rename_i x d _ y p
      simp only [Bool.and_eq_true] at h
      obtain ⟨v, u, c1, c2, c3⟩ := wd.con y d h.1.1
      exact still_c (L2.pe_glob (gd.gl h.1.2) (by rw [gd.mg]; exact c1) c2 (eq_of_beq h.2)) c3
    · cases h
  · rename_i l
    unfold chkE at h
    split at h
    · obtain ⟨v, h1, h2⟩ := lit h
      exact still_neg h1 h2
    · cases h
  · rename_i i l
    unfold chkE at h
    split at h
    · simp only [Bool.and_eq_true, decide_eq_true_eq] at h
      obtain ⟨⟨rfl, ha⟩, hb⟩ := h
      obtain ⟨x, p, rfl, nm⟩ := var ha
      obtain ⟨v, h1, h2⟩ := lit hb
      exact still_bin (.inl rfl) nm h1 h2 ⟨l, rfl⟩
    · cases h
  · rename_i i l
    unfold chkE at h
    split at h
    · simp only [Bool.and_eq_true, decide_eq_true_eq] at h
      obtain ⟨⟨rfl, ha⟩, hb⟩ := h
      obtain ⟨x, p, rfl, nm⟩ := var ha
      obtain ⟨v, h1, h2⟩ := lit hb
      exact still_bin (.inr rfl) nm h1 h2 ⟨l, rfl⟩
    · cases h
  · cases hs
/-! ### keywords -/
theorem kws_len : ∀ {kws : List PySem.Keyword}, (kws.all fun k => k.arg.isSome) = true → (kws.filterMap fun k => k.arg).length = kws.length
  | [], _ => rfl
  | ⟨none, a, kp⟩ :: kws, h => by cases h
  | ⟨some n, a, kp⟩ :: kws, h => by
    have h : (kws.all fun k => k.arg.isSome) = true := h
    show (n :: kws.filterMap fun k => k.arg).length = _
    rw [List.length_cons, List.length_cons, kws_len h]
theorem back_kw1 {pos : PySem.Pos} {env : PySem.Env} : ∀ {kws : List PySem.Keyword}, (kws.all fun k => k.arg.isSome) = true → ((PySem.backToKw pos (PySem.keywordEach kws env)).all fun x => x.1.isSome) = true
  | [], _ => rfl
  | ⟨none, a, kp⟩ :: kws, h => by cases h
  | ⟨some n, a, kp⟩ :: kws, h => back_kw1 (kws := kws) h
theorem back_kw2 {pos : PySem.Pos} {env : PySem.Env} : ∀ {kws : List PySem.Keyword}, (PySem.backToKw pos (PySem.keywordEach kws env)).filterMap (fun x => x.1) = kws.filterMap fun k => k.arg
  | [] => rfl
  | ⟨none, a, kp⟩ :: kws => back_kw2 (kws := kws)
  | ⟨some n, a, kp⟩ :: kws => by
    show n :: (PySem.backToKw pos (PySem.keywordEach kws env)).filterMap (fun x => x.1) = n :: _
    rw [back_kw2 (kws := kws)]
theorem back_kw3 {pos : PySem.Pos} {env : PySem.Env} : ∀ {kws : List PySem.Keyword}, (kws.all fun k => k.arg.isSome) = true → ((PySem.backToKw pos (PySem.keywordEach kws env)).any fun x => x.1.isNone) = false
  | [], _ => rfl
  | ⟨none, a, kp⟩ :: kws, h => by cases h
  | ⟨some n, a, kp⟩ :: kws, h => back_kw3 (kws := kws) h
theorem kws_ok {ps kn : List Str} {ks : List Nat} (h : kwsB ps ks kn = true) : kn.Nodup ∧ ks.length = ps.length ∧ (∀ (j : Nat) (n : Str) (k : Nat), ps[j]? = some n → ks[j]? = some k → kn[k]? = some n) ∧ (∀ n ∈ kn, n ∈ ps) ∧ ∀ n ∈ ps, n ∈ kn := by
  unfold kwsB at h
  simp only [Bool.and_eq_true, decide_eq_true_eq] at h
  obtain ⟨⟨⟨⟨h1, h2⟩, h3⟩, h4⟩, h5⟩ := h
  refine ⟨h1, h2, fun j n k hj hk => ?_, fun n hn => ?_, fun n hn => ?_⟩
  · have hlt : j < ps.length := by
      rcases Nat.lt_or_ge j ps.length with z | z
      · exact z
      · rw [List.getElem?_eq_none z] at hj; cases hj
    have := List.all_eq_true.mp h5 j (List.mem_range.mpr hlt)
    rw [hj, hk] at this
    exact of_decide_eq_true this
  · have := List.all_eq_true.mp h4 n hn
    exact List.contains_iff_mem.mp this
  · have := List.all_eq_true.mp h3 n hn
    exact List.contains_iff_mem.mp this
theorem blk_of (gd : Gd g P w base N n ct W X) {scope : Scope} {own : List (Str × Nat)} (h : L2.blkC N ct.sc scope own = true) : BlkOk X.N X.env.scope scope own := by
  rw [gd.N, gd.sc]; exact L2.blkOk_by h
mutual
theorem sE (wd : Wd tb g P w base n Φ) : ∀ (x : Ex) {ct : Ct} {e : Expr}, chkE tb N x ct e = true → ∀ {W : WX} {X : Cx}, Gd g P w base N n ct W X → TrE g W X e (tokX x) (ev Φ x)
  | .var i, ct, e, h, W, X, gd => by
    unfold chkE at h
    cases e with
    | Name x p =>
      have nx := gd.nam h
      exact ⟨u_var nx, u_slot nx, fun _ => ⟨u_truth gd.K (u_slot nx) (truth_of rfl), fun z => by cases z⟩⟩
    | _ => cases h
  | .con x d, ct, e, h, W, X, gd => by
    unfold chkE at h
    cases e with
    | Name y p =>
      simp only [Bool.and_eq_true] at h
      exact tri_of gd.K (u_con (gd.gl h.1.2) gd.mg (wd.con y d h.1.1) (eq_of_beq h.2)) rfl
    | _ => cases h
  | .gfn f, ct, e, h, W, X, gd => by
    unfold chkE at h
    cases e with
    | Name y p =>
      obtain ⟨a1, a2, a3, a4⟩ := fn_of wd gd h
      exact tri_of gd.K (u_gfn a1 a2 a3 a4) rfl
    | _ => cases h
  | .lit l, ct, e, h, W, X, gd => by
    unfold chkE at h
    cases e with
    | Constant c k p =>
      rw [const_eq h]
      exact tri_of gd.K u_lit rfl
    | _ => cases h
  | .tuple es, ct, e, h, W, X, gd => by
    unfold chkE at h
    cases e with
    | Tuple xs k p => exact tri_of gd.K (u_tuple (sEs wd es h gd).1) rfl
    | _ => cases h
  | .list es, ct, e, h, W, X, gd => by
    unfold chkE at h
    cases e with
    | List xs p => exact tri_of gd.K (u_list (sEs wd es h gd).1) rfl
    | _ => cases h
  | .neg a, ct, e, h, W, X, gd => by
    unfold chkE at h
    cases e with
    | UnaryOp op x p =>
      cases op <;> first | (cases h; done) | skip
      exact tri_of gd.K (u_neg (sE wd a h gd).1) rfl
    | _ => cases h
  | .not a, ct, e, h, W, X, gd => by
    unfold chkE at h
    cases e with
    | UnaryOp op x p =>
      cases op <;> first | (cases h; done) | skip
      have ih := sE wd a h gd
      exact ⟨u_not gd.K ih.1, pe_weak (u_not gd.K ih.1) fun _ _ _ => uv_ue, fun tk => ⟨u_notT (ih.2.2 tk).1, fun z => by cases z⟩⟩
    | _ => cases h
  | .and a b, ct, e, h, W, X, gd => by
    unfold chkE at h
    cases e with
    | BoolOp op vs pos =>
      cases op <;> first | (cases h; done) | skip
      match vs, h with
      | [], h => cases h
      | [_], h => cases h
      | [x, y], h =>
        simp only [Bool.and_eq_true] at h
        have ia := sE wd a h.1 gd
        have ib := sE wd b h.2 gd
        have o := u_and (pos := pos) gd.K ia.1 (u_one (op := .And) (pos := pos) ib.1)
        refine ⟨o, pe_weak o fun _ _ _ => uv_ue, fun tk => ?_⟩
        have tk : (tokX a && tokX b) = true := tk
        rw [Bool.and_eq_true] at tk
        have t := u_andT (pos := pos) (ia.2.2 tk.1).1 (L2.pw_and1 (pos := pos) (ib.2.2 tk.2).1)
        exact ⟨t.pt, fun _ => t⟩
      | x :: y :: z :: r, h =>
        simp only [Bool.and_eq_true] at h
        have ia := sE wd a h.1 gd
        have ib := sE wd b h.2 gd
        have o := u_and (pos := pos) gd.K ia.1 ib.1
        refine ⟨o, pe_weak o fun _ _ _ => uv_ue, fun tk => ?_⟩
        have tk : (tokX a && tokX b) = true := tk
        rw [Bool.and_eq_true] at tk
        have t := u_andT (pos := pos) (ia.2.2 tk.1).1 ((ib.2.2 tk.2).2 rfl)
        exact ⟨t.pt, fun _ => t⟩
    | _ => cases h
  | .or a b, ct, e, h, W, X, gd => by
    unfold chkE at h
    cases e with
    | BoolOp op vs pos =>
      cases op <;> first | (cases h; done) | skip
      match vs, h with
      | [], h => cases h
      | [_], h => cases h
      | [x, y], h =>
        simp only [Bool.and_eq_true] at h
        have ia := sE wd a h.1 gd
        have ib := sE wd b h.2 gd
        have o := u_or (pos := pos) gd.K ia.1 (u_one (op := .Or) (pos := pos) ib.1)
        refine ⟨o, pe_weak o fun _ _ _ => uv_ue, fun tk => ?_⟩
        have tk : (tokX a && tokX b) = true := tk
        rw [Bool.and_eq_true] at tk
        have t := u_orT (pos := pos) (ia.2.2 tk.1).1 (L2.pw_or1 (pos := pos) (ib.2.2 tk.2).1)
        exact ⟨t.pt, fun _ => t⟩
      | x :: y :: z :: r, h =>
        simp only [Bool.and_eq_true] at h
        have ia := sE wd a h.1 gd
        have ib := sE wd b h.2 gd
        have o := u_or (pos := pos) gd.K ia.1 ib.1
        refine ⟨o, pe_weak o fun _ _ _ => uv_ue, fun tk => ?_⟩
        have tk : (tokX a && tokX b) = true := tk
        rw [Bool.and_eq_true] at tk
        have t := u_orT (pos := pos) (ia.2.2 tk.1).1 ((ib.2.2 tk.2).2 rfl)
        exact ⟨t.pt, fun _ => t⟩
    | _ => cases h
  | .bin o a b, ct, e, h, W, X, gd => by
    unfold chkE at h
    cases e with
    | BinOp x op y p =>
      simp only [Bool.and_eq_true, decide_eq_true_eq] at h
      rw [h.1.1]
      exact tri_of gd.K (u_bin gd.K o (sE wd a h.1.2 gd).1 (sE wd b h.2 gd).1) rfl
    | _ => cases h
  | .cmp o a b, ct, e, h, W, X, gd => by
    unfold chkE at h
    split at h
    · rename_i x op y p
      simp only [Bool.and_eq_true, decide_eq_true_eq] at h
      obtain ⟨⟨⟨rfl, ha⟩, hb⟩, hq⟩ := h
      have ia := sE wd a ha gd
      have ib := sE wd b hb gd
      by_cases q : quiet b = true
      · obtain ⟨z, fx⟩ := quiet_fx (Φ := Φ) q
        have e1 := u_cmpQ (pos := p) gd.K gd.units o fx ia.2.1 ib.2.1 (marks_of hq)
        have e2 := u_cmpQT (pos := p) gd.K gd.units o fx ia.2.1 ib.2.1 (marks_of hq)
        have E : ev Φ (.cmp o a b) = ⟨do return .bl (← (do
            let x ← (ev Φ a).v
            let y ← (ev Φ b).v
            M.of (cmpSem o x y))), do return .bl (← (do
            let x ← (ev Φ a).v
            let y ← (ev Φ b).v
            M.of (cmpSem o x y))), do
            let x ← (ev Φ a).v
            let y ← (ev Φ b).v
            M.of (cmpSem o x y)⟩ := by
          rw [ev]; simp only [q, if_true]
        rw [E]
        exact ⟨e1, pe_weak e1 fun _ _ _ => uv_ue, fun _ => ⟨e2, fun z => by cases z⟩⟩
      · have e1 := u_cmp (pos := p) gd.K gd.units o ia.1 ib.2.1 (marks_of hq)
        have e2 := u_cmpT (pos := p) gd.K gd.units o ia.1 ib.2.1 (marks_of hq)
        have E : ev Φ (.cmp o a b) = ⟨do return .bl (← (do
            let x ← (ev Φ a).o
            let y ← (ev Φ b).v
            M.of (cmpSem o x y))), do return .bl (← (do
            let x ← (ev Φ a).o
            let y ← (ev Φ b).v
            M.of (cmpSem o x y))), do
            let x ← (ev Φ a).o
            let y ← (ev Φ b).v
            M.of (cmpSem o x y)⟩ := by
          rw [ev]; simp only [q]; rfl
        rw [E]
        exact ⟨e1, pe_weak e1 fun _ _ _ => uv_ue, fun _ => ⟨e2, fun z => by cases z⟩⟩
    · cases h
  | .isC a l, ct, e, h, W, X, gd => by
    unfold chkE at h
    split at h
    · rename_i x c k p1 p
      simp only [Bool.and_eq_true] at h
      rw [const_eq h.2]
      have ia := sE wd a h.1 gd
      have e1 := u_is (l := l) (j := k) (pos' := p1) (pos := p) ia.2.1
      exact ⟨e1, pe_weak e1 fun _ _ _ => uv_ue, fun _ => ⟨u_isT ia.2.1, fun z => by cases z⟩⟩
    · cases h
  | .notC a l, ct, e, h, W, X, gd => by
    unfold chkE at h
    split at h
    · rename_i x c k p1 p
      simp only [Bool.and_eq_true] at h
      rw [const_eq h.2]
      have ia := sE wd a h.1 gd
      have e1 := u_notIs (l := l) (j := k) (pos' := p1) (pos := p) ia.2.1
      exact ⟨e1, pe_weak e1 fun _ _ _ => uv_ue, fun _ => ⟨u_notIsT ia.2.1, fun z => by cases z⟩⟩
    · cases h
  | .chain o1 o2 a b c, ct, e, h, W, X, gd => by
    unfold chkE at h
    split at h
    · rename_i x p q y z pos
      simp only [Bool.and_eq_true, decide_eq_true_eq] at h
      obtain ⟨⟨⟨⟨⟨rfl, rfl⟩, ha⟩, hb⟩, hc⟩, hq⟩ := h
      have ia := sE wd a ha gd
      have ib := sE wd b hb gd
      have ic := sE wd c hc gd
      have e1 := u_chain (pos := pos) gd.K gd.units o1 o2 ia.1 ib.1 ic.1 (last2_of hq)
      exact ⟨e1, pe_weak e1 fun _ _ _ => uv_ue, fun _ => ⟨u_chainT gd.K gd.units o1 o2 ia.1 ib.1 ic.1 (last2_of hq), fun z => by cases z⟩⟩
    · cases h
  | .chain3 _ _ _ _ _ _ _, ct, e, h, W, X, gd => by unfold chkE at h; cases h
  | .ite c a b, ct, e, h, W, X, gd => by
    unfold chkE at h
    split at h
    · rename_i t x y pos
      simp only [Bool.and_eq_true] at h
      have e1 := u_ite (pos := pos) ((sE wd c h.1.1.2 gd).2.2 h.1.1.1).1 (sE wd a h.1.2 gd).1 (sE wd b h.2 gd).1
      exact ⟨e1, pe_weak e1 fun _ _ _ => uv_ue, fun tk => by cases tk⟩
    · cases h
  | .call f as, ct, e, h, W, X, gd => by
    unfold chkE at h
    split at h
    · rename_i x p xs pos
      simp only [Bool.and_eq_true] at h
      obtain ⟨a1, a2, a3, a4⟩ := fn_of wd gd h.1
      have c := gd.cal (wd.cal f a3)
      have ih := (sEs wd as h.2 gd).2.2.1
      cases xs with
      | nil =>
        cases as with
        | nil => exact tri_of gd.K (u_call0 gd.tk c gd.room a1 a2 a4) rfl
        | cons _ _ => have := h.2; unfold chkEs at this; cases this
      | cons y ys => exact tri_of gd.K (u_call gd.tk c gd.room a1 a2 ih (exqs_of h.2) a4) rfl
    · cases h
  | .calld f as dl, ct, e, h, W, X, gd => by
    unfold chkE at h
    split at h
    · rename_i x p y xs pos
      simp only [Bool.and_eq_true] at h
      obtain ⟨a1, a2, a3, a4⟩ := fn_of wd gd h.1.1
      have h2 := h.1.2
      cases ht : tb.fns f with
      | none => rw [ht] at h2; cases h2
      | some fn =>
        rw [ht] at h2
        have c := gd.cal (wd.cald f fn ht a3)
        rw [← lits_eq2 (lits_eq h2)] at c
        exact tri_of gd.K (u_calld gd.tk c gd.room a1 a2 (sEs wd as h.2 gd).2.2.1 (exqs_of h.2) a4) rfl
    · cases h
  | .callk f ks as, ct, e, h, W, X, gd => by
    unfold chkE at h
    split at h
    · rename_i x p kws pos
      simp only [Bool.and_eq_true] at h
      obtain ⟨⟨⟨hf, h2⟩, hs⟩, hc⟩ := h
      obtain ⟨a1, a2, a3, a4⟩ := fn_of wd gd hf
      cases ht : tb.fns f with
      | none => rw [ht] at h2; cases h2
      | some fn =>
        rw [ht] at h2
        simp only [Bool.and_eq_true] at h2
        obtain ⟨hd, hk⟩ := h2
        have hd : fn.dfl = [] := List.isEmpty_iff.mp hd
        have c := gd.calk (wd.calk f fn ht a3 hd)
        obtain ⟨k1, k2, k3, k4, k5⟩ := kws_ok hk
        have pk := (sEs wd as hc gd).2.2.2 kws rfl
        have hl : (kws.map fun k => k.value).length = (kws.filterMap fun k => k.arg).length := by
          rw [List.length_map, kws_len hs]
        rw [hl] at pk
        exact tri_of gd.K (u_callk gd.tk c gd.room a1 a2 pk a4 (back_kw1 hs) back_kw2 (back_kw3 hs) k1 k2 k3 k4 k5) rfl
    · cases h
  | .callv i as, ct, e, h, W, X, gd => by
    unfold chkE at h
    split at h
    · rename_i x p y xs pos
      simp only [Bool.and_eq_true] at h
      exact tri_of gd.K (u_callv gd.tk (Φ := Φ) (gd.nam h.1) (fun f hf => gd.cal (wd.cal f hf)) gd.room (sEs wd as h.2 gd).2.2.1 (exqs_of h.2)) rfl
    · cases h
  | .bi b as, ct, e, h, W, X, gd => by
    unfold chkE at h
    split at h
    · rename_i x p y xs pos
      simp only [Bool.and_eq_true, decide_eq_true_eq] at h
      obtain ⟨⟨rfl, hg⟩, hc⟩ := h
      exact tri_of gd.K (u_bi gd.K gd.calm b (gd.gl hg) (wd.fr gd (bi_free b)) (sEs wd as hc gd).2.1 (exqs_of hc)) rfl
    · cases h
  | .rangeL _, ct, e, h, W, X, gd => by unfold chkE at h; cases h
  | .isi a ts, ct, e, h, W, X, gd => by
    unfold chkE at h
    split at h
    · rename_i x p y t pos
      simp only [Bool.and_eq_true, decide_eq_true_eq] at h
      obtain ⟨⟨⟨⟨rfl, hg⟩, ha⟩, hq⟩, ht⟩ := h
      have ia := sE wd a ha gd
      have hm := wd.fr gd (x := "isinstance") (by decide)
      unfold chkTy at ht
      split at ht
      · rename_i t x p2
        simp only [Bool.and_eq_true, decide_eq_true_eq] at ht
        obtain ⟨rfl, h2⟩ := ht
        exact tri_of gd.K (u_isi1 gd.K (gd.gl hg) hm ⟨gd.gl h2, wd.fr gd (ty_free t)⟩ ia.2.1 hq) rfl
      · rename_i ts es k p2 _
        simp only [Bool.and_eq_true, decide_eq_true_eq] at ht
        obtain ⟨tp, rfl, rfl, h3⟩ := tys_of ht.2
        refine tri_of gd.K (u_isiN gd.K (gd.gl hg) hm (fun t m => ⟨gd.gl (h3 t m), wd.fr gd (ty_free t.1)⟩) ⟨by simpa using ht.1.1, fun z => ?_⟩ ia.2.1 hq) rfl
        subst z
        cases ht.1.2
      · cases ht
    · cases h
  | .sset _, ct, e, h, W, X, gd => by unfold chkE at h; cases h
  | .lset _, ct, e, h, W, X, gd => by unfold chkE at h; cases h
  | .idx a b, ct, e, h, W, X, gd => by
    unfold chkE at h
    cases e with
    | Subscript x y pos =>
      simp only [Bool.and_eq_true] at h
      obtain ⟨⟨ha, hb⟩, hq⟩ := h
      have ia := sE wd a ha gd
      have ib := sE wd b hb gd
      have pl := plainIx_of hq
      have fin : ∀ {v : M D}, PE X (.Subscript x y pos) (UV g W v) → (ev Φ (.idx a b)) = ⟨do
          let d ← v
          M.guard d.plain
          return d, v, do M.of (← v).truth⟩ → TrE g W X (.Subscript x y pos) (tokX (.idx a b)) (ev Φ (.idx a b)) := by
        intro v hv E
        rw [E]
        exact ⟨u_keepV hv, hv, fun _ => ⟨u_truth gd.K hv (truth_of rfl), fun z => by cases z⟩⟩
      cases a with
      | var i =>
        unfold chkE at ha
        cases x with
        | Name z p => exact fin (u_ixVar gd.K (gd.nam ha) ib.1 pl) rfl
        | _ => cases ha
      | idx a1 a2 =>
        by_cases q : still b = true
        · obtain ⟨te, s1, s2, s3, s4⟩ := still_of (Φ := Φ) wd gd q hb
          exact fin (u_ixS gd.K ia.2.1 s1 pl s2 s3 s4) (by rw [ev]; simp only [q])
        · have q : still b = false := by simpa using q
          exact fin (u_ixP gd.K ia.2.1 ib.1 pl) (by rw [ev]; simp only [q])
      | _ => exact fin (u_ixO gd.K ia.1 ib.1 pl) rfl
    | _ => cases h
  | .sl a lo hi, ct, e, h, W, X, gd => by
    unfold chkE at h
    split at h
    · rename_i x l h' p2 pos
      simp only [Bool.and_eq_true] at h
      obtain ⟨⟨ha, hb⟩, hc⟩ := h
      have ia := sE wd a ha gd
      have ib := sO wd lo hb gd
      have ic := sO wd hi hc gd
      cases a with
      | var i =>
        unfold chkE at ha
        cases x with
        | Name z p => exact tri_of gd.K (u_slVar gd.K (gd.nam ha) ib ic) rfl
        | _ => cases ha
      | _ => exact tri_of gd.K (u_slO gd.K ia.1 ib ic) rfl
    · cases h
  | .rev a, ct, e, h, W, X, gd => by
    unfold chkE at h
    split at h
    · simp only [Bool.and_eq_true, decide_eq_true_eq] at h
      obtain ⟨rfl, ha⟩ := h
      exact tri_of gd.K (u_rev gd.K (sE wd a ha gd).2.1) rfl
    · cases h
  | .meth m a as, ct, e, h, W, X, gd => by
    unfold chkE at h
    split at h
    · rename_i x n ap y ys pos
      simp only [Bool.and_eq_true, decide_eq_true_eq] at h
      obtain ⟨⟨⟨⟨⟨rfl, hl⟩, qa⟩, hn⟩, ha⟩, hb⟩ := h
      exact tri_of gd.K (u_index gd.K gd.units (sE wd a ha gd).1 (sEs wd as hb gd).2.1 hl qa (exqs_of hb) hn) rfl
    · cases h
  | .pop _ _ _, ct, e, h, W, X, gd => by unfold chkE at h; cases h
  | .comp x tg it c, ct, e, h, W, X, gd => by
    unfold chkE at h
    split at h
    · rename_i elt t i ifs scope pos
      simp only [Bool.and_eq_true, decide_eq_true_eq] at h
      obtain ⟨⟨⟨⟨⟨⟨hB, ho⟩, hq⟩, hI⟩, hT⟩, hC⟩, hE⟩ := h
      exact tri_of gd.K (u_comp gd.calm (by rw [gd.N]; exact gd.nd) (sIt wd it hI gd) (blk_of gd hB) ho (fun s H C cl fp => pg_of (gd.blk s H C cl fp) hT) (fun s H C cl fp => sC wd c hC (gd.blk s H C cl fp)) (fun s H C cl fp => (sE wd x hE (gd.blk s H C cl fp)).1) (fold_none hq)) rfl
    · cases h
  | .comp2 _ _ _ _ _ _ _, ct, e, h, W, X, gd => by unfold chkE at h; cases h
theorem sEs (wd : Wd tb g P w base n Φ) : ∀ (es : Exs) {ct : Ct} {xs : List Expr}, chkEs tb N es ct xs = true → ∀ {W : WX} {X : Cx}, Gd g P w base N n ct W X → PA X xs (UL g W (evs Φ es)) ∧ PA X xs (UVL g W (evVs Φ es)) ∧ PA X xs (UAr g W xs.length (evAs Φ es)) ∧ ∀ kws : List PySem.Keyword, kws.map (fun k => k.value) = xs → PK X kws (UAr g W xs.length (evAs Φ es))
  | .nil, ct, xs, h, W, X, gd => by
    unfold chkEs at h
    cases xs with
    | nil =>
      refine ⟨u_nil, u_vnil, u_anil, fun kws hk => ?_⟩
      cases kws with
      | nil => exact u_knil
      | cons _ _ => cases hk
    | cons _ _ => cases h
  | .cons x r, ct, xs, h, W, X, gd => by
    unfold chkEs at h
    cases xs with
    | nil => cases h
    | cons e es =>
      simp only [Bool.and_eq_true] at h
      obtain ⟨⟨hq, hx⟩, hr⟩ := h
      have ix := sE wd x hx gd
      have ir := sEs wd r hr gd
      refine ⟨u_cons ix.1 ir.1 (star_cons hq), ?_, ?_, ?_⟩
      · cases r with
        | nil =>
          cases es with
          | nil => exact u_vone ix.2.1 (star_cons hq)
          | cons _ _ => unfold chkEs at hr; cases hr
        | cons y r => exact u_vcons ix.1 ir.2.1 (star_cons hq)
      · cases x with
        | var i =>
          unfold chkE at hx
          cases e with
          | Name z p => exact u_avar (gd.nam hx) ir.2.2.1
          | _ => cases hx
        | _ => exact u_acons ix.1 ir.2.2.1 hq
      · intro kws hk
        cases kws with
        | nil => cases hk
        | cons k kws =>
          obtain ⟨nm, a, kp⟩ := k
          have hk : a :: kws.map (fun k => k.value) = e :: es := hk
          injection hk with h1 h2
          subst h1
          have rr := ir.2.2.2 kws h2
          cases x with
          | var i =>
            unfold chkE at hx
            cases a with
            | Name z p => exact u_kvar (gd.nam hx) rr
            | _ => cases hx
          | _ => exact u_kcons ix.1 rr
theorem sO (wd : Wd tb g P w base n Φ) : ∀ (o : Op) {ct : Ct} {oe : Option Expr}, chkO tb N o ct oe = true → ∀ {W : WX} {X : Cx}, Gd g P w base N n ct W X → PO X oe (UO g W (evO Φ o))
  | .none, ct, oe, h, W, X, gd => by
    unfold chkO at h
    cases oe with
    | none => exact u_partN
    | some _ => cases h
  | .some x, ct, oe, h, W, X, gd => by
    unfold chkO at h
    cases oe with
    | none => cases h
    | some e => exact u_partS (sE wd x h gd).1
theorem sC (wd : Wd tb g P w base n Φ) : ∀ (o : Op) {ct : Ct} {ifs : List Expr}, chkC tb N o ct ifs = true → ∀ {W : WX} {X : Cx}, Gd g P w base N n ct W X → PTs X ifs (UT g W (evC Φ o))
  | .none, ct, ifs, h, W, X, gd => by
    unfold chkC at h
    cases ifs with
    | nil => exact u_ifs0
    | cons _ _ => cases h
  | .some x, ct, ifs, h, W, X, gd => by
    unfold chkC at h
    match ifs, h with
    | [], h => cases h
    | [e], h =>
      simp only [Bool.and_eq_true] at h
      exact u_ifs1 ((sE wd x h.2 gd).2.2 h.1).1
    | _ :: _ :: _, h => cases h
theorem sIt (wd : Wd tb g P w base n Φ) : ∀ (it : It) {ct : Ct} {t i : Expr}, chkIt tb N it ct (isTup t) i = true → ∀ {W : WX} {X : Cx}, Gd g P w base N n ct W X → PI X t i (UI g W (evIt Φ it))
  | .plain x, ct, t, i, h, W, X, gd => by
    unfold chkIt at h
    exact u_itPlain gd.K (sE wd x h gd).1
  | .range1 a, ct, t, i, h, W, X, gd => by
    unfold chkIt at h
    split at h
    · rename_i x p y pos
      simp only [Bool.and_eq_true, decide_eq_true_eq] at h
      obtain ⟨⟨⟨rfl, hg⟩, hq⟩, ha⟩ := h
      exact u_itRange1 (gd.gl hg) (wd.fr gd (by decide)) (sE wd a ha gd).1 hq
    · cases h
  | .range2 a b, ct, t, i, h, W, X, gd => by
    unfold chkIt at h
    split at h
    · rename_i x p y z pos
      simp only [Bool.and_eq_true, decide_eq_true_eq] at h
      obtain ⟨⟨⟨⟨⟨rfl, hg⟩, hq⟩, hq2⟩, ha⟩, hb⟩ := h
      exact u_itRange2 (gd.gl hg) (wd.fr gd (by decide)) (sE wd a ha gd).1 (sE wd b hb gd).1 hq hq2
    · cases h
  | .range3 _ _ _, ct, t, i, h, W, X, gd => by unfold chkIt at h; cases h
  | .zip2 a b, ct, t, i, h, W, X, gd => by
    unfold chkIt at h
    split at h
    · rename_i x p y z pos
      simp only [Bool.and_eq_true, decide_eq_true_eq] at h
      obtain ⟨⟨⟨⟨⟨⟨ht, rfl⟩, hg⟩, hq⟩, hq2⟩, ha⟩, hb⟩ := h
      cases t with
      | Tuple _ _ _ => exact u_itZip gd.K (gd.gl hg) (wd.fr gd (by decide)) (sE wd a ha gd).1 (sE wd b hb gd).1 hq hq2
      | _ => cases ht
    · cases h
  | .enum a, ct, t, i, h, W, X, gd => by
    unfold chkIt at h
    split at h
    · rename_i x p y pos
      simp only [Bool.and_eq_true, decide_eq_true_eq] at h
      obtain ⟨⟨⟨⟨ht, rfl⟩, hg⟩, hq⟩, ha⟩ := h
      cases t with
      | Tuple _ _ _ => exact u_itEnum gd.K (gd.gl hg) (wd.fr gd (by decide)) (sE wd a ha gd).1 hq
      | _ => cases ht
    · cases h
end
end Py
end
section
/-! S8d: the checker of statements -/
namespace Py
open L2 (V Hp HO St TE TT TS TA TG TGs TI TO Ends VK XK WX SqL SqT Rd upd upd_same upd_ne PE PT PA PS PSs PG PGs PTs PI PW PO PK Cx R2 OpR CallR Sp FnOk Room Binds Vals Takes Inv EP BlkOk)
open PySem (compEnvC Scope Str Expr Stmt)
variable {g : G} {W : WX} {tb : Tb} {P : PySem.Program} {w : PySem.World} {base : PySem.Heap} {N : List Str} {n : Nat} {ct : Ct} {X : Cx} {Φ : Ora}
/-- a body's context -/
structure Gs (g : G) (P : PySem.Program) (w : PySem.World) (base : PySem.Heap) (N : List Str) (n : Nat) (ct : Ct) (W : WX) (X : Cx) : Prop extends Gd g P w base N n ct W X where
  stk : X.stack = X.env :: X.outer
  fr : X.env.frame = some X.env.locals
  po : PySem.PassesOwn (PySem.model X.prog X.w) X.A X.env X.xe
  kind : X.env.scope.kind = .function
theorem Gs.tr (gs : Gs g P w base N n ct W X) {W' : WX} {pn : List (PySem.Addr × PySem.Obj)} {xe : PySem.Value → PySem.Shared → Prop} (tk : Takes (X.tr pn xe) W') (po : PySem.PassesOwn (PySem.model X.prog X.w) X.A X.env xe) : Gs g P w base N n ct W' (X.tr pn xe) where
  nd := gs.nd
  room := gs.room
  K := gs.K
  mg := gs.mg
  P := gs.P
  w := gs.w
  base := gs.base
  N := gs.N
  sc := gs.sc
  fn := gs.fn
  calm := gs.calm
  tk := tk
  stk := gs.stk
  fr := gs.fr
  po := po
  kind := gs.kind
/-- no comprehension -/
def ncp : Expr → Bool
  | .ListComp _ _ _ _ => false
  | .SetComp _ _ _ _ => false
  | .DictComp _ _ _ _ _ => false
  | _ => true
theorem ncp_sw {a : Expr} {t : Option Expr} {l : Nat} {env : PySem.Env} (h : ncp a = true) : PySem.swapsWith a t l env = pure false := by
  cases a <;> first | (cases h; done) | rfl
theorem tup_sw {a : Expr} {ts : List Expr} {k : Nat} {p : PySem.Pos} {l : Nat} {env : PySem.Env} : PySem.swapsWithSole [.Tuple ts k p] a l env = pure false := by
  cases a <;> rfl
theorem sub_sw {a x y : Expr} {p : PySem.Pos} {l : Nat} {env : PySem.Env} : PySem.swapsWithSole [.Subscript x y p] a l env = pure false := by
  cases a <;> rfl
def ntp : Expr → Bool
  | .Tuple _ _ _ => false
  | _ => true
theorem ntp_sw {a : Expr} {ts : List Expr} {k : Nat} {p : PySem.Pos} {env : PySem.Env} (h : ntp a = true) : PySem.swappedStores [.Tuple ts k p] a env = pure none := by
  cases a <;> first | (cases h; done) | rfl
theorem sub_st {a x y : Expr} {p : PySem.Pos} {env : PySem.Env} : PySem.swappedStores [.Subscript x y p] a env = pure none := by
  cases a <;> rfl
def nsl : Expr → Bool
  | .Slice _ _ _ _ => false
  | _ => true
theorem nsl_as {o i : Expr} {p : PySem.Pos} {env : PySem.Env} (h : nsl i = true) (v : PySem.Value) : PySem.assign (.Subscript o i p) env v = (do
      let ov ← PySem.holding [v] (PySem.eval o env)
      let iv ← PySem.holding [v, ov] (PySem.eval i env)
      PySem.standAt p
      PySem.holding [v, ov, iv] (PySem.setItem ov iv v)
      PySem.release [v, ov, iv] []) := by
  cases i <;> first | (cases h; done) | (unfold PySem.assign; rfl)
def isComp : Ex → Bool
  | .comp _ _ _ _ => true
  | _ => false
def nameOf : Expr → Str
  | .Name x _ => x
  | _ => ""
def isStar : Expr → Bool
  | .Starred .. => true
  | _ => false
/-- the stores of a display into names, swapped -/
def swS (sc : Scope) (ts vs : List Expr) : Option (Option (List Str)) :=
  if !(ts.length == 2 || ts.length == 3) || vs.length != ts.length then some none
  else if vs.any isStar then some none
  else
    let line := (ts.head?.map (·.pos.line)).getD 0
    let names := ts.filterMap fun
      | .Name id pos => if sc.names.lookup id == some .local && pos.line == line then some id else none
      | _ => none
    if names.length != ts.length || names.eraseDups.length != names.length then some none
    else if vs.all (PySem.foldedForSure 8) then some none
    else if vs.all (PySem.constantsAlone 8) then none
    else some (some names)
theorem any_star {vs : List Expr} : (vs.any fun | .Starred .. => true | _ => false) = vs.any isStar := by
  have : (fun x : Expr => match x with | .Starred .. => true | _ => false) = isStar := by funext x; cases x <;> rfl
  rw [this]
theorem sw_is {ts vs : List Expr} {k k2 : Nat} {p p2 : PySem.Pos} {env : PySem.Env} (hk : env.scope.kind = .function) : ∀ r, swS env.scope ts vs = some r → PySem.swappedStores [.Tuple ts k p] (.Tuple vs k2 p2) env = pure r := by
  intro r h
  have hb : env.blockKind = .function := by unfold PySem.Env.blockKind; rw [hk]; rfl
  have hb2 : (env.blockKind != PySem.ScopeKind.function) = false := by rw [hb]; rfl
  unfold swS at h
  unfold PySem.swappedStores
  simp only [hb2, Bool.or_false]
  by_cases c1 : (!(ts.length == 2 || ts.length == 3) || vs.length != ts.length) = true
  · rw [if_pos c1] at h
    simp only [c1, if_true]
    cases h; rfl
  · rw [if_neg c1] at h
    simp only [c1]
    by_cases c2 : vs.any isStar = true
    · rw [if_pos c2] at h
      cases h
      rw [if_neg (by simp)]
      exact if_pos (any_star.trans c2)
    · rw [if_neg c2] at h
      rw [if_neg (by simp)]
      refine (if_neg fun z => c2 (any_star.symm.trans z)).trans ?_
      simp only [PySem.Env.kindOf]
      by_cases c3 : ((ts.filterMap fun
          | .Name id pos => if env.scope.names.lookup id == some .local && pos.line == (ts.head?.map (·.pos.line)).getD 0 then some id else none
          | _ => none).length != ts.length || (ts.filterMap fun
          | .Name id pos => if env.scope.names.lookup id == some .local && pos.line == (ts.head?.map (·.pos.line)).getD 0 then some id else none
          | _ => none).eraseDups.length != (ts.filterMap fun
          | .Name id pos => if env.scope.names.lookup id == some .local && pos.line == (ts.head?.map (·.pos.line)).getD 0 then some id else none
          | _ => none).length) = true
      · rw [if_pos c3] at h
        cases h
        exact if_pos c3
      · rw [if_neg c3] at h
        refine (if_neg c3).trans ?_
        by_cases c4 : vs.all (PySem.foldedForSure 8) = true
        · rw [if_pos c4] at h
          cases h
          exact if_pos c4
        · rw [if_neg c4] at h
          refine (if_neg c4).trans ?_
          by_cases c5 : vs.all (PySem.constantsAlone 8) = true
          · rw [if_pos c5] at h; cases h
          · rw [if_neg c5] at h
            cases h
            exact if_neg c5
def litRetB (tb : Tb) (N : List Str) (ct : Ct) (c : Xc) (i : Nat) (l l' : Lit) : PySem.ExceptHandler → Bool
  | .ExceptHandler (some (.Name x _)) (some n) [.Return (some (.IfExp (.Call (.Name f1 _) [.Name x2 _, .Name f3 _] [] _) (.Constant c1 _ _) (.Constant c2 _ _) _)) _] _ =>
    decide (x = xcName c) && glB ct.sc x && (decide (N[i]? = some n) && decide (ct.sc.names.lookup n = some .local)) && decide (f1 = ("isinstance" : Str)) && glB ct.sc f1 && decide (f3 = ("ValueError" : Str)) && glB ct.sc f3 && (decide (x2 = n) && okName n) && constB l c1 && constB l' c2
  | _ => false
def chkH (tb : Tb) (N : List Str) (st : List Nat) (ct : Ct) : Hds → List PySem.ExceptHandler → Bool
  | .nil, [] => true
  | .cons c i none (.iteYes l l') r, h :: hs => tb.xcs.contains c && decide (c ≠ .badtext) && st.contains i && litRetB tb N ct c i l l' h && chkH tb N st ct r hs
  | _, _ => false
mutual
def chkS (tb : Tb) (N : List Str) (st : List Nat) (np : Nat) : Sm → Ct → Stmt → Bool
  | .set i x, ct, s => (match s with
    | .Assign [.Name y p] a _ => nmB N ct i y && st.contains i && (ncp a || isComp x) && chkE tb N x ct a
    | _ => false)
  | .par is es, ct, s => (match s with
    | .Assign [.Tuple ts k p] (.Tuple vs _ _) _ => chkNs N ct is ts && (is.all fun i => st.contains i) && chkEs tb N es ct vs && (match swS ct.sc ts vs with
      | some none => decide (is.length ≤ 100)
      | some (some ns) => decide is.Nodup && (ts.all fun t => decide (ct.sc.names.lookup (nameOf t) = some .local)) && decide (ns = ts.map nameOf) && (ts.length == 2 || ts.length == 3) && decide (vs.length = ts.length)
      | none => false)
    | _ => false)
  | .unpack is x, ct, s => (match s with
    | .Assign [.Tuple ts k p] a _ => chkTg N ct (.tup is) (.Tuple ts k p) && (is.all fun i => st.contains i) && ntp a && chkE tb N x ct a
    | _ => false)
  | .setIx i ks k x, ct, s => (match ks, s with
    | .nil, .Assign [.Subscript (.Name y _) e _] a _ => namB N ct.sc i y && nsl e && chkE tb N k ct e && chkE tb N x ct a
    | _, _ => false)
  | .par2 _ _ _ _ _ _, _, _ => false
  | .aug i o x, ct, s => (match s with
    | .AugAssign (.Name y _) op a _ => nmB N ct i y && st.contains i && decide (op = bopOf o) && chkE tb N x ct a
    | _ => false)
  | .augIx _ _ _ _ _, _, _ => false
  | .append i ks x, ct, s => (match ks, s with
    | .nil, .Expr (.Call (.Attribute (.Name y _) m ap) [a] [] p') _ => decide (m = ("append" : Str)) && namB N ct.sc i y && exq a && (ap.endLine == p'.line) && chkE tb N x ct a
    | _, _ => false)
  | .extend i ks x, ct, s => (match ks, s with
    | .nil, .Expr (.Call (.Attribute (.Name y _) m ap) [a] [] p') _ => decide (m = ("extend" : Str)) && namB N ct.sc i y && exq a && (ap.endLine == p'.line) && chkE tb N x ct a
    | _, _ => false)
  | .expr x, ct, s => (match s with
    | .Expr a _ => ncp a && chkE tb N x ct a
    | _ => false)
  | .ite c a b, ct, s => (match s with
    | .If t sa sb _ => tokX c && chkE tb N c ct t && chkSs tb N st np a ct sa && chkSs tb N st np b ct sb
    | _ => false)
  | .loop tg it b, ct, s => (match s with
    | .For t i body [] _ => exq i && chkIt tb N it ct (isTup t) i && chkTg N ct tg t && (tg.slots.all fun i => st.contains i) && chkSs tb N st np b ct body
    | _ => false)
  | .while c b, ct, s => (match s with
    | .While t body [] _ => tokX c && chkE tb N c ct t && chkSs tb N st np b ct body
    | _ => false)
  | .ret x, ct, s => (match s with
    | .Return (some a) _ => chkE tb N x ct a
    | .Return none _ => (match x with
      | .lit .non => true
      | _ => false)
    | _ => false)
  | .raise c as, ct, s => (match as, s with
    | .nil, .Raise (some (.Call (.Name x _) [] [] _)) none _ => decide (x = xcName c) && glB ct.sc x && tb.xcs.contains c
    | _, _ => false)
  | .tryx b hs, ct, s => (match s with
    | .Try body (h :: hds) [] [] _ => chkSs tb N st np b ct body && chkH tb N st ct hs (h :: hds)
    | _ => false)
  | .pass, _, s => (match s with
    | .Pass _ => true
    | _ => false)
  | .brk, _, s => (match s with
    | .Break _ => true
    | _ => false)
  | .cont, _, s => (match s with
    | .Continue _ => true
    | _ => false)
def chkSs (tb : Tb) (N : List Str) (st : List Nat) (np : Nat) : Sms → Ct → List Stmt → Bool
  | .nil, _, ss => (match ss with
    | [] => true
    | _ => false)
  | .cons s r, ct, ss => (match ss with
    | t :: ts => chkS tb N st np s ct t && chkSs tb N st np r ct ts
    | _ => false)
end
end Py
end
section
/-! S8e: statements that the checker passes do what the interpreter tells -/
namespace Py
open L2 (V Hp HO St TE TT TS TA TG TGs TI TO Ends VK XK WX SqL SqT Rd upd upd_same upd_ne PE PT PA PS PSs PG PGs PTs PI PW PO PK Cx R2 OpR CallR Sp FnOk Room Binds Vals Takes Inv EP BlkOk)
open PySem (compEnvC Scope Str Expr Stmt)
variable {g : G} {W : WX} {tb : Tb} {P : PySem.Program} {w : PySem.World} {base : PySem.Heap} {N : List Str} {n : Nat} {ct : Ct} {X : Cx} {Φ : Ora} {st : List Nat} {np : Nat} {wh : M Bool → M Fl → M Fl}
theorem mem_of {i : Nat} (h : st.contains i = true) : i ∈ st := by simpa using h
theorem all_mem {is : List Nat} (h : (is.all fun i => st.contains i) = true) : ∀ i ∈ is, i ∈ st := fun i hi => mem_of (List.all_eq_true.mp h i hi)
theorem nam_hs (gs : Gs g P w base N n ct W X) {i : Nat} {x : Str} (h1 : N[i]? = some x) (h2 : ct.sc.names.lookup x = some .local) (h3 : okName x = true) : Nam X i x := by
  unfold okName at h3
  rw [Bool.and_eq_true] at h3
  exact ⟨by rw [gs.N]; exact h1, .inl (by rw [gs.sc]; exact h2), eq_of_beq h3.1, eq_of_beq h3.2⟩
/-- the clauses -/
theorem sH (wd : Wd tb g P w base n Φ) (gs : Gs g P w base N n ct W X) : ∀ {hs : Hds} {hds : List PySem.ExceptHandler}, chkH tb N st ct hs hds = true → ∃ cl, L2.HdsN X hds cl ∧ HdsP g st hs cl
  | .nil, [], _ => ⟨[], .nil, .nil⟩
  | .nil, _ :: _, h => by cases h
  | .cons c i ret v r, [], h => by cases ret <;> cases v <;> cases h
  | .cons c i ret v r, hd :: hds, h => by
    cases ret with
    | some _ => cases v <;> cases h
    | none =>
      cases v with
      | iteYes l l' =>
        have h : (tb.xcs.contains c && decide (c ≠ .badtext) && st.contains i && litRetB tb N ct c i l l' hd && chkH tb N st ct r hds) = true := h
        simp only [Bool.and_eq_true, decide_eq_true_eq] at h
        obtain ⟨⟨⟨⟨h1, h2⟩, h3⟩, h4⟩, h5⟩ := h
        obtain ⟨cl, k1, k2⟩ := sH wd gs h5
        have hx : g.xc c = true := wd.xin c (by simpa using h1)
        have xo := wd.xcs c hx
        unfold litRetB at h4
        split at h4
        · simp only [Bool.and_eq_true, decide_eq_true_eq] at h4
          obtain ⟨⟨⟨⟨⟨⟨⟨⟨⟨rfl, a2⟩, a3, a4⟩, rfl⟩, a6⟩, rfl⟩, a8⟩, rfl, a10⟩, a11⟩, a12⟩ := h4
          refine ⟨_, .cons ⟨gs.gl a2, by cases c <;> decide, .inl (by rw [gs.mg]; exact xo.gC)⟩ (by rw [gs.N]; exact a3) (by show X.env.scope.names.lookup _ = _; rw [gs.sc]; exact a4) (fun a oe cls d pn hz hv => ?_) k1, .cons hx h2 (mem_of h3) k2⟩
          rw [const_eq a11, const_eq a12]
          exact u_suite hz hv gs.K xo (gs.gl a6) (wd.fr gs.toGd (by decide)) (gs.gl a8) (wd.fr gs.toGd (by decide)) (nam_hs gs a3 a4 a10)
        · cases h4
      | _ => cases h
mutual
theorem sS (wd : Wd tb g P w base n Φ) (hw : ∀ c b e, wh c b e ≠ .bad → ∃ n, wh c b e = whileN c b n e) (hst : ∀ i ∈ st, i < N.length) : ∀ (s : Sm) {ct : Ct} {t : Stmt}, chkS tb N st np s ct t = true → ∀ {W : WX} {X : Cx}, Gs g P w base N n ct W X → PS X t (US g W st (evS Φ wh np s))
  | .set i x, ct, t, h, W, X, gs => by
    unfold chkS at h
    split at h
    · rename_i y p a pos
      simp only [Bool.and_eq_true] at h
      obtain ⟨⟨⟨h1, h2⟩, h3⟩, h4⟩ := h
      obtain ⟨n1, n2, n3⟩ := nm_of gs.toGd h1
      by_cases q : ncp a = true
      · exact u_set (by rw [gs.N]; exact gs.nd) n1 n2 n3 (mem_of h2) (sE wd x h4 gs.toGd).1 (ncp_sw q)
      · have q : ncp a = false := by simpa using q
        rw [q, Bool.false_or] at h3
        cases x <;> first | (cases h3; done) | skip
        rename_i ex tg it c
        have h5 := h4
        unfold chkE at h5
        split at h5
        · rename_i elt t i' ifs scope lpos _
          by_cases sw : swapB X.env.scope scope y p lpos = true
          · simp only [Bool.and_eq_true, decide_eq_true_eq] at h5
            obtain ⟨⟨⟨⟨⟨⟨hB, ho⟩, hq⟩, hI⟩, hT⟩, hC⟩, hE⟩ := h5
            have hl : X.env.scope.names.lookup y = some .local := by
              unfold swapB at sw
              rw [Bool.and_eq_true, Bool.and_eq_true] at sw
              exact eq_of_beq sw.1.1
            have hb := swap_is (elt := elt) (gs := [⟨t, i', ifs, 0⟩]) (scope := scope) (pos := lpos) (y := y) (py := p) (l := pos.line) gs.kind
            rw [sw] at hb
            exact u_setLc gs.calm (by rw [gs.N]; exact gs.nd) n1 hl (mem_of h2) hb (sIt wd it hI gs.toGd) (blk_of gs.toGd hB) ho (fun s H C cl fp => pg_of (gs.toGd.blk s H C cl fp) hT) (fun s H C cl fp => sC wd c hC (gs.toGd.blk s H C cl fp)) (fun s H C cl fp => (sE wd ex hE (gs.toGd.blk s H C cl fp)).1) (fold_none hq)
          · have sw : swapB X.env.scope scope y p lpos = false := by simpa using sw
            have hb := swap_is (elt := elt) (gs := [⟨t, i', ifs, 0⟩]) (scope := scope) (pos := lpos) (y := y) (py := p) (l := pos.line) gs.kind
            rw [sw] at hb
            exact u_set (by rw [gs.N]; exact gs.nd) n1 n2 n3 (mem_of h2) (sE wd _ h4 gs.toGd).1 hb
        · cases h5
    · cases h
  | .par is es, ct, t, h, W, X, gs => by
    unfold chkS at h
    split at h
    · rename_i ts k p vs k2 p2 pos
      simp only [Bool.and_eq_true] at h
      obtain ⟨⟨⟨h1, h2⟩, h3⟩, h4⟩ := h
      have hm := all_mem h2
      have pa := (sEs wd es h3 gs.toGd).1
      have key : ∀ r, swS ct.sc ts vs = some r → PySem.swappedStores [.Tuple ts k p] (.Tuple vs k2 p2) X.env = pure r := fun r hr => sw_is gs.kind r (by rw [gs.sc]; exact hr)
      cases hs : swS ct.sc ts vs with
      | none => rw [hs] at h4; cases h4
      | some o =>
        rw [hs] at h4
        have sw := key o hs
        cases o with
        | none =>
          have h4 := of_decide_eq_true h4
          exact u_parT (is := is) (pg_of gs.toGd (t := .tup is) (e := .Tuple ts k p) h1) pa tup_sw sw rfl hm h4
        | some ns =>
          simp only [Bool.and_eq_true, decide_eq_true_eq, Bool.or_eq_true] at h4
          obtain ⟨⟨⟨⟨hnd, hlo⟩, rfl⟩, hl⟩, hv⟩ := h4
          have hN : X.N.Nodup := by rw [gs.N]; exact gs.nd
          rcases hl with hl | hl
          · match ts, is, vs, h1, hnd, hlo, eq_of_beq hl, hv, hm, pa, sw with
            | [t1, t2], [i, j], [a, b], h1, hnd, hlo, _, _, hm, pa, sw =>
              have h1 : (nmE (nmB N ct i) t1 && (nmE (nmB N ct j) t2 && true)) = true := h1
              simp only [Bool.and_eq_true] at h1
              obtain ⟨z1, z2, _⟩ := h1
              simp only [List.all_cons, List.all_nil, Bool.and_true, Bool.and_eq_true, decide_eq_true_eq] at hlo
              cases t1 <;> first | (cases z1; done) | skip
              cases t2 <;> first | (cases z2; done) | skip
              have m1 := nm_of gs.toGd (show nmB N ct i _ = true from z1)
              have m2 := nm_of gs.toGd (show nmB N ct j _ = true from z2)
              have hij : i ≠ j := by simpa using hnd
              exact u_par2 gs.calm hN m1.1 m2.1 hij (by rw [gs.sc]; exact hlo.1) (by rw [gs.sc]; exact hlo.2) pa sw (hm i (by simp)) (hm j (by simp))
            | [_, _], [], _, h1, _, _, _, _, _, _, _ => cases h1
            | [_, _], [_], _, h1, _, _, _, _, _, _, _ => have h1 : (_ && (chkNs N ct [] [_])) = true := h1; rw [Bool.and_eq_true] at h1; cases h1.2
            | [_, _], _ :: _ :: _ :: _, _, h1, _, _, _, _, _, _, _ => have h1 : (_ && (_ && chkNs N ct (_ :: _) [])) = true := h1; simp only [Bool.and_eq_true] at h1; cases h1.2.2
            | [_, _], [_, _], [], _, _, _, _, hv, _, _, _ => cases hv
            | [_, _], [_, _], [_], _, _, _, _, hv, _, _, _ => cases hv
            | [_, _], [_, _], _ :: _ :: _ :: _, _, _, _, _, hv, _, _, _ => simp at hv
            | [], _, _, _, _, _, hl, _, _, _, _ => cases hl
            | [_], _, _, _, _, _, hl, _, _, _, _ => cases hl
            | _ :: _ :: _ :: _, _, _, _, _, _, hl, _, _, _, _ => simp at hl
          · match ts, is, vs, h1, hnd, hlo, eq_of_beq hl, hv, hm, pa, sw with
            | [t1, t2, t3], [i, j, l], [a, b, c], h1, hnd, hlo, _, _, hm, pa, sw =>
              have h1 : (nmE (nmB N ct i) t1 && (nmE (nmB N ct j) t2 && (nmE (nmB N ct l) t3 && true))) = true := h1
              simp only [Bool.and_eq_true] at h1
              obtain ⟨z1, z2, z3, _⟩ := h1
              simp only [List.all_cons, List.all_nil, Bool.and_true, Bool.and_eq_true, decide_eq_true_eq] at hlo
              cases t1 <;> first | (cases z1; done) | skip
              cases t2 <;> first | (cases z2; done) | skip
              cases t3 <;> first | (cases z3; done) | skip
              have m1 := nm_of gs.toGd (show nmB N ct i _ = true from z1)
              have m2 := nm_of gs.toGd (show nmB N ct j _ = true from z2)
              have m3 := nm_of gs.toGd (show nmB N ct l _ = true from z3)
              simp only [List.nodup_cons, List.mem_cons, List.not_mem_nil, or_false, not_or] at hnd
              exact u_par3 gs.calm hN m1.1 m2.1 m3.1 hnd.1.1 hnd.1.2 hnd.2.1 (by rw [gs.sc]; exact hlo.1) (by rw [gs.sc]; exact hlo.2.1) (by rw [gs.sc]; exact hlo.2.2) pa sw (hm i (by simp)) (hm j (by simp)) (hm l (by simp))
            | [_, _, _], [], _, h1, _, _, _, _, _, _, _ => cases h1
            | [_, _, _], [_], _, h1, _, _, _, _, _, _, _ => have h1 : (_ && (chkNs N ct [] (_ :: _))) = true := h1; rw [Bool.and_eq_true] at h1; cases h1.2
            | [_, _, _], [_, _], _, h1, _, _, _, _, _, _, _ => have h1 : (_ && (_ && chkNs N ct [] (_ :: _))) = true := h1; simp only [Bool.and_eq_true] at h1; cases h1.2.2
            | [_, _, _], _ :: _ :: _ :: _ :: _, _, h1, _, _, _, _, _, _, _ => have h1 : (_ && (_ && (_ && chkNs N ct (_ :: _) []))) = true := h1; simp only [Bool.and_eq_true] at h1; cases h1.2.2.2
            | [_, _, _], [_, _, _], [], _, _, _, _, hv, _, _, _ => cases hv
            | [_, _, _], [_, _, _], [_], _, _, _, _, hv, _, _, _ => cases hv
            | [_, _, _], [_, _, _], [_, _], _, _, _, _, hv, _, _, _ => cases hv
            | [_, _, _], [_, _, _], _ :: _ :: _ :: _ :: _, _, _, _, _, hv, _, _, _ => simp at hv
            | [], _, _, _, _, _, hl, _, _, _, _ => cases hl
            | [_], _, _, _, _, _, hl, _, _, _, _ => cases hl
            | [_, _], _, _, _, _, _, hl, _, _, _, _ => cases hl
            | _ :: _ :: _ :: _ :: _, _, _, _, _, _, hl, _, _, _, _ => simp at hl
    · cases h
  | .unpack is x, ct, t, h, W, X, gs => by
    unfold chkS at h
    split at h
    · rename_i ts k p a pos
      simp only [Bool.and_eq_true] at h
      obtain ⟨⟨⟨h1, h2⟩, h3⟩, h4⟩ := h
      exact u_unpack (is := is) (pg_of gs.toGd (t := .tup is) (e := .Tuple ts k p) h1) (sE wd x h4 gs.toGd).1 tup_sw (ntp_sw h3) rfl (all_mem h2)
    · cases h
  | .setIx i ks k x, ct, t, h, W, X, gs => by
    unfold chkS at h
    split at h
    · simp only [Bool.and_eq_true] at h
      obtain ⟨⟨⟨h1, h2⟩, h3⟩, h4⟩ := h
      exact u_setIx (gs.nam h1) (sE wd x h4 gs.toGd).1 (sE wd k h3 gs.toGd).1 sub_sw sub_st rfl (nsl_as h2)
    · cases h
  | .par2 _ _ _ _ _ _, ct, t, h, W, X, gs => by unfold chkS at h; cases h
  | .aug i o x, ct, t, h, W, X, gs => by
    unfold chkS at h
    split at h
    · simp only [Bool.and_eq_true, decide_eq_true_eq] at h
      obtain ⟨⟨⟨h1, h2⟩, rfl⟩, h4⟩ := h
      obtain ⟨n1, n2, n3⟩ := nm_of gs.toGd h1
      exact u_aug o (by rw [gs.N]; exact gs.nd) n1 n2 n3 (mem_of h2) (sE wd x h4 gs.toGd).1
    · cases h
  | .augIx _ _ _ _ _, ct, t, h, W, X, gs => by unfold chkS at h; cases h
  | .append i ks x, ct, t, h, W, X, gs => by
    unfold chkS at h
    split at h
    · simp only [Bool.and_eq_true, decide_eq_true_eq] at h
      obtain ⟨⟨⟨⟨rfl, h1⟩, h2⟩, h3⟩, h4⟩ := h
      exact u_append gs.K (gs.nam h1) (sE wd x h4 gs.toGd).1 h2 h3 (ncp_sw rfl)
    · cases h
  | .extend i ks x, ct, t, h, W, X, gs => by
    unfold chkS at h
    split at h
    · simp only [Bool.and_eq_true, decide_eq_true_eq] at h
      obtain ⟨⟨⟨⟨rfl, h1⟩, h2⟩, h3⟩, h4⟩ := h
      exact u_extend gs.K (gs.nam h1) (sE wd x h4 gs.toGd).1 h2 h3 (ncp_sw rfl)
    · cases h
  | .expr x, ct, t, h, W, X, gs => by
    unfold chkS at h
    split at h
    · simp only [Bool.and_eq_true] at h
      exact u_expr (sE wd x h.2 gs.toGd).1 (ncp_sw h.1)
    · cases h
  | .ite c a b, ct, t, h, W, X, gs => by
    unfold chkS at h
    split at h
    · simp only [Bool.and_eq_true] at h
      obtain ⟨⟨⟨h1, h2⟩, h3⟩, h4⟩ := h
      exact u_if ((sE wd c h2 gs.toGd).2.2 h1).1 (sSs wd hw hst a h3 gs) (sSs wd hw hst b h4 gs)
    · cases h
  | .loop tg it b, ct, t, h, W, X, gs => by
    unfold chkS at h
    split at h
    · simp only [Bool.and_eq_true] at h
      obtain ⟨⟨⟨⟨h1, h2⟩, h3⟩, h4⟩, h5⟩ := h
      exact u_for gs.calm gs.po (sIt wd it h2 gs.toGd) (pg_of gs.toGd h3) (sSs wd hw hst b h5 gs) (fold_none h1) (all_mem h4)
    · cases h
  | .while c b, ct, t, h, W, X, gs => by
    unfold chkS at h
    split at h
    · simp only [Bool.and_eq_true] at h
      obtain ⟨⟨h1, h2⟩, h3⟩ := h
      exact u_while hw gs.po ((sE wd c h2 gs.toGd).2.2 h1).1 (sSs wd hw hst b h3 gs)
    · cases h
  | .ret x, ct, t, h, W, X, gs => by
    unfold chkS at h
    split at h
    · rename_i a pos
      cases x with
      | var i =>
        by_cases q : i < np
        · have E : evS Φ wh np (.ret (.var i)) = do return .rt (← evE Φ (.var i)) := by
            show (do return Fl.rt (← (if i < np then evE Φ (.var i) else _))) = _
            rw [if_pos q]
          rw [E]
          exact u_ret (sE wd _ h gs.toGd).1
        · have E : evS Φ wh np (.ret (.var i)) = do return .rt (← (do
              let d ← getSlot i
              (fun e => .ok d (e.set i none)) : M Py.D)) := by
            show (do return Fl.rt (← (if i < np then evE Φ (.var i) else _))) = _
            rw [if_neg q]
          rw [E]
          unfold chkE at h
          cases a with
          | Name z p => exact u_retVar (gs.nam h)
          | _ => cases h
      | _ => exact u_ret (sE wd _ h gs.toGd).1
    · split at h
      · exact u_retN
      · cases h
    · cases h
  | .raise c as, ct, t, h, W, X, gs => by
    unfold chkS at h
    split at h
    · simp only [Bool.and_eq_true, decide_eq_true_eq] at h
      obtain ⟨⟨rfl, h1⟩, h2⟩ := h
      have hx : g.xc c = true := wd.xin c (by simpa using h2)
      exact u_raise gs.K gs.mg gs.calm gs.tk (wd.xcs c hx) hx (gs.gl h1)
    · cases h
  | .tryx b hs, ct, t, h, W, X, gs => by
    unfold chkS at h
    split at h
    · rename_i body hd hds pos
      simp only [Bool.and_eq_true] at h
      obtain ⟨cl, k1, k2⟩ := sH wd gs h.2
      exact u_try gs.K gs.stk gs.fr (by rw [gs.N]; exact gs.nd) gs.tk wd.xap wd.xcs (fun W' pn xe tk po => sSs wd hw hst b h.1 (gs.tr tk po)) k1 k2 (by rw [gs.N]; exact hst)
    · cases h
  | .pass, ct, t, h, W, X, gs => by
    unfold chkS at h
    split at h
    · exact u_pass
    · cases h
  | .brk, ct, t, h, W, X, gs => by
    unfold chkS at h
    split at h
    · exact u_brk
    · cases h
  | .cont, ct, t, h, W, X, gs => by
    unfold chkS at h
    split at h
    · exact u_cont
    · cases h
theorem sSs (wd : Wd tb g P w base n Φ) (hw : ∀ c b e, wh c b e ≠ .bad → ∃ n, wh c b e = whileN c b n e) (hst : ∀ i ∈ st, i < N.length) : ∀ (ss : Sms) {ct : Ct} {ts : List Stmt}, chkSs tb N st np ss ct ts = true → ∀ {W : WX} {X : Cx}, Gs g P w base N n ct W X → PSs X ts (US g W st (evSs Φ wh np ss))
  | .nil, ct, ts, h, W, X, gs => by
    unfold chkSs at h
    cases ts with
    | nil => exact u_skip
    | cons _ _ => cases h
  | .cons s r, ct, ts, h, W, X, gs => by
    unfold chkSs at h
    cases ts with
    | nil => cases h
    | cons t ts =>
      simp only [Bool.and_eq_true] at h
      exact u_seq (sS wd hw hst s h.1 gs) (sSs wd hw hst r h.2 gs)
end
end Py
end
section
/-! S8f: defs keep the interpreter's promise, at every level -/
namespace Py
open L2 (V Hp HO St TE TT TS TA TG TGs TI TO Ends VK XK WX SqL SqT Rd upd upd_same upd_ne PE PT PA PS PSs PG PGs PTs PI PW PO PK Cx R2 OpR CallR Sp FnOk Room Binds Vals Takes Inv EP BlkOk FunD FnScope)
open PySem (compEnvC Scope Str Expr Stmt)
/-! ### arguments by places -/
theorem lookup_zip : ∀ {ns : List Str} {us : List PySem.Value}, ns.Nodup → us.length = ns.length → (ns.filterMap fun n => ((ns.zip us).lookup n).map (n, ·)) = ns.zip us
  | [], [], _, _ => rfl
  | [], _ :: _, _, h => by cases h
  | _ :: _, [], _, h => by cases h
  | n :: ns, u :: us, hn, hl => by
    rw [List.nodup_cons] at hn
    rw [List.zip_cons_cons, List.filterMap_cons, List.lookup_cons, beq_self_eq_true]
    show (n, u) :: _ = (n, u) :: _
    congr 1
    have this : ∀ m ∈ ns, ((n, u) :: ns.zip us).lookup m = (ns.zip us).lookup m := fun m hm => by
      have ne : m ≠ n := fun e => hn.1 (e ▸ hm)
      rw [List.lookup_cons, beq_eq_false_iff_ne.mpr ne]
    have fm : ∀ (l : List Str), (∀ m ∈ l, m ∈ ns) → (l.filterMap fun m => (((n, u) :: ns.zip us).lookup m).map (m, ·)) = l.filterMap fun m => ((ns.zip us).lookup m).map (m, ·) := by
      intro l
      induction l with
      | nil => intro _; rfl
      | cons a l ih =>
        intro h
        rw [List.filterMap_cons, List.filterMap_cons, this a (h a (by simp)), ih fun m hm => h m (List.mem_cons_of_mem _ hm)]
    exact (fm ns fun m hm => hm).trans (lookup_zip hn.2 (by simpa using hl))
theorem lookup_some : ∀ {ns : List Str} {us : List PySem.Value} {n : Str}, us.length = ns.length → n ∈ ns → ((ns.zip us).lookup n).isSome = true
  | [], _, _, _, h => by cases h
  | _ :: _, [], _, hl, _ => by cases hl
  | m :: ns, u :: us, n, hl, h => by
    rw [List.zip_cons_cons, List.lookup_cons]
    by_cases e : n = m
    · rw [e, beq_self_eq_true]; rfl
    · rw [beq_eq_false_iff_ne.mpr e]
      exact lookup_some (by simpa using hl) ((List.mem_cons.mp h).resolve_left e)
theorem bind_pos {fd : PySem.FuncData} {ns : List Str} (hp : fd.params.posonlyargs = []) (ha : fd.params.args.map (·.arg) = ns) (hv : fd.params.vararg = none) (hk : fd.params.kwonlyargs = []) (hkw : fd.params.kwarg = none) (hd : fd.defaults = .none) (hn : ns.Nodup) {us : List PySem.Value} (hl : us.length = ns.length) : PySem.bindArgs fd ⟨us, []⟩ = pure (ns.zip us) := by
  unfold PySem.bindArgs
  simp only [hp, ha, hv, hk, hkw, hd, List.map_nil, List.nil_append, List.append_nil]
  rw [List.forIn_nil, pure_bind_S, show PySem.seqItems? PySem.Value.none = pure none from rfl, pure_bind_S]
  have hm : List.filter (fun n => (List.lookup n (ns.zip us)).isNone) ns = [] := by
    rw [List.filter_eq_nil_iff]
    intro n hn
    have := lookup_some hl hn
    cases h : List.lookup n (ns.zip us) with
    | none => rw [h] at this; cases this
    | some v => simp
  have h2 : ((none : Option (Array PySem.Value)).getD #[]).toList = [] := rfl
  have h3 : ∀ s0 : List (Str × PySem.Value), (ns.zip us, s0).1 = ns.zip us := fun _ => rfl
  simp only [h2, List.drop_nil, List.length_nil, Nat.sub_zero, List.take_length, List.drop_length, List.zip_nil_right, h3, hm, List.isEmpty_nil, Bool.not_true]
  rw [if_neg (by simp [hl]), if_neg Bool.false_ne_true]
  exact congrArg (pure (f := PySem.Sem)) (lookup_zip hn hl)
/-! ### a def's body -/
variable {g : G} {H H0 H1 H2 H' : Hp} {F F0 F1 F2 F' : AS} {S S0 S1 S2 S' Se Se' Sv T : AS} {σ σ0 σ1 σ' : St} {e e' e1 : Env}
variable {W : WX} {tb : Tb} {P : PySem.Program} {w : PySem.World} {base : PySem.Heap} {N : List Str} {n : Nat} {ct : Ct} {X : Cx} {Φ : Ora} {st : List Nat} {np : Nat} {wh : M Bool → M Fl → M Fl}
theorem reps_T : ∀ {ds : List D} {vs : List V} {S : AS}, Reps g H F vs ds S → ∃ T : Nat → AS, (∀ (i : Nat) (d : D), ds[i]? = some d → ∃ v, vs[i]? = some v ∧ Rep g H F v d (T i)) ∧ (∀ i a, T i a → S a) ∧ ∀ i j a, T i a → T j a → i = j
  | [], vs, S, h => ⟨fun _ => none_, fun i d h => by simp at h, fun _ _ z => z.elim, fun _ _ _ z => z.elim⟩
  | d :: ds, _, S, h => by
    obtain ⟨v, r, S1, S2, rfl, h1, h2, h3, p, q⟩ := h
    obtain ⟨T, a, b, c⟩ := reps_T q
    refine ⟨fun i => match i with
      | 0 => S1
      | i + 1 => T i, fun i d' h => ?_, fun i x z => ?_, fun i j x z w => ?_⟩
    · cases i with
      | zero => cases (show d = d' by simpa using h); exact ⟨v, rfl, p⟩
      | succ i =>
        obtain ⟨v', h1, h2⟩ := a i d' (by simpa using h)
        exact ⟨v', by simpa using h1, h2⟩
    · cases i with
      | zero => exact h1 x z
      | succ i => exact h2 x (b i x z)
    · cases i with
      | zero =>
        cases j with
        | zero => rfl
        | succ j => exact (h3 x z (b j x w)).elim
      | succ i =>
        cases j with
        | zero => exact (h3 x w (b i x z)).elim
        | succ j => rw [c i j x z w]
/-- the entry -/
theorem ma_start {ds : List D} {vs : List V} (r : Reps g H F vs ds S) {k m : Nat} (hk : k ≤ m) : Ma g H F (ds.map some ++ List.replicate k none) (vs.map some ++ List.replicate m none) S := by
  obtain ⟨T, a, b, c⟩ := reps_T r
  have l := r.length
  refine ⟨T, fun i d h => ?_, b, c, by simp; omega⟩
  by_cases hi : i < ds.length
  · rw [List.getElem?_append_left (by simpa using hi), List.getElem?_map] at h
    cases hd : ds[i]? with
    | none => rw [hd] at h; cases h
    | some d' =>
      rw [hd] at h
      cases h
      obtain ⟨v, h1, h2⟩ := a i d hd
      exact ⟨v, by rw [List.getElem?_append_left (by simpa [l] using hi), List.getElem?_map, h1]; rfl, h2⟩
  · rw [List.getElem?_append_right (by simpa using hi), List.getElem?_replicate] at h
    split at h <;> cases h
/-- the arguments behind the body -/
theorem back_ok {T : Nat → AS} (a : ∀ (i : Nat) (d : D), e[i]? = some (some d) → ∃ v, σ[i]? = some (some v) ∧ Rep g H' F' v d (T i)) (c : ∀ i j x, T i x → T j x → i = j) (lt : Later H F H' F') : ∀ {ds : List D} {vs : List V} {S : AS} {k : Nat} {ds' : List D}, Reps g H F vs ds S → okArgs st k ds = true → (∀ (j : Nat) (v : V), vs[j]? = some v → k + j ∉ st → σ[k + j]? = some (some v)) → backArgs k ds e = some ds' → Reps g H' F' vs ds' (fun x => ∃ j, k ≤ j ∧ T j x)
  | [], vs, S, k, ds', r, ok, hv, hb => by
    cases hb
    exact r
  | d :: ds, _, S, k, ds', r, ok, hv, hb => by
    obtain ⟨v, vr, S1, S2, rfl, h1, h2, h3, p, q⟩ := r
    have ok : ((d.plain || !st.contains k) && okArgs st (k + 1) ds) = true := ok
    rw [Bool.and_eq_true] at ok
    have hv' : ∀ (j : Nat) (v : V), vr[j]? = some v → k + 1 + j ∉ st → σ[k + 1 + j]? = some (some v) := fun j v h => by
      have := hv (j + 1) v (by simpa using h)
      rw [show k + (j + 1) = k + 1 + j by omega] at this
      exact this
    have hb : (if d.plain then (backArgs (k + 1) ds e).map (d :: ·) else match e[k]?, backArgs (k + 1) ds e with
      | some (some x), some r => some (x :: r)
      | _, _ => none) = some ds' := hb
    by_cases hp : d.plain = true
    · rw [if_pos hp] at hb
      obtain ⟨r, hr, rfl⟩ := Option.map_eq_some_iff.mp hb
      exact Reps.cons (P1 := none_) (P2 := fun x => ∃ j, k + 1 ≤ j ∧ T j x) (fun _ z => z.elim) (fun x ⟨j, h, z⟩ => ⟨j, by omega, z⟩) (fun _ z => z.elim) ((p.plain hp).later lt) (back_ok a c lt q ok.2 hv' hr)
    · rw [if_neg hp] at hb
      have hk : k ∉ st := by
        have := ok.1
        rw [show d.plain = false by simpa using hp] at this
        simpa using this
      cases he : e[k]? with
      | none => rw [he] at hb; cases hb
      | some o =>
        cases o with
        | none => rw [he] at hb; cases hb
        | some x =>
          cases hr : backArgs (k + 1) ds e with
          | none => rw [he, hr] at hb; cases hb
          | some r =>
            rw [he, hr] at hb
            cases hb
            obtain ⟨v', hv2, rx⟩ := a k x he
            have hv1 := hv 0 v rfl (by simpa using hk)
            rw [Nat.add_zero] at hv1
            rw [hv1] at hv2
            cases hv2
            exact Reps.cons (P1 := T k) (P2 := fun x => ∃ j, k + 1 ≤ j ∧ T j x) (fun x z => ⟨k, Nat.le_refl _, z⟩) (fun x ⟨j, h, z⟩ => ⟨j, by omega, z⟩) (fun x z ⟨j, h, w⟩ => by have := c k j x z w; omega) rx (back_ok a c lt q ok.2 hv' hr)
theorem back_ma {ds ds' : List D} {vs : List V} (r : Reps g H F vs ds S) (o : Own S H F) {Sx : AS} (x : Aft S H F Sx H' F') (m : Ma g H' F' e σ Se) (q : Eqs st (vs.map some ++ List.replicate np none) σ) (ok : okArgs st 0 ds = true) (hb : backArgs 0 ds e = some ds') : Reps g H' F' vs ds' Se := by
  obtain ⟨T, a, b, c, l⟩ := m
  have h := back_ok a c (x.later o) r ok (fun j v hv hj => ?_) hb
  · exact h.mono fun x ⟨j, _, z⟩ => b j x z
  · rw [Nat.zero_add] at hj ⊢
    rw [q.2 j hj, List.getElem?_append_left (by rw [List.length_map]; exact (List.getElem?_eq_some_iff.mp hv).1), List.getElem?_map, hv]
    rfl
theorem fr_back {o : Option (List D)} {f : List D → FR} {r : FR} (h : FR.back o f = r) (nb : r ≠ .bad) : ∃ ds, o = some ds ∧ f ds = r := by
  cases o with
  | none => exact absurd h.symm nb
  | some ds => exact ⟨ds, rfl, h⟩
/-- what the body asks follows from what the def promises -/
theorem body_ok {Φ : Ora} {fn : Fn} {vs : List V} {Q : VK} {E : XK} {H : Hp} (hnp : fn.np ≤ fn.names.length) (sp : SpF g (runFn Φ wh fn) vs H Q E) : vs.length = fn.np ∧ US g (fun cls d _ H => E cls d H) fn.body.stores (evSs Φ wh fn.np fn.body) { nx := fun _ H' => Q .non H', rt := Q } (vs.map some ++ List.replicate (fn.names.length - vs.length) none) H := by
  obtain ⟨ds, F, S, o, r, k⟩ := sp
  have l := r.length
  unfold runFn at k
  by_cases c : ds.length = fn.np ∧ okArgs fn.body.stores 0 ds = true
  · rw [if_pos c] at k
    refine ⟨by rw [l]; exact c.1, ds.map some ++ List.replicate (fn.names.length - fn.np) none, F, S, o, ma_start r (by rw [l, c.1]; exact Nat.le_refl _), ?_⟩
    cases hm : evSs Φ wh fn.np fn.body (ds.map some ++ List.replicate (fn.names.length - fn.np) none) with
    | bad => rw [hm] at k; exact k.elim
    | exc cc ps e1 =>
      rw [hm] at k
      intro σ' dd H' F' S' x m q xp
      cases hb : backArgs 0 ds e1 with
      | none => simp only [hb, FR.back] at k
      | some ds' =>
        simp only [hb, FR.back] at k
        exact k dd H' F' S' x (back_ma r o x m q c.2 hb) xp
    | ok fl e1 =>
      rw [hm] at k
      cases fl with
      | nx =>
        intro σ' H' F' Se Sv x dj m q
        cases hb : backArgs 0 ds e1 with
        | none => simp only [hb, FR.back] at k
        | some ds' =>
          simp only [hb, FR.back] at k
          exact k .non H' F' Se Sv x dj (back_ma r o x m q c.2 hb) rfl
      | rt d =>
        intro σ' H' F' Se Sv x dj m q v rv
        cases hb : backArgs 0 ds e1 with
        | none => simp only [hb, FR.back] at k
        | some ds' =>
          simp only [hb, FR.back] at k
          exact k v H' F' Se Sv x dj (back_ma r o x m q c.2 hb) rv
      | bk => exact k.elim
      | ct => exact k.elim
  · rw [if_neg c] at k
    exact k.elim
/-- a def of the text, checked -/
theorem fn_ok (wd : Wd tb g P w base n Φ) (hw : ∀ c b e, wh c b e ≠ .bad → ∃ n, wh c b e = whileN c b n e) {fn : Fn} {x qual : Str} {params : PySem.Arguments} {body : List Stmt} {scope : Scope} {dvs : List V} {f : PySem.Addr} {fd : PySem.FuncData} (Fd : FunD g.K x qual params body scope dvs [] f fd) (hN : N = fn.names.map PySem.Str.ofString) (Sc : FnScope N (N.take fn.np) scope) (hnp : fn.np ≤ N.length)
    (hst : ∀ i ∈ fn.body.stores, i < N.length) (hc : chkSs tb N fn.body.stores fn.np fn.body ⟨scope, fun _ => true⟩ body = true) : FnOk P w g.K g.mg base (L2.CX P w) (n + 1) f fd (N.take fn.np) (SpF g (runFn Φ wh fn)) := by
  have hl : fn.names.length = N.length := by rw [hN, List.length_map]
  refine Fd.ok Sc (fun vs H Q E sp => ?_) fun cdv A outer s H vs Q E hr sp => ?_
  · rw [List.length_take, Nat.min_eq_left hnp]
    exact (body_ok (by omega) sp).1
  · obtain ⟨lv, us⟩ := body_ok (by omega) sp
    refine ⟨_, sSs wd hw hst fn.body hc (W := fun cls d _ H => E cls d H) ?_, ?_⟩
    · exact { nd := Sc.nd, room := hr, K := rfl, mg := rfl, P := rfl, w := rfl, base := rfl, N := rfl, sc := rfl, fn := fun _ _ => rfl, calm := rfl, tk := L2.takes_of rfl rfl rfl rfl, stk := rfl, fr := rfl, po := L2.passes_of rfl, kind := Sc.kind }
    · have e : L2.start N vs = vs.map some ++ List.replicate (fn.names.length - vs.length) none := by rw [hl]; rfl
      rw [e]
      exact us
end Py
end
section
/-! S8g: the whole program: rows, facts, every level -/
namespace Py
open L2 (V Hp HO St TE TT TS TA TG TGs TI TO Ends VK XK WX SqL SqT Rd upd upd_same upd_ne PE PT PA PS PSs PG PGs PTs PI PW PO PK Cx R2 OpR CallR Sp FnOk Room Binds Vals Takes Inv EP BlkOk FunD FnScope)
open PySem (compEnvC Scope Str Expr Stmt)
/-- a def of the text -/
structure Row where
  id : Nat
  name : Str
  fn : Fn
  st : Stmt
def Row.N (r : Row) : List Str := r.fn.names.map Str.ofString
def Row.ps (r : Row) : List Str := r.N.take r.fn.np
def look (rows : List Row) (f : Nat) : Option Row := rows.find? fun r => r.id == f
def tabT (rows : List Row) : Nat → Option Fn := fun f => (look rows f).map (·.fn)
def tbOf (rows : List Row) (cons : List (Str × D)) (xcs : List Xc) : Tb := ⟨fun f => (look rows f).map (·.name), fun f => (look rows f).map (·.fn), cons, xcs⟩
def gOf (K : PySem.W.Frag) (mg : Str → Option PySem.Value) (rows : List Row) (xcs : List Xc) : G := ⟨K, mg, fun f => match look rows f with
  | some r => He.ga K r.name
  | none => 0, fun f => (look rows f).isSome, fun c => xcs.contains c, fun c => He.ga K (xcName c)⟩
def litDv : Lit → He.Dv
  | .non => .non
  | .bl b => .bl b
  | .int i => .int i
  | .str s => .str ⟨s.toArray⟩
def Row.dvs (K : PySem.W.Frag) (r : Row) : List V := (r.fn.dfl.map litDv).map (He.Dv.v K)
abbrev Row.Fd (K : PySem.W.Frag) (r : Row) (fd : PySem.FuncData) : Prop := FunD K r.name r.name (L2.defArgs r.st) (L2.defBody r.st) (L2.defScope r.st) (r.dvs K) [] (He.ga K r.name) fd
def scB (N P : List Str) (sc : Scope) : Bool := decide (sc.kind = .function) && sc.isCoroutine == false && sc.isGenerator == false && decide N.Nodup && decide (N.take P.length = P) && (P.all fun x => decide (sc.names.lookup x = some .local) || decide (sc.names.lookup x = some .cell)) && (sc.names.all fun y => decide (y.2 ≠ .free))
theorem sc_of {N P : List Str} {sc : Scope} (h : scB N P sc = true) : FnScope N P sc := by
  unfold scB at h
  simp only [Bool.and_eq_true, List.all_eq_true, decide_eq_true_eq, Bool.or_eq_true] at h
  obtain ⟨⟨⟨⟨⟨⟨h1, h2⟩, h3⟩, h4⟩, h5⟩, h6⟩, h7⟩ := h
  exact ⟨h1, eq_of_beq h2, eq_of_beq h3, h4, h5, h6, h7⟩
def argB (a : PySem.Arguments) (ps : List Str) : Bool := a.posonlyargs.isEmpty && decide (a.args.map (·.arg) = ps) && a.vararg.isNone && a.kwonlyargs.isEmpty && a.kwarg.isNone
def Row.ok (tb : Tb) (r : Row) : Bool := argB (L2.defArgs r.st) r.ps && scB r.N r.ps (L2.defScope r.st) && decide (r.fn.np ≤ r.N.length) && (r.fn.body.stores.all fun i => decide (i < r.N.length)) && chkSs tb r.N r.fn.body.stores r.fn.np r.fn.body ⟨L2.defScope r.st, fun _ => true⟩ (L2.defBody r.st)
/-- what the head tells -/
structure Facts (rows : List Row) (cons : List (Str × D)) (xcs : List Xc) (K : PySem.W.Frag) (mg : Str → Option PySem.Value) : Prop where
  def_ : ∀ r ∈ rows, ∃ fd, r.Fd K fd
  glo : ∀ r ∈ rows, mg r.name = some (.ref (He.ga K r.name))
  free : ∀ x ∈ frees, mg x = none
  con : ∀ p ∈ cons, ConOk (gOf K mg rows xcs) p.1 p.2
  xok : ∀ c ∈ xcs, XcOk (gOf K mg rows xcs) c
  xap : XcApart (gOf K mg rows xcs)
  ok : ∀ r ∈ rows, r.ok (tbOf rows cons xcs) = true
  dfl : ∀ r ∈ rows, r.fn.dfl ≠ [] → ∀ fd, r.Fd K fd → Binds K fd r.ps [] ∧ ∃ ds, Vals (r.dvs K) ds ∧ Binds K fd r.ps ds
section
variable {rows : List Row} {cons : List (Str × D)} {xcs : List Xc} {K : PySem.W.Frag} {mg : Str → Option PySem.Value} {P : PySem.Program} {w : PySem.World} {base : PySem.Heap} {n : Nat} {Φ : Ora} {wh : M Bool → M Fl → M Fl}
theorem look_mem {f : Nat} {r : Row} (h : look rows f = some r) : r ∈ rows ∧ r.id = f := ⟨List.mem_of_find?_eq_some h, by
  have := List.find?_some h
  exact eq_of_beq this⟩
theorem fd_facts {r : Row} {fd : PySem.FuncData} (h : r.Fd K fd) : fd.params = L2.defArgs r.st ∧ (r.fn.dfl = [] → fd.defaults = .none) := by
  obtain ⟨oc, od, dV, kV, doc, pm, an, cdv, ct, osl, rfl, lk, hcd, hD, hK⟩ := h.ex
  refine ⟨rfl, fun e => ?_⟩
  rcases hD with ⟨_, h⟩ | ⟨h, _⟩
  · exact h
  · exact absurd (show r.dvs K = [] by unfold Row.dvs; rw [e]; rfl) h
theorem arg_of {a : PySem.Arguments} {ps : List Str} (h : argB a ps = true) : a.posonlyargs = [] ∧ a.args.map (·.arg) = ps ∧ a.vararg = none ∧ a.kwonlyargs = [] ∧ a.kwarg = none := by
  unfold argB at h
  simp only [Bool.and_eq_true, decide_eq_true_eq] at h
  obtain ⟨⟨⟨⟨h1, h2⟩, h3⟩, h4⟩, h5⟩ := h
  exact ⟨List.isEmpty_iff.mp h1, h2, Option.isNone_iff_eq_none.mp h3, List.isEmpty_iff.mp h4, Option.isNone_iff_eq_none.mp h5⟩
theorem reps_dvs {H : Hp} {F : AS} : ∀ ls : List Lit, Reps (gOf K mg rows xcs) H F ((ls.map litDv).map (He.Dv.v K)) (ls.map Lit.d) none_
  | [] => rfl
  | l :: ls => Reps.cons0 (by cases l <;> rfl) (reps_dvs ls)
theorem row_parts {tb : Tb} {r : Row} (h : r.ok tb = true) : argB (L2.defArgs r.st) r.ps = true ∧ FnScope r.N r.ps (L2.defScope r.st) ∧ r.fn.np ≤ r.N.length ∧ (∀ i ∈ r.fn.body.stores, i < r.N.length) ∧ chkSs tb r.N r.fn.body.stores r.fn.np r.fn.body ⟨L2.defScope r.st, fun _ => true⟩ (L2.defBody r.st) = true := by
  unfold Row.ok at h
  simp only [Bool.and_eq_true, decide_eq_true_eq, List.all_eq_true] at h
  obtain ⟨⟨⟨⟨h1, h2⟩, h3⟩, h4⟩, h5⟩ := h
  exact ⟨h1, sc_of h2, h3, h4, h5⟩
theorem wd_of (F : Facts rows cons xcs K mg) (ok : ∀ f r, look rows f = some r → ∀ fd, r.Fd K fd → FnOk P w K mg base (L2.CX P w) n (He.ga K r.name) fd r.ps (SpF (gOf K mg rows xcs) (Φ f))) : Wd (tbOf rows cons xcs) (gOf K mg rows xcs) P w base n Φ := by
  have gk : ∀ f, (gOf K mg rows xcs).kn f = true → ∃ r, look rows f = some r ∧ (gOf K mg rows xcs).fa f = He.ga K r.name := fun f h => by
    obtain ⟨r, hr⟩ := Option.isSome_iff_exists.mp (show (look rows f).isSome = true from h)
    exact ⟨r, hr, by show (match look rows f with | some r => He.ga K r.name | none => 0) = _; rw [hr]⟩
  have tf : ∀ f fn, (tbOf rows cons xcs).fns f = some fn → ∃ r, look rows f = some r ∧ r.fn = fn := fun f fn h => by
    obtain ⟨r, hr, e⟩ := Option.map_eq_some_iff.mp (show (look rows f).map (·.fn) = some fn from h)
    exact ⟨r, hr, e⟩
  have bp : ∀ r ∈ rows, r.fn.dfl = [] → ∀ fd, r.Fd K fd → Binds K fd r.ps [] := fun r hr e fd Fd => by
    obtain ⟨h1, h2, h3, h4, h5⟩ := row_parts (F.ok r hr)
    obtain ⟨a1, a2, a3, a4, a5⟩ := arg_of h1
    obtain ⟨e1, e2⟩ := fd_facts Fd
    refine .all fun us hl => bind_pos (by rw [e1]; exact a1) (by rw [e1]; exact a2) (by rw [e1]; exact a3) (by rw [e1]; exact a4) (by rw [e1]; exact a5) (e2 e) (h2.nd.sublist (List.take_sublist _ _)) hl
  have b0 : ∀ r ∈ rows, ∀ fd, r.Fd K fd → Binds K fd r.ps [] := fun r hr fd Fd => by
    by_cases e : r.fn.dfl = []
    · exact bp r hr e fd Fd
    · exact (F.dfl r hr e fd Fd).1
  exact {
    con := fun y d h => by
      obtain ⟨p, hp, h2⟩ := List.any_eq_true.mp (show (cons.any fun p => decide (p.1 = y) && D.same p.2 d) = true from h)
      rw [Bool.and_eq_true, decide_eq_true_eq] at h2
      have := F.con p hp
      rw [h2.1, same_eq h2.2] at this
      exact this
    mgf := fun f x h => by
      obtain ⟨r, hr, rfl⟩ := Option.map_eq_some_iff.mp (show (look rows f).map (·.name) = some x from h)
      refine ⟨?_, by show (look rows f).isSome = true; rw [hr]; rfl⟩
      show mg r.name = some (.ref (match look rows f with | some r => He.ga K r.name | none => 0))
      rw [hr]
      exact F.glo r (look_mem hr).1
    cal := fun f h => by
      obtain ⟨r, hr, e⟩ := gk f h
      obtain ⟨fd, Fd⟩ := F.def_ r (look_mem hr).1
      exact ⟨⟨fd, r.ps, [], [], by rw [e]; exact ok f r hr fd Fd, b0 r (look_mem hr).1 fd Fd, .nil, fun _ _ => rfl⟩, by rw [e]; exact Fd.kp⟩
    cald := fun f fn ht h => by
      obtain ⟨r, hr, e⟩ := gk f h
      obtain ⟨r', hr', rfl⟩ := tf f fn ht
      rw [hr] at hr'; cases hr'
      obtain ⟨fd, Fd⟩ := F.def_ r (look_mem hr).1
      by_cases ed : r.fn.dfl = []
      · rw [ed]
        exact ⟨⟨fd, r.ps, [], [], by rw [e]; exact ok f r hr fd Fd, b0 r (look_mem hr).1 fd Fd, .nil, fun _ _ => rfl⟩, by rw [e]; exact Fd.kp⟩
      · obtain ⟨_, ds, hv, hb⟩ := F.dfl r (look_mem hr).1 ed fd Fd
        exact ⟨⟨fd, r.ps, ds, r.dvs K, by rw [e]; exact ok f r hr fd Fd, hb, hv, fun _ _ => reps_dvs _⟩, by rw [e]; exact Fd.kp⟩
    calk := fun f fn ht h hd => by
      obtain ⟨r, hr, e⟩ := gk f h
      obtain ⟨r', hr', rfl⟩ := tf f fn ht
      rw [hr] at hr'; cases hr'
      obtain ⟨fd, Fd⟩ := F.def_ r (look_mem hr).1
      obtain ⟨h1, _⟩ := row_parts (F.ok r (look_mem hr).1)
      obtain ⟨a1, a2, a3, a4, a5⟩ := arg_of h1
      obtain ⟨e1, e2⟩ := fd_facts Fd
      have ep : (r.fn.names.take r.fn.np).map Str.ofString = r.ps := by unfold Row.ps Row.N; rw [List.map_take]
      rw [ep]
      exact ⟨⟨fd, by rw [e]; exact ok f r hr fd Fd, by rw [e1]; exact a1, by rw [e1]; exact a2, by rw [e1]; exact a3, by rw [e1]; exact a4, by rw [e1]; exact a5, e2 hd⟩, by rw [e]; exact Fd.kp⟩
    free := F.free
    kn := fun f fn ht => by
      obtain ⟨r, hr, _⟩ := tf f fn ht
      show (look rows f).isSome = true
      rw [hr]; rfl
    xcs := fun c hc => F.xok c (by simpa using (show xcs.contains c = true from hc))
    xap := F.xap
    xin := fun c hc => by
      have hc : c ∈ xcs := hc
      show xcs.contains c = true
      simpa using hc }
theorem fn_all (F : Facts rows cons xcs K mg) (hw : ∀ c b e, wh c b e ≠ .bad → ∃ n, wh c b e = whileN c b n e) : ∀ (n : Nat) (f : Nat) (r : Row), look rows f = some r → ∀ fd, r.Fd K fd → FnOk P w K mg base (L2.CX P w) n (He.ga K r.name) fd r.ps (SpF (gOf K mg rows xcs) (run (tabT rows) wh n f))
  | 0, f, r, hr, fd, Fd => ⟨fun vs H Q E ⟨ds, F, S, o, r, k⟩ => k.elim, fun A outer s H args us vs Q E _ _ _ _ ⟨ds, F, S, o, r, k⟩ => k.elim⟩
  | n + 1, f, r, hr, fd, Fd => by
    obtain ⟨h1, h2, h3, h4, h5⟩ := row_parts (F.ok r (look_mem hr).1)
    have e : run (tabT rows) wh (n + 1) f = runFn (run (tabT rows) wh n) wh r.fn := by
      funext as
      show (match tabT rows f with | some fn => runFn (run (tabT rows) wh n) wh fn as | none => .bad) = _
      have : tabT rows f = some r.fn := by show (look rows f).map _ = _; rw [hr]; rfl
      rw [this]
    rw [e]
    exact fn_ok (g := gOf K mg rows xcs) (wd_of F fun f r hr fd Fd => fn_all F hw n f r hr fd Fd) hw Fd rfl h2 h3 h4 h5
end
end Py
end
section
/-! S9: the head's facts, the law's end -/
namespace Py
open L2 (V Hp HO St TE TT TS TA TG TGs TI TO Ends VK XK WX SqL SqT Rd upd upd_same upd_ne PE PT PA PS PSs PG PGs PTs PI PW PO PK Cx R2 OpR CallR Sp FnOk Room Binds Vals Takes Inv EP BlkOk FunD FnScope)
open PySem (compEnvC Scope Str Expr Stmt)
/-! ### classes of errors -/
def is2 (a : Option (Option PySem.Value)) (b : Option PySem.Value) : Bool := He.eqO a (some b)
def xcB (K : PySem.W.Frag) (c : Xc) : Bool := (He.Fa.glo (xcName c)).ok K && (He.Fa.exc (xcName c)).ok K &&
  (is2 (PySem.W.findIn K (.ref (He.ga K (xcName c))) "__getattribute__") (some (.builtin "BaseException.__getattribute__")) && is2 (PySem.W.findIn K (.ref (He.ga K (xcName c))) "__getattr__") none && PySem.W.hasDictIn K (He.ga K (xcName c)) && is2 (PySem.W.findIn K (.ref (He.ga K (xcName c))) "__class__") (some (.builtin "object.__class__")) && is2 (PySem.W.specialIn K (.builtin "object.__class__") "__get__") (some (.builtin "getset_descriptor.__get__")) && decide (PySem.W.takesIn K (.builtin "object.__class__") = some true) && decide (PySem.W.mroIn K (He.ga K (xcName c)) (.type "object") = some true)) &&
  decide (PySem.W.kitOne K (.ref (He.ga K (xcName c))) (.type "ValueError") = some true)
def apartB (K : PySem.W.Frag) (xcs : List Xc) : Bool := xcs.all fun c => xcs.all fun c' => decide (PySem.W.subIn K (.ref (He.ga K (xcName c))) (.ref (He.ga K (xcName c'))) = some (decide (c = c')))
/-! ### constants -/
def atomV : D → Option He.Dv
  | .non => some .non
  | .bl b => some (.bl b)
  | .int i => some (.int i)
  | .str s => some (.str ⟨s.toArray⟩)
  | _ => none
def atomsV : List D → Option (List He.Dv)
  | [] => some []
  | d :: r => match atomV d, atomsV r with
    | some v, some vs => some (v :: vs)
    | _, _ => none
def conOkB (K : PySem.W.Frag) (p : Str × D) : Bool := match p.2 with
  | .int i => (He.Fa.int p.1 i).ok K
  | .str s => (He.Fa.str p.1 ⟨s.toArray⟩).ok K
  | .tup ds => (match atomsV ds with
    | some vs => (He.Fa.glo p.1).ok K && He.tupB K p.1 vs
    | none => false)
  | _ => false
section
variable {K : PySem.W.Frag} {h : PySem.Heap} {mg : Str → Option PySem.Value} {rows : List Row} {cons : List (Str × D)} {xcs : List Xc}
theorem atom_rep {H : Hp} {F : AS} {g : G} {d : D} {v : He.Dv} (e : atomV d = some v) : Rep g H F (v.v K) d none_ := by
  cases d <;> cases e <;> rfl
theorem atoms_rep {H : Hp} {F : AS} {g : G} : ∀ {ds : List D} {vs : List He.Dv}, atomsV ds = some vs → Reps g H F (vs.map (He.Dv.v K)) ds none_
  | [], vs, e => by cases e; rfl
  | d :: ds, vs, e => by
    have e : (match atomV d, atomsV ds with
      | some v, some vs => some (v :: vs)
      | _, _ => none) = some vs := e
    cases h1 : atomV d with
    | none => rw [h1] at e; cases e
    | some v =>
      cases h2 : atomsV ds with
      | none => rw [h1, h2] at e; cases e
      | some r =>
        rw [h1, h2] at e
        cases e
        exact Reps.cons0 (atom_rep h1) (atoms_rep h2)
theorem con_of (X : K.In h) (G : h.Ns PySem.mainGlobals mg) {p : Str × D} (c : conOkB K p = true) : ConOk (gOf K mg rows xcs) p.1 p.2 := by
  obtain ⟨x, d⟩ := p
  unfold conOkB at c
  cases d with
  | int i =>
    obtain ⟨t, ht⟩ := He.int_ok X G c
    exact ⟨.int i, .int i t, ht, ⟨t, rfl⟩, fun _ _ => rfl⟩
  | str s =>
    obtain ⟨t, ht⟩ := He.str_ok X G c
    exact ⟨.str ⟨s.toArray⟩, .str ⟨s.toArray⟩ t, ht, ⟨t, rfl⟩, fun _ _ => rfl⟩
  | tup ds =>
    cases hv : atomsV ds with
    | none => simp only [hv] at c; cases c
    | some vs =>
      simp only [hv, Bool.and_eq_true] at c
      exact ⟨.ref (He.ga K x), .ref (He.ga K x), He.glo_ok X G c.1, rfl, fun H F => ⟨_, _, rfl, He.tupB_ok c.2 H, atoms_rep hv⟩⟩
  | _ => cases c
theorem xc_of (X : K.In h) (G : h.Ns PySem.mainGlobals mg) {c : Xc} (k : xcB K c = true) : XcOk (gOf K mg rows xcs) c := by
  unfold xcB at k
  simp only [Bool.and_eq_true, decide_eq_true_eq] at k
  obtain ⟨⟨⟨k1, k2⟩, ⟨⟨⟨⟨⟨k3, k4⟩, k5⟩, k6⟩, k7⟩, k8⟩, k9⟩, k10⟩ := k
  obtain ⟨e1, e2, e3, e4⟩ := He.exc_ok k2
  exact ⟨He.glo_ok X G k1, e2, ⟨_, _, _, _, PySem.F.excBase_ValueError, e1⟩, e3, e4, ⟨He.eqO_ok k3, He.eqO_ok k4, e3, k5, He.eqO_ok k6, He.eqO_ok k7, k8, k9⟩, k10⟩
theorem apart_of (k : apartB K xcs = true) : XcApart (gOf K mg rows xcs) := fun c c' h1 h2 => by
  have h1 : xcs.contains c = true := h1
  have h2 : xcs.contains c' = true := h2
  have := List.all_eq_true.mp (List.all_eq_true.mp k c (by simpa using h1)) c' (by simpa using h2)
  exact of_decide_eq_true this
end
/-! ### the Hook -/
def Row.defD (r : Row) : He.DefD := ⟨(r.name, none), r.name, r.name, L2.defArgs r.st, L2.defBody r.st, L2.defScope r.st, r.fn.dfl.map litDv, []⟩
def fasOf (rows : List Row) : List He.Fa := rows.map (fun r => He.Fa.glo r.name) ++ frees.map He.Fa.free
def exOf (cons : List (Str × D)) (xcs : List Xc) (K : PySem.W.Frag) : Bool := (cons.all fun p => conOkB K p) && (xcs.all fun c => xcB K c) && apartB K xcs
abbrev AlY : Type := He.AlD × Bool
def obsY (n : Nat) (fa : List He.Fa) (fn : List He.DefD) (ex : PySem.W.Frag → Bool) (g : PySem.Addr → Option PySem.Obj) : AlY := (He.obsD fa fn (He.frG g (He.asD g n)), ex (He.frG g (He.asD g n)))
def hookY (n : Nat) (fa : List He.Fa) (fn : List He.DefD) (ex : PySem.W.Frag → Bool) : PySem.W.Hook where
  α := AlY
  obs := fun s => obsY n fa fn ex s.heap.get?
  val := fun _ => (He.valD fn, true)
  says := fun _ h => ∃ K : PySem.W.Frag, K.In h ∧ He.SaysD fa fn K ∧ ex K = true
  of := fun _ _ e => ⟨_, He.frG_in, congrArg (fun z : AlY => z.1) e, congrArg (fun z : AlY => z.2) e⟩
  keeps := fun _ _ _ ⟨K, hK, c⟩ k => ⟨K, PySem.W.Frag.In.keeps hK k, c⟩
theorem obsY_eq {n : Nat} {fa : List He.Fa} {fn : List He.DefD} {ex : PySem.W.Frag → Bool} {g : PySem.Addr → Option PySem.Obj} {s : PySem.Shared} (h : ∀ a, g a = s.heap.get? a) : obsY n fa fn ex g = (hookY n fa fn ex).obs s := by
  have e : g = s.heap.get? := funext h
  rw [e] <;> rfl
theorem saysD_facts {fa : List He.Fa} {fn : List He.DefD} {K : PySem.W.Frag} (c : He.SaysD fa fn K) {f : He.Fa} (h : f ∈ fa) : f.ok K = true := by
  obtain ⟨i, hi, e⟩ := List.mem_iff_getElem.mp h
  exact c.fact i (f := f) (by rw [List.getElem?_eq_getElem hi, e])
theorem saysD_defs {fa : List He.Fa} {fn : List He.DefD} {K : PySem.W.Frag} (c : He.SaysD fa fn K) {d : He.DefD} (h : d ∈ fn) : ∃ fd, FunD K d.name d.qual d.params d.body d.scope (d.dvs K) (d.kws K) (He.fAd K d.at_) fd := by
  obtain ⟨i, hi, e⟩ := List.mem_iff_getElem.mp h
  exact c.def_ i (d := d) (by rw [List.getElem?_eq_getElem hi, e])
theorem facts_of {rows : List Row} {cons : List (Str × D)} {xcs : List Xc} {K : PySem.W.Frag} {h : PySem.Heap} {mg : Str → Option PySem.Value} (X : K.In h) (G : h.Ns PySem.mainGlobals mg) (c : He.SaysD (fasOf rows) (rows.map Row.defD) K) (ex : exOf cons xcs K = true)
    (ok : (rows.all fun r => r.ok (tbOf rows cons xcs)) = true) (dfl : ∀ r ∈ rows, r.fn.dfl ≠ [] → ∀ fd, r.Fd K fd → Binds K fd r.ps [] ∧ ∃ ds, Vals (r.dvs K) ds ∧ Binds K fd r.ps ds) : Facts rows cons xcs K mg := by
  unfold exOf at ex
  simp only [Bool.and_eq_true] at ex
  exact {
    def_ := fun r hr => saysD_defs c (d := r.defD) (List.mem_map.mpr ⟨r, hr, rfl⟩)
    glo := fun r hr => He.glo_ok X G (saysD_facts c (List.mem_append_left _ (List.mem_map.mpr ⟨r, hr, rfl⟩)))
    free := fun x hx => He.free_ok X G (saysD_facts c (List.mem_append_right _ (List.mem_map.mpr ⟨x, hx, rfl⟩)))
    con := fun p hp => con_of X G (List.all_eq_true.mp ex.1.1 p hp)
    xok := fun c hc => xc_of X G (List.all_eq_true.mp ex.1.2 c hc)
    xap := apart_of ex.2
    ok := fun r hr => List.all_eq_true.mp ok r hr
    dfl := dfl }
/-! ### while, with as many turns as it wants -/
open Classical in
noncomputable def whileS (c : M Bool) (b : M Fl) : M Fl := fun e => if h : ∃ n, whileN c b n e ≠ .bad then whileN c b h.choose e else .bad
theorem whileS_ok : ∀ c b e, whileS c b e ≠ .bad → ∃ n, whileS c b e = whileN c b n e := by
  intro c b e h
  unfold whileS at h ⊢
  by_cases k : ∃ n, whileN c b n e ≠ .bad
  · rw [dif_pos k] at h ⊢
    exact ⟨_, rfl⟩
  · rw [dif_neg k] at h
    exact absurd rfl h
theorem whileN_mono {c : M Bool} {b : M Fl} : ∀ (n m : Nat) (e : Env), n ≤ m → whileN c b n e ≠ .bad → whileN c b m e = whileN c b n e
  | 0, m, e, _, h => absurd rfl h
  | n + 1, 0, e, hl, _ => by omega
  | n + 1, m + 1, e, hl, h => by
    have key : ∀ k, whileN c b (k + 1) e = (c e).bind (fun t => if t = true then M.bind b (fun r => match r with
      | .nx => whileN c b k
      | .ct => whileN c b k
      | .bk => M.pure .nx
      | .rt v => M.pure (.rt v)) else M.pure .nx) := fun k => by
      show (c e).bind _ = _
      congr 1
    rw [key] at h ⊢
    rw [key]
    cases hc : c e with
    | bad => rfl
    | exc x ps e1 => rfl
    | ok t e1 =>
      rw [hc] at h
      cases t with
      | false => rfl
      | true =>
        have h : (b e1).bind (fun r => match r with
          | .nx => whileN c b n
          | .ct => whileN c b n
          | .bk => M.pure .nx
          | .rt v => M.pure (.rt v)) ≠ .bad := h
        show (b e1).bind (fun r => match r with
          | .nx => whileN c b m
          | .ct => whileN c b m
          | .bk => M.pure .nx
          | .rt v => M.pure (.rt v)) = (b e1).bind (fun r => match r with
          | .nx => whileN c b n
          | .ct => whileN c b n
          | .bk => M.pure .nx
          | .rt v => M.pure (.rt v))
        cases hb : b e1 with
        | bad => rfl
        | exc x ps e2 => rfl
        | ok r e2 =>
          rw [hb] at h
          cases r with
          | nx => exact whileN_mono n m e2 (by omega) h
          | ct => exact whileN_mono n m e2 (by omega) h
          | bk => rfl
          | rt v => rfl
theorem whileS_eq {c : M Bool} {b : M Fl} {n : Nat} {e : Env} (h : whileN c b n e ≠ .bad) : whileS c b e = whileN c b n e := by
  have k : ∃ n, whileN c b n e ≠ .bad := ⟨n, h⟩
  unfold whileS
  rw [dif_pos k]
  rcases Nat.le_total n k.choose with l | l
  · exact whileN_mono _ _ _ l h
  · exact (whileN_mono _ _ _ l k.choose_spec).symm
/-! ### the end -/
theorem walk_ofEB {l : PySem.W.OpenLaw} {n k : Nat} {q : PySem.Program} {loose : List Str} {XP : (Str → Option PySem.Value) → PySem.Heap → Prop} {YP : PySem.World → PySem.Heap → Prop} {d : PySem.DefRec} {x : Str}
    (hn : l.most = some n) (hn2 : n ≤ PySem.sizeLine) (hdf : d.params.defaults = []) (hr : Room k PySem.callerA)
    (F : ∀ (w : PySem.World) (mg : Str → Option PySem.Value) (fa : PySem.Addr) (h : PySem.Heap), YP w h → h.Ns PySem.mainGlobals mg → mg d.name = some (.ref fa) →
      ∃ (K : PySem.W.Frag) (fd : PySem.FuncData) (sp : Sp), K.In h ∧ (∀ (s : PySem.Shared) (u : PySem.Value), PySem.BindsTo s fd ⟨[u], []⟩ [(x, u)]) ∧
        (∀ (H : Hp) (a : PySem.Addr) (ns : List Int), ns.length ≤ n → (∀ z ∈ ns, PySem.Builtin.Int.intBits z ≤ 1048576) → L2.Only H → SqL K H a (ns.map V.int) → sp [.ref a] H (fun v _ => v = .bl true) fun _ _ _ => False) ∧
        ∀ base : PySem.Heap, K.In base → base.Ns PySem.mainGlobals mg → FnOk l.prog w K mg base (L2.CX l.prog w) k fa fd [x] sp) :
    PySem.W.WalkO q loose XP YP l.row.toRowW d [] (fun f vs => PySem.call f vs) := by
  refine Att.attach_callB hn hdf fun w s₀ s₁ mg mb fa o pm cd doc a vs ns G Y ho hd hcd hmg hobj hints hlen hbits hg => ?_
  obtain ⟨K, fd, sp, KX, hb, hsp, hF⟩ := F w mg fa _ Y G.T.g hmg
  exact L2.law_call KX G.T.g G.T.b G.T.builtins G.T.nolimit hg hobj hints (Nat.le_trans hlen hn2) hr hF hb (fun H hO hS => hsp H a ns hlen hbits hO hS) fun H e s' z => by
    obtain ⟨_, _, _, _, _, _, _, _, _, _, _, _, z⟩ := z
    exact z.elim
theorem law_end {rows : List Row} {cons : List (Str × D)} {xcs : List Xc} {l : PySem.W.OpenLaw} {n k f : Nat} {r : Row} {N : Nat} {q : PySem.Program} {loose : List Str} {XP : (Str → Option PySem.Value) → PySem.Heap → Prop} {d : PySem.DefRec} {x : Str}
    (hn : l.most = some n) (hn2 : n ≤ PySem.sizeLine) (hdf : d.params.defaults = []) (hr : Room k PySem.callerA) (hname : d.name = r.name) (hl : look rows f = some r) (hps : r.ps = [x]) (hd0 : r.fn.dfl = [])
    (ok : (rows.all fun r => r.ok (tbOf rows cons xcs)) = true) (dfl : ∀ K, ∀ r ∈ rows, r.fn.dfl ≠ [] → ∀ fd, r.Fd K fd → Binds K fd r.ps [] ∧ ∃ ds, Vals (r.dvs K) ds ∧ Binds K fd r.ps ds)
    (pure : ∀ ns : List Int, ns.length ≤ n → (∀ z ∈ ns, PySem.Builtin.Int.intBits z ≤ 1048576) → ∃ ds, run (tabT rows) whileS k f [.scr ns] = .ok (.bl true) ds) :
    PySem.W.WalkO q loose XP (hookY N (fasOf rows) (rows.map Row.defD) (exOf cons xcs)).says l.row.toRowW d [] (fun f vs => PySem.call f vs) := by
  refine walk_ofEB (k := k) (x := x) hn hn2 hdf hr fun w mg fa h Y G hmg => ?_
  obtain ⟨K, KX, c, ex⟩ := Y
  have Fc : Facts rows cons xcs K mg := facts_of KX G c ex ok (dfl K)
  obtain ⟨fd, Fd⟩ := Fc.def_ r (look_mem hl).1
  have e : some (PySem.Value.ref fa) = some (PySem.Value.ref (He.ga K r.name)) := by
    rw [← hmg, hname]
    exact Fc.glo r (look_mem hl).1
  cases e
  refine ⟨K, fd, SpF (gOf K mg rows xcs) (run (tabT rows) whileS k f), KX, fun s u => ?_, fun H a ns h1 h2 hO hS => ?_, fun base hK hns => ?_⟩
  · obtain ⟨h1, h2, _⟩ := row_parts (Fc.ok r (look_mem hl).1)
    obtain ⟨a1, a2, a3, a4, a5⟩ := arg_of h1
    obtain ⟨e1, e2⟩ := fd_facts Fd
    have hlen : [u].length = r.ps.length := by rw [hps]; rfl
    have := bind_pos (fd := fd) (ns := r.ps) (us := [u]) (by rw [e1]; exact a1) (by rw [e1]; exact a2) (by rw [e1]; exact a3) (by rw [e1]; exact a4) (by rw [e1]; exact a5) (e2 hd0) (h2.nd.sublist (List.take_sublist _ _)) hlen
    rw [hps] at this
    exact .of_eq this
  · obtain ⟨ds, hp⟩ := pure ns h1 h2
    refine ⟨[.scr ns], none_, none_, ⟨fun _ z => z.elim, fun _ z => z.elim⟩, Reps.cons0 ⟨a, rfl, ?_⟩ rfl, ?_⟩
    · rcases hS with (hS | hS) | hS
      · rcases hO a with z | ⟨o, xs, z⟩
        · rw [z] at hS; cases hS
        · rw [z] at hS; cases hS
      · exact .inl hS
      · exact .inr hS
    · rw [hp]
      intro v H' F' Sb Sv _ _ _ rv
      exact rv
  · rw [← hps]
    exact fn_all Fc whileS_ok k f r hl fd Fd
end Py
end
namespace Py.Q
def d_is_number : Fn := { np := 1, names := ["thing"], body := (.cons (.ret (.and (.isi (.var 0) [.int]) (.not (.isi (.var 0) [.bool])))) .nil) }
def d_is_within : Fn := { np := 3, names := ["thing", "least", "most"], body := (.cons (.ret (.and (.call 21 (.cons (.var 0) .nil)) (.chain .le .le (.var 1) (.var 0) (.var 2)))) .nil) }
def d_sure_within : Fn := { np := 3, names := ["thing", "least", "most"], body := (.cons (.ite (.not (.call 22 (.cons (.var 0) (.cons (.var 1) (.cons (.var 2) .nil))))) (.cons (.raise .unfit .nil) .nil) .nil) (.cons (.ret (.var 0)) .nil)) }
def d_choices : Fn := { np := 2, names := ["many", "few", "found", "lap"], body := (.cons (.ite (.not (.chain .le .le (.lit (.int 0)) (.var 1) (.var 0))) (.cons (.ret (.lit (.int 0))) .nil) .nil) (.cons (.set 2 (.lit (.int 1))) (.cons (.loop (.nm 3) (.range1 (.var 1)) (.cons (.set 2 (.bin .fdiv (.bin .mul (.var 2) (.bin .sub (.var 0) (.var 3))) (.bin .add (.var 3) (.lit (.int 1))))) .nil)) (.cons (.ret (.var 2)) .nil)))) }
def d_is_row_in : Fn := { np := 1, names := ["thing", "own"], body := (.cons (.ret (.and (.isi (.var 0) [.str]) (.and (.cmp .le (.bi .len (.cons (.var 0) .nil)) (.con "MOST_THROWS" (.int 12))) (.bi .all (.cons (.comp (.cmp .isIn (.var 1) (.con "SIDES" (.str [104, 116]))) (.nm 1) (.plain (.var 0)) .none) .nil))))) .nil) }
def d_sure_row : Fn := { np := 1, names := ["value"], body := (.cons (.ite (.not (.call 25 (.cons (.var 0) .nil))) (.cons (.raise .unfit .nil) .nil) .nil) (.cons (.ret (.var 0)) .nil)) }
def d_size_of : Fn := { np := 1, names := ["throws", "found", "lap"], body := (.cons (.set 1 (.lit (.int 1))) (.cons (.loop (.nm 2) (.range1 (.var 0)) (.cons (.set 1 (.bin .mul (.var 1) (.lit (.int 2)))) .nil)) (.cons (.ret (.var 1)) .nil))) }
def d_row_in : Fn := { np := 2, names := ["throws", "place", "found", "lap"], body := (.cons (.set 2 (.lit (.str []))) (.cons (.loop (.nm 3) (.range1 (.var 0)) (.cons (.set 2 (.bin .add (.idx (.con "SIDES" (.str [104, 116])) (.bin .mod (.var 1) (.lit (.int 2)))) (.var 2))) (.cons (.set 1 (.bin .fdiv (.var 1) (.lit (.int 2)))) .nil))) (.cons (.ret (.var 2)) .nil))) }
def d_all_in : Fn := { np := 1, names := ["throws", "place"], body := (.cons (.ret (.comp (.call 28 (.cons (.var 0) (.cons (.var 1) .nil))) (.nm 1) (.range1 (.call 27 (.cons (.var 0) .nil))) .none)) .nil) }
def d_heads_in : Fn := { np := 1, names := ["row", "own"], body := (.cons (.ret (.bi .len (.cons (.comp (.var 1) (.nm 1) (.plain (.var 0)) (.some (.cmp .eq (.var 1) (.lit (.str [104]))))) .nil))) .nil) }
def d_place_in : Fn := { np := 1, names := ["row", "found", "own"], body := (.cons (.set 1 (.lit (.int 0))) (.cons (.loop (.nm 2) (.plain (.var 0)) (.cons (.set 1 (.bin .add (.bin .mul (.var 1) (.lit (.int 2))) (.bi .int (.cons (.cmp .eq (.var 2) (.lit (.str [116]))) .nil)))) .nil)) (.cons (.ret (.var 1)) .nil))) }
def d_rank_in : Fn := { np := 1, names := ["row", "found", "left", "place", "own"], body := (.cons (.par [1, 2] (.cons (.lit (.int 0)) (.cons (.call 30 (.cons (.var 0) .nil)) .nil))) (.cons (.loop (.tup [3, 4]) (.enum (.var 0)) (.cons (.ite (.cmp .eq (.var 4) (.lit (.str [116]))) (.cons (.aug 1 .add (.call 24 (.cons (.bin .sub (.bin .sub (.bi .len (.cons (.var 0) .nil)) (.var 3)) (.lit (.int 1))) (.cons (.bin .sub (.var 2) (.lit (.int 1))) .nil)))) .nil) (.cons (.aug 2 .sub (.lit (.int 1))) .nil)) .nil)) (.cons (.ret (.var 1)) .nil))) }
def d_ranked_in : Fn := { np := 3, names := ["throws", "heads", "rank", "place", "found", "left", "firsts"], body := (.cons (.par [4, 5] (.cons (.lit (.str [])) (.cons (.var 1) .nil))) (.cons (.loop (.nm 3) (.range1 (.var 0)) (.cons (.set 6 (.call 24 (.cons (.bin .sub (.bin .sub (.var 0) (.var 3)) (.lit (.int 1))) (.cons (.bin .sub (.var 5) (.lit (.int 1))) .nil)))) (.cons (.ite (.cmp .lt (.var 2) (.var 6)) (.cons (.par [4, 5] (.cons (.bin .add (.var 4) (.lit (.str [104]))) (.cons (.bin .sub (.var 5) (.lit (.int 1))) .nil))) .nil) (.cons (.par [4, 2] (.cons (.bin .add (.var 4) (.lit (.str [116]))) (.cons (.bin .sub (.var 2) (.var 6)) .nil))) .nil)) .nil))) (.cons (.ret (.var 4)) .nil))) }
def d_is_row : Fn := { np := 1, names := ["thing"], body := (.cons (.ret (.call 25 (.cons (.var 0) .nil))) .nil) }
def d_heads : Fn := { np := 1, names := ["row"], body := (.cons (.ret (.call 30 (.cons (.call 26 (.cons (.var 0) .nil)) .nil))) .nil) }
def d_all_rows : Fn := { np := 1, names := ["throws"], body := (.cons (.ret (.call 29 (.cons (.call 23 (.cons (.var 0) (.cons (.lit (.int 0)) (.cons (.con "MOST_THROWS" (.int 12)) .nil)))) .nil))) .nil) }
def d_rows_with : Fn := { np := 2, names := ["throws", "heads", "many", "few", "rank"], body := (.cons (.set 2 (.call 23 (.cons (.var 0) (.cons (.lit (.int 0)) (.cons (.con "MOST_THROWS" (.int 12)) .nil))))) (.cons (.set 3 (.call 23 (.cons (.var 1) (.cons (.lit (.int 0)) (.cons (.con "MOST_THROWS" (.int 12)) .nil))))) (.cons (.ret (.comp (.call 33 (.cons (.var 2) (.cons (.var 3) (.cons (.var 4) .nil)))) (.nm 4) (.range1 (.call 24 (.cons (.var 2) (.cons (.var 3) .nil)))) .none)) .nil))) }
def d_how_many_rows : Fn := { np := 2, names := ["throws", "heads", "many"], body := (.cons (.set 2 (.call 23 (.cons (.var 0) (.cons (.lit (.int 0)) (.cons (.con "MOST_THROWS" (.int 12)) .nil))))) (.cons (.ret (.call 24 (.cons (.var 2) (.cons (.call 23 (.cons (.var 1) (.cons (.lit (.int 0)) (.cons (.con "MOST_THROWS" (.int 12)) .nil)))) .nil)))) .nil)) }
def d_place_of : Fn := { np := 1, names := ["row"], body := (.cons (.ret (.call 31 (.cons (.call 26 (.cons (.var 0) .nil)) .nil))) .nil) }
def d_row_at : Fn := { np := 2, names := ["throws", "place", "many"], body := (.cons (.set 2 (.call 23 (.cons (.var 0) (.cons (.lit (.int 0)) (.cons (.con "MOST_THROWS" (.int 12)) .nil))))) (.cons (.ite (.cmp .ge (.call 23 (.cons (.var 1) (.cons (.lit (.int 0)) (.cons (.con "MOST_PLACE" (.int 4096)) .nil)))) (.call 27 (.cons (.var 2) .nil))) (.cons (.raise .cannot .nil) .nil) .nil) (.cons (.ret (.call 28 (.cons (.var 2) (.cons (.var 1) .nil)))) .nil))) }
def d_rank_of : Fn := { np := 1, names := ["row"], body := (.cons (.ret (.call 32 (.cons (.call 26 (.cons (.var 0) .nil)) .nil))) .nil) }
def d_row_by_rank : Fn := { np := 3, names := ["throws", "heads", "rank", "many", "few"], body := (.cons (.set 3 (.call 23 (.cons (.var 0) (.cons (.lit (.int 0)) (.cons (.con "MOST_THROWS" (.int 12)) .nil))))) (.cons (.set 4 (.call 23 (.cons (.var 1) (.cons (.lit (.int 0)) (.cons (.con "MOST_THROWS" (.int 12)) .nil))))) (.cons (.ite (.cmp .ge (.call 23 (.cons (.var 2) (.cons (.lit (.int 0)) (.cons (.con "MOST_PLACE" (.int 4096)) .nil)))) (.call 24 (.cons (.var 3) (.cons (.var 4) .nil)))) (.cons (.raise .cannot .nil) .nil) .nil) (.cons (.ret (.call 33 (.cons (.var 3) (.cons (.var 4) (.cons (.var 2) .nil))))) .nil)))) }
def d_law_box_v2 : Fn := { np := 2, names := ["script", "k", "bit_so"], body := (.cons (.set 2 (.ite (.cmp .lt (.var 1) (.bi .len (.cons (.var 0) .nil))) (.idx (.var 0) (.var 1)) (.lit (.int 0)))) (.cons (.ret (.list (.cons (.bin .mul (.bi .abs (.cons (.var 2) .nil)) (.bi .int (.cons (.cmp .ge (.bi .abs (.cons (.var 2) .nil)) (.bin .pow (.lit (.int 10)) (.lit (.int 18)))) .nil))) (.cons (.bin .add (.bin .add (.bin .mod (.bi .int (.cons (.var 2) .nil)) (.lit (.int 2305843009213693951))) (.bin .mul (.lit (.int 39373)) (.var 1))) (.lit (.int 26295001))) (.cons (.lit (.int 0)) .nil))))) .nil)) }
def d_law_take : Fn := { np := 2, names := ["tin", "below_so", "once_so", "wide_so", "twice_so", "drawn_so"], body := (.cons (.ite (.cmp .gt (.idx (.var 0) (.lit (.int 0))) (.lit (.int 0))) (.cons (.set 5 (.bin .mod (.bi .int (.cons (.idx (.var 0) (.lit (.int 0))) .nil)) (.var 1))) (.cons (.setIx 0 .nil (.lit (.int 0)) (.bin .fdiv (.idx (.var 0) (.lit (.int 0))) (.var 1))) (.cons (.ret (.var 5)) .nil))) .nil) (.cons (.setIx 0 .nil (.lit (.int 2)) (.bin .add (.idx (.var 0) (.lit (.int 2))) (.lit (.int 1)))) (.cons (.set 2 (.bin .mod (.bi .int (.cons (.bin .mul (.bin .add (.idx (.var 0) (.lit (.int 1))) (.bin .mul (.lit (.int 48271)) (.idx (.var 0) (.lit (.int 2))))) (.bin .add (.lit (.int 39373)) (.idx (.var 0) (.lit (.int 2))))) .nil)) (.lit (.int 2147483647)))) (.cons (.set 3 (.bin .add (.bin .mod (.bi .int (.cons (.var 2) .nil)) (.lit (.int 40009))) (.lit (.int 7)))) (.cons (.set 4 (.bin .mod (.bi .int (.cons (.bin .mul (.bin .add (.bin .add (.var 2) (.idx (.var 0) (.lit (.int 2)))) (.bin .fdiv (.idx (.var 0) (.lit (.int 1))) (.lit (.int 1000003)))) (.var 3)) .nil)) (.lit (.int 2147483629)))) (.cons (.ret (.bin .mod (.bi .int (.cons (.bin .fdiv (.bin .mod (.bi .int (.cons (.bin .add (.bin .mul (.var 4) (.lit (.int 48271))) (.var 2)) .nil)) (.lit (.int 2147483587))) (.lit (.int 64))) .nil)) (.var 1))) .nil)))))) }
def d_law_cells : Fn := { np := 2, names := ["script", "most_so", "cells_so", "k", "bit_so", "at_so"], body := (.cons (.set 2 (.or (.bi .list (.cons (.sl (.var 0) .none (.some (.var 1))) .nil)) (.list (.cons (.lit (.int 0)) .nil)))) (.cons (.loop (.tup [3, 4]) (.enum (.sl (.var 0) (.some (.var 1)) (.some (.lit (.int 63))))) (.cons (.set 5 (.bin .mod (.bi .int (.cons (.var 3) .nil)) (.var 1))) (.cons (.setIx 2 .nil (.var 5) (.bin .add (.idx (.var 2) (.var 5)) (.bin .mul (.var 4) (.bin .add (.var 3) (.lit (.int 2)))))) .nil))) (.cons (.ret (.var 2)) .nil))) }
def d_law_same : Fn := { np := 2, names := ["got", "due", "mine", "its"], body := (.cons (.ite (.isi (.var 1) [.list, .tuple]) (.cons (.ite (.or (.cmp .ne (.isi (.var 0) [.list]) (.isi (.var 1) [.list])) (.cmp .ne (.isi (.var 0) [.tuple]) (.isi (.var 1) [.tuple]))) (.cons (.ret (.lit (.bl false))) .nil) .nil) (.cons (.ret (.and (.cmp .eq (.bi .len (.cons (.var 0) .nil)) (.bi .len (.cons (.var 1) .nil))) (.bi .all (.cons (.comp (.call 13 (.cons (.var 2) (.cons (.var 3) .nil))) (.tup [2, 3]) (.zip2 (.var 0) (.var 1)) .none) .nil)))) .nil)) .nil) (.cons (.ite (.isC (.var 1) .non) (.cons (.ret (.isC (.var 0) .non)) .nil) .nil) (.cons (.ite (.isi (.var 1) [.bool, .str]) (.cons (.ret (.and (.cmp .eq (.isi (.var 0) [.bool]) (.isi (.var 1) [.bool])) (.and (.cmp .eq (.isi (.var 0) [.str]) (.isi (.var 1) [.str])) (.cmp .eq (.var 0) (.var 1))))) .nil) .nil) (.cons (.ret (.and (.isi (.var 0) [.int]) (.and (.not (.isi (.var 0) [.bool])) (.cmp .eq (.var 0) (.var 1))))) .nil)))) }
def d_law_flat : Fn := { np := 1, names := ["rows_so", "found", "own"], body := (.cons (.set 1 (.list .nil)) (.cons (.loop (.nm 2) (.plain (.var 0)) (.cons (.extend 1 .nil (.var 2)) .nil)) (.cons (.ret (.var 1)) .nil))) }
def d_law_call : Fn := { np := 2, names := ["door_so", "goods_so"], body := (.cons (.ite (.cmp .eq (.bi .len (.cons (.var 1) .nil)) (.lit (.int 1))) (.cons (.ret (.callv 0 (.cons (.idx (.var 1) (.lit (.int 0))) .nil))) .nil) .nil) (.cons (.ite (.cmp .eq (.bi .len (.cons (.var 1) .nil)) (.lit (.int 2))) (.cons (.ret (.callv 0 (.cons (.idx (.var 1) (.lit (.int 0))) (.cons (.idx (.var 1) (.lit (.int 1))) .nil)))) .nil) .nil) (.cons (.ite (.cmp .eq (.bi .len (.cons (.var 1) .nil)) (.lit (.int 3))) (.cons (.ret (.callv 0 (.cons (.idx (.var 1) (.lit (.int 0))) (.cons (.idx (.var 1) (.lit (.int 1))) (.cons (.idx (.var 1) (.lit (.int 2))) .nil))))) .nil) .nil) (.cons (.ite (.cmp .eq (.bi .len (.cons (.var 1) .nil)) (.lit (.int 4))) (.cons (.ret (.callv 0 (.cons (.idx (.var 1) (.lit (.int 0))) (.cons (.idx (.var 1) (.lit (.int 1))) (.cons (.idx (.var 1) (.lit (.int 2))) (.cons (.idx (.var 1) (.lit (.int 3))) .nil)))))) .nil) .nil) (.cons (.ret (.callv 0 (.cons (.idx (.var 1) (.lit (.int 0))) (.cons (.idx (.var 1) (.lit (.int 1))) (.cons (.idx (.var 1) (.lit (.int 2))) (.cons (.idx (.var 1) (.lit (.int 3))) (.cons (.idx (.var 1) (.lit (.int 4))) .nil))))))) .nil))))) }
def d_law_slip : Fn := { np := 2, names := ["door_so", "goods_so", "slip_so", "slip_c", "slip_m"], body := (.cons (.tryx (.cons (.expr (.call 45 (.cons (.var 0) (.cons (.var 1) .nil)))) .nil) (.cons .unfit 2 none (.iteYes (.str [117, 110, 102, 105, 116]) (.str [111, 100, 100])) (.cons .cannot 3 none (.iteYes (.str [99, 97, 110, 32, 110, 111, 116]) (.str [111, 100, 100])) (.cons .toomany 4 none (.iteYes (.str [109, 97, 110, 121]) (.str [111, 100, 100])) .nil)))) (.cons (.ret (.lit (.str [116, 111, 108, 100]))) .nil)) }
def d_law_choose : Fn := { np := 2, names := ["many_so", "few_so", "row_so", "lap", "a", "b"], body := (.cons (.set 2 (.list (.cons (.lit (.int 1)) .nil))) (.cons (.loop (.nm 3) (.range1 (.var 0)) (.cons (.set 2 (.comp (.bin .add (.var 4) (.var 5)) (.tup [4, 5]) (.zip2 (.bin .add (.list (.cons (.lit (.int 0)) .nil)) (.var 2)) (.bin .add (.var 2) (.list (.cons (.lit (.int 0)) .nil)))) .none)) .nil)) (.cons (.ret (.ite (.chain .le .le (.lit (.int 0)) (.var 1) (.var 0)) (.idx (.var 2) (.var 1)) (.lit (.int 0)))) .nil))) }
def d_law_throws : Fn := { np := 1, names := ["many_so", "found", "lap", "own"], body := (.cons (.set 1 (.list (.cons (.lit (.str [])) .nil))) (.cons (.loop (.nm 2) (.range1 (.var 0)) (.cons (.set 1 (.call 44 (.cons (.comp (.list (.cons (.bin .add (.var 3) (.lit (.str [104]))) (.cons (.bin .add (.var 3) (.lit (.str [116]))) .nil))) (.nm 3) (.plain (.var 1)) .none) .nil))) .nil)) (.cons (.ret (.var 1)) .nil))) }
def d_law_heads : Fn := { np := 1, names := ["row_so", "own"], body := (.cons (.ret (.bi .len (.cons (.comp (.var 1) (.nm 1) (.plain (.var 0)) (.some (.cmp .eq (.var 1) (.lit (.str [104]))))) .nil))) .nil) }
def d_law_right_v2 : Fn := { np := 1, names := ["tin", "many_so", "goods_so", "got", "lap", "all_so", "few_so", "k", "own", "lot_so", "its"], body := (.cons (.set 1 (.call 9 (.cons (.var 0) (.cons (.lit (.int 10)) .nil)))) (.cons (.par [5, 6] (.cons (.call 48 (.cons (.var 1) .nil)) (.cons (.call 9 (.cons (.var 0) (.cons (.bin .add (.var 1) (.lit (.int 2))) .nil))) .nil))) (.cons (.set 2 (.comp (.var 8) (.nm 8) (.plain (.var 5)) (.some (.cmp .eq (.call 49 (.cons (.var 8) .nil)) (.var 6))))) (.cons (.set 3 (.list (.cons (.callk 36 [0] (.cons (.var 1) .nil)) (.cons (.callk 37 [0, 1] (.cons (.var 1) (.cons (.var 6) .nil))) (.cons (.callk 38 [0, 1] (.cons (.var 1) (.cons (.var 6) .nil))) .nil))))) (.cons (.ite (.or (.not (.call 13 (.cons (.var 3) (.cons (.list (.cons (.var 5) (.cons (.var 2) (.cons (.call 47 (.cons (.var 1) (.cons (.var 6) .nil))) .nil)))) .nil)))) (.cmp .ne (.var 5) (.bi .sorted (.cons (.var 5) .nil)))) (.cons (.ret (.lit (.bl false))) .nil) .nil) (.cons (.loop (.nm 4) (.range1 (.lit (.int 4))) (.cons (.set 7 (.call 9 (.cons (.var 0) (.cons (.bi .len (.cons (.var 5) .nil)) .nil)))) (.cons (.set 8 (.idx (.var 5) (.var 7))) (.cons (.set 9 (.comp (.var 10) (.nm 10) (.plain (.var 5)) (.some (.cmp .eq (.call 49 (.cons (.var 10) .nil)) (.call 49 (.cons (.var 8) .nil)))))) (.cons (.set 3 (.list (.cons (.callk 40 [0, 1] (.cons (.var 1) (.cons (.var 7) .nil))) (.cons (.callk 39 [0] (.cons (.var 8) .nil)) (.cons (.callk 41 [0] (.cons (.var 8) .nil)) (.cons (.callk 42 [0, 1, 2] (.cons (.var 1) (.cons (.call 49 (.cons (.var 8) .nil)) (.cons (.meth .index (.var 9) (.cons (.var 8) .nil)) .nil)))) (.cons (.callk 35 [0] (.cons (.var 8) .nil)) (.cons (.callk 34 [0] (.cons (.var 8) .nil)) .nil)))))))) (.cons (.ite (.not (.call 13 (.cons (.var 3) (.cons (.list (.cons (.var 8) (.cons (.var 7) (.cons (.meth .index (.var 9) (.cons (.var 8) .nil)) (.cons (.var 8) (.cons (.call 49 (.cons (.var 8) .nil)) (.cons (.lit (.bl true)) .nil))))))) .nil)))) (.cons (.ret (.lit (.bl false))) .nil) .nil) .nil)))))) (.cons (.ret (.cmp .eq (.list (.cons (.call 46 (.cons (.gfn 40) (.cons (.tuple (.cons (.var 1) (.cons (.bi .len (.cons (.var 5) .nil)) .nil))) .nil))) (.cons (.call 46 (.cons (.gfn 42) (.cons (.tuple (.cons (.var 1) (.cons (.var 6) (.cons (.bi .len (.cons (.var 2) .nil)) .nil)))) .nil))) .nil))) (.list (.cons (.lit (.str [99, 97, 110, 32, 110, 111, 116])) (.cons (.lit (.str [99, 97, 110, 32, 110, 111, 116])) .nil))))) .nil))))))) }
def d_law_v2 : Fn := { np := 1, names := ["script", "tin", "lap", "bads_so", "got", "k", "own"], body := (.cons (.set 1 (.call 43 (.cons (.call 10 (.cons (.var 0) (.cons (.lit (.int 1)) .nil))) (.cons (.lit (.int 0)) .nil)))) (.cons (.ite (.not (.bi .all (.cons (.comp (.call 50 (.cons (.var 1) .nil)) (.nm 2) (.range1 (.lit (.int 3))) .none) .nil))) (.cons (.ret (.lit (.bl false))) .nil) .nil) (.cons (.loop (.nm 2) (.range1 (.lit (.int 4))) (.cons (.set 5 (.call 9 (.cons (.var 1) (.cons (.lit (.int 4096)) .nil)))) (.cons (.set 6 (.call 40 (.cons (.lit (.int 12)) (.cons (.var 5) .nil)))) (.cons (.ite (.or (.not (.isi (.var 6) [.str])) (.or (.cmp .ne (.bi .len (.cons (.var 6) .nil)) (.lit (.int 12))) (.or (.cmp .ne (.call 39 (.cons (.var 6) .nil)) (.var 5)) (.or (.cmp .ne (.call 42 (.cons (.lit (.int 12)) (.cons (.call 35 (.cons (.var 6) .nil)) (.cons (.call 41 (.cons (.var 6) .nil)) .nil)))) (.var 6)) (.cmp .ge (.call 41 (.cons (.var 6) .nil)) (.call 47 (.cons (.lit (.int 12)) (.cons (.call 49 (.cons (.var 6) .nil)) .nil)))))))) (.cons (.ret (.lit (.bl false))) .nil) .nil) .nil)))) (.cons (.ite (.or (.cmp .ne (.call 38 (.cons (.lit (.int 12)) (.cons (.lit (.int 6)) .nil))) (.lit (.int 924))) (.cmp .ne (.bi .sum (.cons (.comp (.call 38 (.cons (.lit (.int 11)) (.cons (.var 5) .nil))) (.nm 5) (.range1 (.lit (.int 13))) .none) .nil)) (.lit (.int 2048)))) (.cons (.ret (.lit (.bl false))) .nil) .nil) (.cons (.set 3 (.list (.cons (.lit .non) (.cons (.lit (.int 1)) (.cons (.lit (.str [104, 84])) (.cons (.lit (.str [104, 32, 116])) (.cons (.lit (.str [120])) (.cons (.tuple (.cons (.lit (.str [104])) .nil)) (.cons (.bin .mul (.lit (.str [104])) (.lit (.int 13))) (.cons (.list (.cons (.lit (.str [104])) .nil)) .nil)))))))))) (.cons (.set 4 (.bin .add (.comp (.call 34 (.cons (.var 6) .nil)) (.nm 6) (.plain (.var 3)) .none) (.list (.cons (.call 34 (.cons (.lit (.str [])) .nil)) (.cons (.call 34 (.cons (.bin .mul (.lit (.str [104])) (.lit (.int 12))) .nil)) (.cons (.call 36 (.cons (.lit (.int 2)) .nil)) (.cons (.call 37 (.cons (.lit (.int 3)) (.cons (.lit (.int 1)) .nil))) (.cons (.call 39 (.cons (.lit (.str [116, 104])) .nil)) (.cons (.call 40 (.cons (.lit (.int 3)) (.cons (.lit (.int 6)) .nil))) (.cons (.call 41 (.cons (.lit (.str [116, 116, 104])) .nil)) (.cons (.call 42 (.cons (.lit (.int 4)) (.cons (.lit (.int 2)) (.cons (.lit (.int 3)) .nil)))) .nil))))))))))) (.cons (.ret (.call 13 (.cons (.var 4) (.cons (.bin .add (.bin .mul (.list (.cons (.lit (.bl false)) .nil)) (.lit (.int 8))) (.list (.cons (.lit (.bl true)) (.cons (.lit (.bl true)) (.cons (.list (.cons (.lit (.str [104, 104])) (.cons (.lit (.str [104, 116])) (.cons (.lit (.str [116, 104])) (.cons (.lit (.str [116, 116])) .nil))))) (.cons (.list (.cons (.lit (.str [104, 116, 116])) (.cons (.lit (.str [116, 104, 116])) (.cons (.lit (.str [116, 116, 104])) .nil)))) (.cons (.lit (.int 2)) (.cons (.lit (.str [116, 116, 104])) (.cons (.lit (.int 2)) (.cons (.lit (.str [116, 104, 104, 116])) .nil)))))))))) .nil)))) .nil))))))) }
end Py.Q
section
/-! P1: running the interpreter by simp -/
namespace Py.Q
theorem nr {α : Sort _} {a b : α} (h : a = b) : a = b := h
variable {Φ : Ora} {wh : M Bool → M Fl → M Fl} {np : Nat} {e : Env}
theorem rbind_congr {α β : Type} {r r' : R α} {f : α → M β} (h : r = r') : r.bind f = r'.bind f := by rw [h]
theorem bind_M {α β : Type} {m : M α} {f : α → M β} {e : Env} : (m >>= f) e = (m e).bind f := nr rfl
theorem bind_M' {α β : Type} {m : M α} {f : α → M β} {e : Env} : M.bind m f e = (m e).bind f := nr rfl
theorem pure_M {α : Type} {a : α} {e : Env} : (pure a : M α) e = .ok a e := nr rfl
theorem pure_M' {α : Type} {a : α} {e : Env} : (M.pure a : M α) e = .ok a e := nr rfl
theorem rb_ok {α β : Type} {a : α} {e : Env} {f : α → M β} : (R.ok a e).bind f = f a e := nr rfl
theorem rb_exc {α β : Type} {c : Xc} {ps : List D} {e : Env} {f : α → M β} : (R.exc c ps e : R α).bind f = .exc c ps e := nr rfl
theorem rb_bad {α β : Type} {f : α → M β} : (R.bad : R α).bind f = .bad := nr rfl
theorem of_some {α : Type} {a : α} {e : Env} : M.of (some a) e = .ok a e := nr rfl
theorem of_none {α : Type} {e : Env} : (M.of none : M α) e = .bad := nr rfl
theorem guard_t {e : Env} : M.guard true e = .ok () e := nr rfl
theorem guard_f {e : Env} : M.guard false e = .bad := nr rfl
theorem ite_M {α : Type} {c : Prop} [Decidable c] {m m' : M α} {e : Env} : (if c then m else m') e = if c then m e else m' e := by split <;> rfl
def slotD : Option (Option D) → Env → R D
  | some (some d), e => .ok d e
  | _, _ => .bad
theorem slotD_s {d : D} : slotD (some (some d)) e = .ok d e := nr rfl
theorem slot_eq {i : Nat} : getSlot i e = slotD e[i]? e := by
  unfold getSlot slotD
  cases e[i]? with
  | none => rfl
  | some o => cases o <;> rfl
theorem setSlot_eq {i : Nat} {d : D} : setSlot i d e = .ok () (e.set i (some d)) := nr rfl
def keepD : Option (Option D) → Nat → Env → R D
  | some (some d), i, e => if d.plain = true then .ok d e else .ok d.frz (e.set i (some d.frz))
  | _, _, _ => .bad
theorem keepD_s {d : D} {i : Nat} : keepD (some (some d)) i e = if d.plain = true then .ok d e else .ok d.frz (e.set i (some d.frz)) := nr rfl
theorem keep_eq {i : Nat} : keep i e = keepD e[i]? i e := by
  unfold keep getSlot keepD
  cases h : e[i]? with
  | none => simp only [bind_M, h]; rfl
  | some o =>
    cases o with
    | none => simp only [bind_M, h]; rfl
    | some d =>
      simp only [bind_M, h]
      show (if d.plain then _ else _ : M D) e = _
      split <;> rfl
theorem truth_n : D.truth .non = some false := nr rfl
theorem truth_b {b : Bool} : D.truth (.bl b) = some b := nr rfl
theorem truth_i {i : Int} : D.truth (.int i) = some (i != 0) := nr rfl
theorem truth_l {ds : List D} : D.truth (.lst ds) = some (!ds.isEmpty) := nr rfl
theorem truth_o {ds : List D} : D.truth (.own ds) = some (!ds.isEmpty) := nr rfl
theorem truth_t {ds : List D} : D.truth (.tup ds) = some (!ds.isEmpty) := nr rfl
theorem asInt_i {i : Int} : asInt (.int i) e = .ok i e := nr rfl
/-! expressions -/
theorem o_var {i : Nat} : (ev Φ (.var i)).o e = keepD e[i]? i e := keep_eq
theorem v_var {i : Nat} : (ev Φ (.var i)).v e = slotD e[i]? e := slot_eq
theorem t_var {i : Nat} : (ev Φ (.var i)).t e = (slotD e[i]? e).bind fun d => M.of d.truth := by
  show ((getSlot i e).bind fun d => M.of d.truth) = _
  rw [slot_eq]
theorem o_con {x : String} {d : D} : (ev Φ (.con x d)).o e = .ok d e := nr rfl
theorem v_con {x : String} {d : D} : (ev Φ (.con x d)).v e = .ok d e := nr rfl
theorem o_gfn {f : Nat} : (ev Φ (.gfn f)).o e = .ok (.fn f) e := nr rfl
theorem o_lit {l : Lit} : (ev Φ (.lit l)).o e = .ok l.d e := nr rfl
theorem v_lit {l : Lit} : (ev Φ (.lit l)).v e = .ok l.d e := nr rfl
theorem o_tuple {es : Exs} : (ev Φ (.tuple es)).o e = (evs Φ es e).bind fun ds => do
    M.guard (decide (ds.length ≤ LIM))
    return .tup ds := nr rfl
theorem v_tuple {es : Exs} : (ev Φ (.tuple es)).v e = (evs Φ es e).bind fun ds => do
    M.guard (decide (ds.length ≤ LIM))
    return .tup ds := nr rfl
theorem o_list {es : Exs} : (ev Φ (.list es)).o e = (evs Φ es e).bind fun ds => do
    M.guard (decide (ds.length ≤ LIM))
    return .own ds := nr rfl
theorem v_list {es : Exs} : (ev Φ (.list es)).v e = (evs Φ es e).bind fun ds => do
    M.guard (decide (ds.length ≤ LIM))
    return .own ds := nr rfl
theorem o_neg {a : Ex} : (ev Φ (.neg a)).o e = ((ev Φ a).o e).bind fun d => (asInt d >>= fun i => pure (.int (-i))) := nr rfl
theorem v_neg {a : Ex} : (ev Φ (.neg a)).v e = ((ev Φ a).o e).bind fun d => (asInt d >>= fun i => pure (.int (-i))) := nr rfl
theorem o_not {a : Ex} : (ev Φ (.not a)).o e = ((ev Φ a).o e).bind fun x => (M.of x.truth >>= fun b => pure (.bl (!b))) := nr rfl
theorem v_not {a : Ex} : (ev Φ (.not a)).v e = ((ev Φ a).o e).bind fun x => (M.of x.truth >>= fun b => pure (.bl (!b))) := nr rfl
theorem t_not {a : Ex} : (ev Φ (.not a)).t e = ((ev Φ a).t e).bind fun b => pure (!b) := nr rfl
theorem o_and {a b : Ex} : (ev Φ (.and a b)).o e = ((ev Φ a).o e).bind fun x => (M.of x.truth >>= fun c => if c then (ev Φ b).o else pure x) := nr rfl
theorem v_and {a b : Ex} : (ev Φ (.and a b)).v e = ((ev Φ a).o e).bind fun x => (M.of x.truth >>= fun c => if c then (ev Φ b).o else pure x) := nr rfl
theorem t_and {a b : Ex} : (ev Φ (.and a b)).t e = ((ev Φ a).t e).bind fun c => if c then (ev Φ b).t else pure false := nr rfl
theorem o_or {a b : Ex} : (ev Φ (.or a b)).o e = ((ev Φ a).o e).bind fun x => (M.of x.truth >>= fun c => if c then pure x else (ev Φ b).o) := nr rfl
theorem v_or {a b : Ex} : (ev Φ (.or a b)).v e = ((ev Φ a).o e).bind fun x => (M.of x.truth >>= fun c => if c then pure x else (ev Φ b).o) := nr rfl
theorem t_or {a b : Ex} : (ev Φ (.or a b)).t e = ((ev Φ a).t e).bind fun c => if c then pure true else (ev Φ b).t := nr rfl
theorem o_bin {o : Bop} {a b : Ex} : (ev Φ (.bin o a b)).o e = ((ev Φ a).o e).bind fun x => ((ev Φ b).o >>= fun y => M.of (binSem o x.frz y.frz)) := nr rfl
theorem v_bin {o : Bop} {a b : Ex} : (ev Φ (.bin o a b)).v e = ((ev Φ a).o e).bind fun x => ((ev Φ b).o >>= fun y => M.of (binSem o x.frz y.frz)) := nr rfl
theorem t_cmp {o : Cop} {a b : Ex} : (ev Φ (.cmp o a b)).t e = ((if quiet b = true then (ev Φ a).v else (ev Φ a).o) e).bind fun x => ((ev Φ b).v >>= fun y => M.of (cmpSem o x y)) := by
  rw [ev]
  cases q : quiet b with
  | true => simp only [q, if_true]; rfl
  | false => simp only [q, if_neg Bool.false_ne_true]; rfl
theorem o_cmp {o : Cop} {a b : Ex} : (ev Φ (.cmp o a b)).o e = ((ev Φ (.cmp o a b)).t e).bind fun c => pure (.bl c) := nr rfl
theorem v_cmp {o : Cop} {a b : Ex} : (ev Φ (.cmp o a b)).v e = ((ev Φ (.cmp o a b)).t e).bind fun c => pure (.bl c) := nr rfl
theorem t_isC {a : Ex} {l : Lit} : (ev Φ (.isC a l)).t e = ((ev Φ a).v e).bind fun x => M.of (isSem x l) := nr rfl
theorem o_isC {a : Ex} {l : Lit} : (ev Φ (.isC a l)).o e = ((ev Φ (.isC a l)).t e).bind fun c => pure (.bl c) := nr rfl
theorem v_isC {a : Ex} {l : Lit} : (ev Φ (.isC a l)).v e = ((ev Φ (.isC a l)).t e).bind fun c => pure (.bl c) := nr rfl
theorem t_notC {a : Ex} {l : Lit} : (ev Φ (.notC a l)).t e = ((ev Φ a).v e).bind fun x => (M.of (isSem x l) >>= fun b => pure (!b)) := nr rfl
theorem o_notC {a : Ex} {l : Lit} : (ev Φ (.notC a l)).o e = ((ev Φ (.notC a l)).t e).bind fun c => pure (.bl c) := nr rfl
theorem v_notC {a : Ex} {l : Lit} : (ev Φ (.notC a l)).v e = ((ev Φ (.notC a l)).t e).bind fun c => pure (.bl c) := nr rfl
theorem t_chain {o1 o2 : Cop} {a b c : Ex} : (ev Φ (.chain o1 o2 a b c)).t e = ((ev Φ a).o e).bind fun x => ((ev Φ b).o >>= fun y => (M.of (cmpSem o1 x y) >>= fun k => if k then ((ev Φ c).o >>= fun z => M.of (cmpSem o2 y z)) else pure false)) := nr rfl
theorem o_chain {o1 o2 : Cop} {a b c : Ex} : (ev Φ (.chain o1 o2 a b c)).o e = ((ev Φ (.chain o1 o2 a b c)).t e).bind fun c => pure (.bl c) := nr rfl
theorem v_chain {o1 o2 : Cop} {a b c : Ex} : (ev Φ (.chain o1 o2 a b c)).v e = ((ev Φ (.chain o1 o2 a b c)).t e).bind fun c => pure (.bl c) := nr rfl
theorem o_ite {c a b : Ex} : (ev Φ (.ite c a b)).o e = ((ev Φ c).t e).bind fun k => if k then (ev Φ a).o else (ev Φ b).o := nr rfl
theorem v_ite {c a b : Ex} : (ev Φ (.ite c a b)).v e = ((ev Φ c).t e).bind fun k => if k then (ev Φ a).o else (ev Φ b).o := nr rfl
/-- the end of a call -/
def finC (as : List Ar) : FR → Env → R D
  | .ok d ds, e => .ok d (giveBack as ds e)
  | .exc c ps ds, e => .exc c ps (giveBack as ds e)
  | .bad, _ => .bad
theorem finC_ok {as : List Ar} {d : D} {ds : List D} : finC as (.ok d ds) e = .ok d (giveBack as ds e) := nr rfl
theorem finC_exc {as : List Ar} {c : Xc} {ps ds : List D} : finC as (.exc c ps ds) e = .exc c ps (giveBack as ds e) := nr rfl
theorem callM_eq {φ : List D → FR} {as : List Ar} : callM φ as e = (lend as e).bind fun ds => finC as (φ ds) := by
  show (lend as e).bind _ = _
  congr 1
  funext ds e
  show (match φ ds with | .ok d ds' => _ | .exc c ps ds' => _ | .bad => _) = _
  cases φ ds <;> rfl
theorem o_call {f : Nat} {as : Exs} : (ev Φ (.call f as)).o e = (evAs Φ as e).bind fun as => callM (Φ f) as := nr rfl
theorem v_call {f : Nat} {as : Exs} : (ev Φ (.call f as)).v e = (evAs Φ as e).bind fun as => callM (Φ f) as := nr rfl
theorem o_calld {f : Nat} {as : Exs} {dl : List Lit} : (ev Φ (.calld f as dl)).o e = (evAs Φ as e).bind fun as => callM (Φ f) (as ++ dl.map fun l => .val l.d) := nr rfl
theorem v_calld {f : Nat} {as : Exs} {dl : List Lit} : (ev Φ (.calld f as dl)).v e = (evAs Φ as e).bind fun as => callM (Φ f) (as ++ dl.map fun l => .val l.d) := nr rfl
theorem o_callk {f : Nat} {ks : List Nat} {as : Exs} : (ev Φ (.callk f ks as)).o e = (evAs Φ as e).bind fun as => (M.of (permute ks (as.map Ar.frz)) >>= fun as => callM (Φ f) as) := nr rfl
theorem v_callk {f : Nat} {ks : List Nat} {as : Exs} : (ev Φ (.callk f ks as)).v e = (evAs Φ as e).bind fun as => (M.of (permute ks (as.map Ar.frz)) >>= fun as => callM (Φ f) as) := nr rfl
def callvK (Φ : Ora) (as : Exs) : D → M D
  | .fn f => evAs Φ as >>= fun as => callM (Φ f) as
  | _ => M.bad
theorem callvK_fn {f : Nat} {as : Exs} : callvK Φ as (.fn f) e = (evAs Φ as e).bind fun as => callM (Φ f) as := nr rfl
theorem o_callv {i : Nat} {as : Exs} : (ev Φ (.callv i as)).o e = (slotD e[i]? e).bind (callvK Φ as) := by
  rw [← slot_eq]
  show (getSlot i e).bind _ = _
  congr 1
theorem v_callv {i : Nat} {as : Exs} : (ev Φ (.callv i as)).v e = (slotD e[i]? e).bind (callvK Φ as) := o_callv
theorem o_bi {b : Bi} {as : Exs} : (ev Φ (.bi b as)).o e = (evVs Φ as e).bind fun ds => M.of (biSem b ds) := nr rfl
theorem v_bi {b : Bi} {as : Exs} : (ev Φ (.bi b as)).v e = (evVs Φ as e).bind fun ds => M.of (biSem b ds) := nr rfl
theorem o_isi {a : Ex} {ts : List Ty} : (ev Φ (.isi a ts)).o e = ((ev Φ a).v e).bind fun d => (M.of (tysIs d ts) >>= fun b => pure (.bl b)) := nr rfl
theorem v_isi {a : Ex} {ts : List Ty} : (ev Φ (.isi a ts)).v e = ((ev Φ a).v e).bind fun d => (M.of (tysIs d ts) >>= fun b => pure (.bl b)) := nr rfl
/-- x[i] -/
theorem v_ixv {i : Nat} {b : Ex} : (ev Φ (.idx (.var i) b)).v e = (slotD e[i]? e).bind fun _ => ((ev Φ b).o >>= fun y => (getSlot i >>= fun x => M.of (ixSem x y))) := by
  rw [← slot_eq]; rfl
theorem v_ixi {a1 a2 : Ex} {b : Ex} : (ev Φ (.idx (.idx a1 a2) b)).v e = ((ev Φ (.idx a1 a2)).v e).bind fun x => (M.guard (still b || x.plain) >>= fun _ => ((ev Φ b).o >>= fun y => M.of (ixSem x y))) := nr rfl
theorem o_ix {a b : Ex} : (ev Φ (.idx a b)).o e = ((ev Φ (.idx a b)).v e).bind fun d => (M.guard d.plain >>= fun _ => pure d) := nr rfl
theorem t_ix {a b : Ex} : (ev Φ (.idx a b)).t e = ((ev Φ (.idx a b)).v e).bind fun d => M.of d.truth := nr rfl
theorem o_slv {i : Nat} {lo hi : Op} : (ev Φ (.sl (.var i) lo hi)).o e = (slotD e[i]? e).bind fun _ => (evO Φ lo >>= fun l => (evO Φ hi >>= fun h => (getSlot i >>= fun x => M.of (slSem x l h)))) := by
  rw [← slot_eq]; rfl
theorem v_sl {a : Ex} {lo hi : Op} : (ev Φ (.sl a lo hi)).v = (ev Φ (.sl a lo hi)).o := nr rfl
theorem o_rev {a : Ex} : (ev Φ (.rev a)).o e = ((ev Φ a).v e).bind fun x => M.of (revSem x) := nr rfl
theorem v_rev {a : Ex} : (ev Φ (.rev a)).v e = ((ev Φ a).v e).bind fun x => M.of (revSem x) := nr rfl
theorem o_meth {m : Mt} {a : Ex} {as : Exs} : (ev Φ (.meth m a as)).o e = ((ev Φ a).o e).bind fun x => (M.guard (mtTy m x) >>= fun _ => (evVs Φ as >>= fun ys => M.of (mtSem m x ys))) := nr rfl
theorem v_meth {m : Mt} {a : Ex} {as : Exs} : (ev Φ (.meth m a as)).v e = ((ev Φ a).o e).bind fun x => (M.guard (mtTy m x) >>= fun _ => (evVs Φ as >>= fun ys => M.of (mtSem m x ys))) := nr rfl
theorem o_comp {x : Ex} {tg : Tg} {it : It} {c : Op} : (ev Φ (.comp x tg it c)).o e = (evIt Φ it e).bind fun items => compM tg (evC Φ c) (ev Φ x).o items := nr rfl
theorem v_comp {x : Ex} {tg : Tg} {it : It} {c : Op} : (ev Φ (.comp x tg it c)).v e = (evIt Φ it e).bind fun items => compM tg (evC Φ c) (ev Φ x).o items := nr rfl
/-! lists of expressions -/
theorem evs_n : evs Φ .nil e = .ok [] e := nr rfl
theorem evs_c {x : Ex} {r : Exs} : evs Φ (.cons x r) e = ((ev Φ x).o e).bind fun d => (evs Φ r >>= fun ds => pure (d :: ds)) := nr rfl
theorem evVs_n : evVs Φ .nil e = .ok [] e := nr rfl
theorem evVs_1 {x : Ex} : evVs Φ (.cons x .nil) e = ((ev Φ x).v e).bind fun d => pure [d] := nr rfl
theorem evVs_c {x y : Ex} {r : Exs} : evVs Φ (.cons x (.cons y r)) e = ((ev Φ x).o e).bind fun d => (evVs Φ (.cons y r) >>= fun ds => pure (d :: ds)) := nr rfl
theorem evAs_n : evAs Φ .nil e = .ok [] e := nr rfl
theorem evAs_v {i : Nat} {r : Exs} : evAs Φ (.cons (.var i) r) e = (slotD e[i]? e).bind fun d => (evAs Φ r >>= fun ds => pure ((if d.plain = true then .val d else .slot i) :: ds)) := by
  rw [← slot_eq]; rfl
theorem evIxs_n : evIxs Φ .nil e = .ok [] e := nr rfl
theorem evO_n : evO Φ .none e = .ok none e := nr rfl
theorem evO_s {x : Ex} : evO Φ (.some x) e = ((ev Φ x).o e).bind fun d => (asInt d >>= fun i => pure (some i)) := nr rfl
theorem evC_n : evC Φ .none e = .ok true e := nr rfl
theorem evC_s {x : Ex} : evC Φ (.some x) e = (ev Φ x).t e := nr rfl
theorem it_p {x : Ex} : evIt Φ (.plain x) e = ((ev Φ x).o e).bind fun d => M.of (itemsOf d) := nr rfl
theorem it_r1 {a : Ex} : evIt Φ (.range1 a) e = ((ev Φ a).o e).bind fun d => (asInt d >>= fun j => (M.guard (small j) >>= fun _ => pure (rangeD 0 1 j.toNat))) := nr rfl
theorem it_r2 {a b : Ex} : evIt Φ (.range2 a b) e = ((ev Φ a).o e).bind fun d => (asInt d >>= fun i => ((ev Φ b).o >>= fun d => (asInt d >>= fun j => (M.guard (small i && small j) >>= fun _ => pure (rangeD i 1 (j - i).toNat))))) := nr rfl
theorem it_z {a b : Ex} : evIt Φ (.zip2 a b) e = ((ev Φ a).o e).bind fun d => (M.of (itemsOf d) >>= fun xs => ((ev Φ b).o >>= fun d => (M.of (itemsOf d) >>= fun ys => pure (zipD xs ys)))) := nr rfl
theorem it_e {a : Ex} : evIt Φ (.enum a) e = ((ev Φ a).o e).bind fun d => (M.of (itemsOf d) >>= fun xs => pure (enumAux 0 xs)) := nr rfl
theorem lend_n : lend [] e = .ok [] e := nr rfl
theorem lend_v {d : D} {r : List Ar} : lend (.val d :: r) e = (lend r e).bind fun ds => pure (d :: ds) := nr rfl
theorem lend_s {i : Nat} {r : List Ar} : lend (.slot i :: r) e = (slotD e[i]? e).bind fun d => ((fun e => .ok () (e.set i none) : M Unit) >>= fun _ => (lend r >>= fun ds => pure (d :: ds))) := by
  rw [← slot_eq]; rfl
theorem giveBack_v {d x : D} {as : List Ar} {ds : List D} : giveBack (.val d :: as) (x :: ds) e = giveBack as ds e := nr rfl
theorem giveBack_s {i : Nat} {x : D} {as : List Ar} {ds : List D} : giveBack (.slot i :: as) (x :: ds) e = giveBack as ds (e.set i (some x)) := nr rfl
theorem giveBack_n {ds : List D} : giveBack [] ds e = e := by cases ds <;> rfl
/-! statements -/
def seqK (m : M Fl) : Fl → M Fl
  | .nx => m
  | f => pure f
theorem seqK_n {m : M Fl} : seqK m .nx e = m e := nr rfl
theorem seqK_r {m : M Fl} {d : D} : seqK m (.rt d) e = .ok (.rt d) e := nr rfl
theorem seqK_b {m : M Fl} : seqK m .bk e = .ok .bk e := nr rfl
theorem seqK_c {m : M Fl} : seqK m .ct e = .ok .ct e := nr rfl
theorem ss_n : evSs Φ wh np .nil e = .ok .nx e := nr rfl
theorem ss_c {s : Sm} {r : Sms} : evSs Φ wh np (.cons s r) e = (evS Φ wh np s e).bind (seqK (evSs Φ wh np r)) := by
  show (evS Φ wh np s e).bind _ = _
  congr 1
theorem s_set {i : Nat} {x : Ex} : evS Φ wh np (.set i x) e = ((ev Φ x).o e).bind fun d e => .ok .nx (e.set i (some d)) := nr rfl
def setAll (is : List Nat) (ds : List D) (e : Env) : Env := (is.zip ds).foldl (fun e p => e.set p.1 (some p.2)) e
theorem setAll_c {i : Nat} {is : List Nat} {d : D} {ds : List D} : setAll (i :: is) (d :: ds) e = setAll is ds (e.set i (some d)) := nr rfl
theorem setAll_n {ds : List D} : setAll [] ds e = e := nr rfl
theorem s_par {is : List Nat} {es : Exs} : evS Φ wh np (.par is es) e = (evs Φ es e).bind fun ds e => if is.length = ds.length then .ok .nx (setAll is ds e) else .bad := by
  show (evs Φ es e).bind _ = _
  congr 1
  funext ds e
  show (if is.length = ds.length then _ else M.bad : M Fl) e = _
  split <;> rfl
theorem s_unpack {is : List Nat} {x : Ex} : evS Φ wh np (.unpack is x) e = ((ev Φ x).o e).bind fun d => (bindTg (.tup is) d >>= fun _ => pure .nx) := nr rfl
theorem s_setIx {i : Nat} {k x : Ex} : evS Φ wh np (.setIx i .nil k x) e = ((ev Φ x).o e).bind fun v => (getSlot i >>= fun _ => ((ev Φ k).o >>= fun d => (asInt d >>= fun k => (modSlot i [] (setAtD k v) >>= fun _ => pure .nx)))) := nr rfl
theorem s_aug {i : Nat} {o : Bop} {x : Ex} : evS Φ wh np (.aug i o x) e = (slotD e[i]? e).bind fun x0 => ((ev Φ x).o >>= fun y => (M.of (augSem o x0 y) >>= fun z => (setSlot i z >>= fun _ => pure .nx))) := by
  rw [← slot_eq]; rfl
theorem s_append {i : Nat} {x : Ex} : evS Φ wh np (.append i .nil x) e = (slotD e[i]? e).bind fun _ => (peekAt i [] >>= fun _ => ((ev Φ x).o >>= fun v => (modSlot i [] (fun ds => if ds.length < LIM then some (ds ++ [v], .non) else none) >>= fun _ => pure .nx))) := by
  rw [← slot_eq]; rfl
theorem s_extend {i : Nat} {x : Ex} : evS Φ wh np (.extend i .nil x) e = (slotD e[i]? e).bind fun _ => (peekAt i [] >>= fun _ => ((ev Φ x).o >>= fun v => (M.of v.list? >>= fun vs => (modSlot i [] (fun ds => if ds.length + vs.length ≤ LIM then some (ds ++ vs, .non) else none) >>= fun _ => pure .nx)))) := by
  rw [← slot_eq]; rfl
def peekD : Option (Option D) → Env → R Unit
  | some (some (.own _)), e => .ok () e
  | _, _ => .bad
theorem peekD_o {ds : List D} : peekD (some (some (.own ds))) e = .ok () e := nr rfl
theorem peek_eq {i : Nat} : peekAt i [] e = peekD e[i]? e := by
  show ((getSlot i >>= fun c => _ : M Unit) e) = _
  rw [bind_M, slot_eq]
  cases e[i]? with
  | none => rfl
  | some o =>
    cases o with
    | none => rfl
    | some d => cases d <;> rfl
def modK (i : Nat) (e : Env) : Option (List D × D) → R D
  | some r => .ok r.2 (e.set i (some (.own r.1)))
  | none => .bad
theorem modK_s {i : Nat} {ds : List D} {d : D} : modK i e (some (ds, d)) = .ok d (e.set i (some (.own ds))) := nr rfl
def modD : Option (Option D) → Nat → (List D → Option (List D × D)) → Env → R D
  | some (some (.own ds)), i, f, e => modK i e (f ds)
  | _, _, _, _ => .bad
theorem modD_o {i : Nat} {ds : List D} {f : List D → Option (List D × D)} : modD (some (some (.own ds))) i f e = modK i e (f ds) := nr rfl
theorem mod_eq {i : Nat} {f : List D → Option (List D × D)} : modSlot i [] f e = modD e[i]? i f e := by
  unfold modSlot
  cases e[i]? with
  | none => rfl
  | some o =>
    cases o with
    | none => rfl
    | some d =>
      cases d <;> first | rfl | skip
      rename_i ds
      show (match (f ds).map (fun r => (D.own r.1, r.2)) with | some r => _ | none => _) = modK i e (f ds)
      cases f ds <;> rfl
theorem s_expr {x : Ex} : evS Φ wh np (.expr x) e = ((ev Φ x).o e).bind fun _ => pure .nx := nr rfl
theorem s_ite {c : Ex} {a b : Sms} : evS Φ wh np (.ite c a b) e = ((ev Φ c).t e).bind fun k => if k then evSs Φ wh np a else evSs Φ wh np b := nr rfl
theorem s_loop {tg : Tg} {it : It} {b : Sms} : evS Φ wh np (.loop tg it b) e = (evIt Φ it e).bind (forGo tg (evSs Φ wh np b)) := nr rfl
theorem s_while {c : Ex} {b : Sms} : evS Φ wh np (.while c b) e = wh (evT Φ c) (evSs Φ wh np b) e := nr rfl
theorem s_ret {x : Ex} : evS Φ wh np (.ret x) e = (moveOut Φ np x e).bind fun d => pure (.rt d) := nr rfl
theorem mo_var {i : Nat} : moveOut Φ np (.var i) e = if i < np then keepD e[i]? i e else (slotD e[i]? e).bind fun d e => .ok d (e.set i none) := by
  rw [← keep_eq, ← slot_eq]
  show (if i < np then evE Φ (.var i) else _ : M D) e = _
  split <;> rfl
theorem mo_con {x : String} {d : D} : moveOut Φ np (.con x d) e = (ev Φ (.con x d)).o e := nr rfl
theorem t_con {x : String} {d : D} : (ev Φ (.con x d)).t e = ((ev Φ (.con x d)).o e).bind fun d => M.of d.truth := nr rfl
theorem vix_con {x : String} {d : D} {k : Ex} : (ev Φ (.idx (.con x d) k)).v e = ((ev Φ (.con x d)).o e).bind fun x => ((ev Φ k).o >>= fun y => M.of (ixSem x y)) := nr rfl
theorem osl_con {x : String} {d : D} {l' h' : Op} : (ev Φ (.sl (.con x d) l' h')).o e = ((ev Φ (.con x d)).o e).bind fun x => (evO Φ l' >>= fun l => (evO Φ h' >>= fun h => M.of (slSem x l h))) := nr rfl
theorem as_con {x : String} {d : D} {r' : Exs} : evAs Φ (.cons (.con x d) r') e = ((ev Φ (.con x d)).o e).bind fun d => (evAs Φ r' >>= fun ds => pure (.val d :: ds)) := nr rfl
theorem mo_gfn {f : Nat} : moveOut Φ np (.gfn f) e = (ev Φ (.gfn f)).o e := nr rfl
theorem t_gfn {f : Nat} : (ev Φ (.gfn f)).t e = ((ev Φ (.gfn f)).o e).bind fun d => M.of d.truth := nr rfl
theorem vix_gfn {f : Nat} {k : Ex} : (ev Φ (.idx (.gfn f) k)).v e = ((ev Φ (.gfn f)).o e).bind fun x => ((ev Φ k).o >>= fun y => M.of (ixSem x y)) := nr rfl
theorem osl_gfn {f : Nat} {l' h' : Op} : (ev Φ (.sl (.gfn f) l' h')).o e = ((ev Φ (.gfn f)).o e).bind fun x => (evO Φ l' >>= fun l => (evO Φ h' >>= fun h => M.of (slSem x l h))) := nr rfl
theorem as_gfn {f : Nat} {r' : Exs} : evAs Φ (.cons (.gfn f) r') e = ((ev Φ (.gfn f)).o e).bind fun d => (evAs Φ r' >>= fun ds => pure (.val d :: ds)) := nr rfl
theorem mo_lit {l : Lit} : moveOut Φ np (.lit l) e = (ev Φ (.lit l)).o e := nr rfl
theorem t_lit {l : Lit} : (ev Φ (.lit l)).t e = ((ev Φ (.lit l)).o e).bind fun d => M.of d.truth := nr rfl
theorem vix_lit {l : Lit} {k : Ex} : (ev Φ (.idx (.lit l) k)).v e = ((ev Φ (.lit l)).o e).bind fun x => ((ev Φ k).o >>= fun y => M.of (ixSem x y)) := nr rfl
theorem osl_lit {l : Lit} {l' h' : Op} : (ev Φ (.sl (.lit l) l' h')).o e = ((ev Φ (.lit l)).o e).bind fun x => (evO Φ l' >>= fun l => (evO Φ h' >>= fun h => M.of (slSem x l h))) := nr rfl
theorem as_lit {l : Lit} {r' : Exs} : evAs Φ (.cons (.lit l) r') e = ((ev Φ (.lit l)).o e).bind fun d => (evAs Φ r' >>= fun ds => pure (.val d :: ds)) := nr rfl
theorem mo_tuple {es : Exs} : moveOut Φ np (.tuple es) e = (ev Φ (.tuple es)).o e := nr rfl
theorem t_tuple {es : Exs} : (ev Φ (.tuple es)).t e = ((ev Φ (.tuple es)).o e).bind fun d => M.of d.truth := nr rfl
theorem vix_tuple {es : Exs} {k : Ex} : (ev Φ (.idx (.tuple es) k)).v e = ((ev Φ (.tuple es)).o e).bind fun x => ((ev Φ k).o >>= fun y => M.of (ixSem x y)) := nr rfl
theorem osl_tuple {es : Exs} {l' h' : Op} : (ev Φ (.sl (.tuple es) l' h')).o e = ((ev Φ (.tuple es)).o e).bind fun x => (evO Φ l' >>= fun l => (evO Φ h' >>= fun h => M.of (slSem x l h))) := nr rfl
theorem as_tuple {es : Exs} {r' : Exs} : evAs Φ (.cons (.tuple es) r') e = ((ev Φ (.tuple es)).o e).bind fun d => (evAs Φ r' >>= fun ds => pure (.val d :: ds)) := nr rfl
theorem mo_list {es : Exs} : moveOut Φ np (.list es) e = (ev Φ (.list es)).o e := nr rfl
theorem t_list {es : Exs} : (ev Φ (.list es)).t e = ((ev Φ (.list es)).o e).bind fun d => M.of d.truth := nr rfl
theorem vix_list {es : Exs} {k : Ex} : (ev Φ (.idx (.list es) k)).v e = ((ev Φ (.list es)).o e).bind fun x => ((ev Φ k).o >>= fun y => M.of (ixSem x y)) := nr rfl
theorem osl_list {es : Exs} {l' h' : Op} : (ev Φ (.sl (.list es) l' h')).o e = ((ev Φ (.list es)).o e).bind fun x => (evO Φ l' >>= fun l => (evO Φ h' >>= fun h => M.of (slSem x l h))) := nr rfl
theorem as_list {es : Exs} {r' : Exs} : evAs Φ (.cons (.list es) r') e = ((ev Φ (.list es)).o e).bind fun d => (evAs Φ r' >>= fun ds => pure (.val d :: ds)) := nr rfl
theorem mo_neg {a : Ex} : moveOut Φ np (.neg a) e = (ev Φ (.neg a)).o e := nr rfl
theorem t_neg {a : Ex} : (ev Φ (.neg a)).t e = ((ev Φ (.neg a)).o e).bind fun d => M.of d.truth := nr rfl
theorem vix_neg {a : Ex} {k : Ex} : (ev Φ (.idx (.neg a) k)).v e = ((ev Φ (.neg a)).o e).bind fun x => ((ev Φ k).o >>= fun y => M.of (ixSem x y)) := nr rfl
theorem osl_neg {a : Ex} {l' h' : Op} : (ev Φ (.sl (.neg a) l' h')).o e = ((ev Φ (.neg a)).o e).bind fun x => (evO Φ l' >>= fun l => (evO Φ h' >>= fun h => M.of (slSem x l h))) := nr rfl
theorem as_neg {a : Ex} {r' : Exs} : evAs Φ (.cons (.neg a) r') e = ((ev Φ (.neg a)).o e).bind fun d => (evAs Φ r' >>= fun ds => pure (.val d :: ds)) := nr rfl
theorem mo_not {a : Ex} : moveOut Φ np (.not a) e = (ev Φ (.not a)).o e := nr rfl
theorem vix_not {a : Ex} {k : Ex} : (ev Φ (.idx (.not a) k)).v e = ((ev Φ (.not a)).o e).bind fun x => ((ev Φ k).o >>= fun y => M.of (ixSem x y)) := nr rfl
theorem osl_not {a : Ex} {l' h' : Op} : (ev Φ (.sl (.not a) l' h')).o e = ((ev Φ (.not a)).o e).bind fun x => (evO Φ l' >>= fun l => (evO Φ h' >>= fun h => M.of (slSem x l h))) := nr rfl
theorem as_not {a : Ex} {r' : Exs} : evAs Φ (.cons (.not a) r') e = ((ev Φ (.not a)).o e).bind fun d => (evAs Φ r' >>= fun ds => pure (.val d :: ds)) := nr rfl
theorem mo_and {a b : Ex} : moveOut Φ np (.and a b) e = (ev Φ (.and a b)).o e := nr rfl
theorem vix_and {a b : Ex} {k : Ex} : (ev Φ (.idx (.and a b) k)).v e = ((ev Φ (.and a b)).o e).bind fun x => ((ev Φ k).o >>= fun y => M.of (ixSem x y)) := nr rfl
theorem osl_and {a b : Ex} {l' h' : Op} : (ev Φ (.sl (.and a b) l' h')).o e = ((ev Φ (.and a b)).o e).bind fun x => (evO Φ l' >>= fun l => (evO Φ h' >>= fun h => M.of (slSem x l h))) := nr rfl
theorem as_and {a b : Ex} {r' : Exs} : evAs Φ (.cons (.and a b) r') e = ((ev Φ (.and a b)).o e).bind fun d => (evAs Φ r' >>= fun ds => pure (.val d :: ds)) := nr rfl
theorem mo_or {a b : Ex} : moveOut Φ np (.or a b) e = (ev Φ (.or a b)).o e := nr rfl
theorem vix_or {a b : Ex} {k : Ex} : (ev Φ (.idx (.or a b) k)).v e = ((ev Φ (.or a b)).o e).bind fun x => ((ev Φ k).o >>= fun y => M.of (ixSem x y)) := nr rfl
theorem osl_or {a b : Ex} {l' h' : Op} : (ev Φ (.sl (.or a b) l' h')).o e = ((ev Φ (.or a b)).o e).bind fun x => (evO Φ l' >>= fun l => (evO Φ h' >>= fun h => M.of (slSem x l h))) := nr rfl
theorem as_or {a b : Ex} {r' : Exs} : evAs Φ (.cons (.or a b) r') e = ((ev Φ (.or a b)).o e).bind fun d => (evAs Φ r' >>= fun ds => pure (.val d :: ds)) := nr rfl
theorem mo_bin {o : Bop} {a b : Ex} : moveOut Φ np (.bin o a b) e = (ev Φ (.bin o a b)).o e := nr rfl
theorem t_bin {o : Bop} {a b : Ex} : (ev Φ (.bin o a b)).t e = ((ev Φ (.bin o a b)).o e).bind fun d => M.of d.truth := nr rfl
theorem vix_bin {o : Bop} {a b : Ex} {k : Ex} : (ev Φ (.idx (.bin o a b) k)).v e = ((ev Φ (.bin o a b)).o e).bind fun x => ((ev Φ k).o >>= fun y => M.of (ixSem x y)) := nr rfl
theorem osl_bin {o : Bop} {a b : Ex} {l' h' : Op} : (ev Φ (.sl (.bin o a b) l' h')).o e = ((ev Φ (.bin o a b)).o e).bind fun x => (evO Φ l' >>= fun l => (evO Φ h' >>= fun h => M.of (slSem x l h))) := nr rfl
theorem as_bin {o : Bop} {a b : Ex} {r' : Exs} : evAs Φ (.cons (.bin o a b) r') e = ((ev Φ (.bin o a b)).o e).bind fun d => (evAs Φ r' >>= fun ds => pure (.val d :: ds)) := nr rfl
theorem mo_cmp {o : Cop} {a b : Ex} : moveOut Φ np (.cmp o a b) e = (ev Φ (.cmp o a b)).o e := nr rfl
theorem vix_cmp {o : Cop} {a b : Ex} {k : Ex} : (ev Φ (.idx (.cmp o a b) k)).v e = ((ev Φ (.cmp o a b)).o e).bind fun x => ((ev Φ k).o >>= fun y => M.of (ixSem x y)) := nr rfl
theorem osl_cmp {o : Cop} {a b : Ex} {l' h' : Op} : (ev Φ (.sl (.cmp o a b) l' h')).o e = ((ev Φ (.cmp o a b)).o e).bind fun x => (evO Φ l' >>= fun l => (evO Φ h' >>= fun h => M.of (slSem x l h))) := nr rfl
theorem as_cmp {o : Cop} {a b : Ex} {r' : Exs} : evAs Φ (.cons (.cmp o a b) r') e = ((ev Φ (.cmp o a b)).o e).bind fun d => (evAs Φ r' >>= fun ds => pure (.val d :: ds)) := nr rfl
theorem mo_isC {a : Ex} {l : Lit} : moveOut Φ np (.isC a l) e = (ev Φ (.isC a l)).o e := nr rfl
theorem vix_isC {a : Ex} {l : Lit} {k : Ex} : (ev Φ (.idx (.isC a l) k)).v e = ((ev Φ (.isC a l)).o e).bind fun x => ((ev Φ k).o >>= fun y => M.of (ixSem x y)) := nr rfl
theorem osl_isC {a : Ex} {l : Lit} {l' h' : Op} : (ev Φ (.sl (.isC a l) l' h')).o e = ((ev Φ (.isC a l)).o e).bind fun x => (evO Φ l' >>= fun l => (evO Φ h' >>= fun h => M.of (slSem x l h))) := nr rfl
theorem as_isC {a : Ex} {l : Lit} {r' : Exs} : evAs Φ (.cons (.isC a l) r') e = ((ev Φ (.isC a l)).o e).bind fun d => (evAs Φ r' >>= fun ds => pure (.val d :: ds)) := nr rfl
theorem mo_notC {a : Ex} {l : Lit} : moveOut Φ np (.notC a l) e = (ev Φ (.notC a l)).o e := nr rfl
theorem vix_notC {a : Ex} {l : Lit} {k : Ex} : (ev Φ (.idx (.notC a l) k)).v e = ((ev Φ (.notC a l)).o e).bind fun x => ((ev Φ k).o >>= fun y => M.of (ixSem x y)) := nr rfl
theorem osl_notC {a : Ex} {l : Lit} {l' h' : Op} : (ev Φ (.sl (.notC a l) l' h')).o e = ((ev Φ (.notC a l)).o e).bind fun x => (evO Φ l' >>= fun l => (evO Φ h' >>= fun h => M.of (slSem x l h))) := nr rfl
theorem as_notC {a : Ex} {l : Lit} {r' : Exs} : evAs Φ (.cons (.notC a l) r') e = ((ev Φ (.notC a l)).o e).bind fun d => (evAs Φ r' >>= fun ds => pure (.val d :: ds)) := nr rfl
theorem mo_chain {o1 o2 : Cop} {a b c : Ex} : moveOut Φ np (.chain o1 o2 a b c) e = (ev Φ (.chain o1 o2 a b c)).o e := nr rfl
theorem vix_chain {o1 o2 : Cop} {a b c : Ex} {k : Ex} : (ev Φ (.idx (.chain o1 o2 a b c) k)).v e = ((ev Φ (.chain o1 o2 a b c)).o e).bind fun x => ((ev Φ k).o >>= fun y => M.of (ixSem x y)) := nr rfl
theorem osl_chain {o1 o2 : Cop} {a b c : Ex} {l' h' : Op} : (ev Φ (.sl (.chain o1 o2 a b c) l' h')).o e = ((ev Φ (.chain o1 o2 a b c)).o e).bind fun x => (evO Φ l' >>= fun l => (evO Φ h' >>= fun h => M.of (slSem x l h))) := nr rfl
theorem as_chain {o1 o2 : Cop} {a b c : Ex} {r' : Exs} : evAs Φ (.cons (.chain o1 o2 a b c) r') e = ((ev Φ (.chain o1 o2 a b c)).o e).bind fun d => (evAs Φ r' >>= fun ds => pure (.val d :: ds)) := nr rfl
theorem mo_chain3 {o1 o2 o3 : Cop} {a b c d : Ex} : moveOut Φ np (.chain3 o1 o2 o3 a b c d) e = (ev Φ (.chain3 o1 o2 o3 a b c d)).o e := nr rfl
theorem vix_chain3 {o1 o2 o3 : Cop} {a b c d : Ex} {k : Ex} : (ev Φ (.idx (.chain3 o1 o2 o3 a b c d) k)).v e = ((ev Φ (.chain3 o1 o2 o3 a b c d)).o e).bind fun x => ((ev Φ k).o >>= fun y => M.of (ixSem x y)) := nr rfl
theorem osl_chain3 {o1 o2 o3 : Cop} {a b c d : Ex} {l' h' : Op} : (ev Φ (.sl (.chain3 o1 o2 o3 a b c d) l' h')).o e = ((ev Φ (.chain3 o1 o2 o3 a b c d)).o e).bind fun x => (evO Φ l' >>= fun l => (evO Φ h' >>= fun h => M.of (slSem x l h))) := nr rfl
theorem as_chain3 {o1 o2 o3 : Cop} {a b c d : Ex} {r' : Exs} : evAs Φ (.cons (.chain3 o1 o2 o3 a b c d) r') e = ((ev Φ (.chain3 o1 o2 o3 a b c d)).o e).bind fun d => (evAs Φ r' >>= fun ds => pure (.val d :: ds)) := nr rfl
theorem mo_ite {c a b : Ex} : moveOut Φ np (.ite c a b) e = (ev Φ (.ite c a b)).o e := nr rfl
theorem t_ite {c a b : Ex} : (ev Φ (.ite c a b)).t e = ((ev Φ (.ite c a b)).o e).bind fun d => M.of d.truth := nr rfl
theorem vix_ite {c a b : Ex} {k : Ex} : (ev Φ (.idx (.ite c a b) k)).v e = ((ev Φ (.ite c a b)).o e).bind fun x => ((ev Φ k).o >>= fun y => M.of (ixSem x y)) := nr rfl
theorem osl_ite {c a b : Ex} {l' h' : Op} : (ev Φ (.sl (.ite c a b) l' h')).o e = ((ev Φ (.ite c a b)).o e).bind fun x => (evO Φ l' >>= fun l => (evO Φ h' >>= fun h => M.of (slSem x l h))) := nr rfl
theorem as_ite {c a b : Ex} {r' : Exs} : evAs Φ (.cons (.ite c a b) r') e = ((ev Φ (.ite c a b)).o e).bind fun d => (evAs Φ r' >>= fun ds => pure (.val d :: ds)) := nr rfl
theorem mo_call {f : Nat} {as : Exs} : moveOut Φ np (.call f as) e = (ev Φ (.call f as)).o e := nr rfl
theorem t_call {f : Nat} {as : Exs} : (ev Φ (.call f as)).t e = ((ev Φ (.call f as)).o e).bind fun d => M.of d.truth := nr rfl
theorem vix_call {f : Nat} {as : Exs} {k : Ex} : (ev Φ (.idx (.call f as) k)).v e = ((ev Φ (.call f as)).o e).bind fun x => ((ev Φ k).o >>= fun y => M.of (ixSem x y)) := nr rfl
theorem osl_call {f : Nat} {as : Exs} {l' h' : Op} : (ev Φ (.sl (.call f as) l' h')).o e = ((ev Φ (.call f as)).o e).bind fun x => (evO Φ l' >>= fun l => (evO Φ h' >>= fun h => M.of (slSem x l h))) := nr rfl
theorem as_call {f : Nat} {as : Exs} {r' : Exs} : evAs Φ (.cons (.call f as) r') e = ((ev Φ (.call f as)).o e).bind fun d => (evAs Φ r' >>= fun ds => pure (.val d :: ds)) := nr rfl
theorem mo_calld {f : Nat} {as : Exs} {dl : List Lit} : moveOut Φ np (.calld f as dl) e = (ev Φ (.calld f as dl)).o e := nr rfl
theorem t_calld {f : Nat} {as : Exs} {dl : List Lit} : (ev Φ (.calld f as dl)).t e = ((ev Φ (.calld f as dl)).o e).bind fun d => M.of d.truth := nr rfl
theorem vix_calld {f : Nat} {as : Exs} {dl : List Lit} {k : Ex} : (ev Φ (.idx (.calld f as dl) k)).v e = ((ev Φ (.calld f as dl)).o e).bind fun x => ((ev Φ k).o >>= fun y => M.of (ixSem x y)) := nr rfl
theorem osl_calld {f : Nat} {as : Exs} {dl : List Lit} {l' h' : Op} : (ev Φ (.sl (.calld f as dl) l' h')).o e = ((ev Φ (.calld f as dl)).o e).bind fun x => (evO Φ l' >>= fun l => (evO Φ h' >>= fun h => M.of (slSem x l h))) := nr rfl
theorem as_calld {f : Nat} {as : Exs} {dl : List Lit} {r' : Exs} : evAs Φ (.cons (.calld f as dl) r') e = ((ev Φ (.calld f as dl)).o e).bind fun d => (evAs Φ r' >>= fun ds => pure (.val d :: ds)) := nr rfl
theorem mo_callk {f : Nat} {ks : List Nat} {as : Exs} : moveOut Φ np (.callk f ks as) e = (ev Φ (.callk f ks as)).o e := nr rfl
theorem t_callk {f : Nat} {ks : List Nat} {as : Exs} : (ev Φ (.callk f ks as)).t e = ((ev Φ (.callk f ks as)).o e).bind fun d => M.of d.truth := nr rfl
theorem vix_callk {f : Nat} {ks : List Nat} {as : Exs} {k : Ex} : (ev Φ (.idx (.callk f ks as) k)).v e = ((ev Φ (.callk f ks as)).o e).bind fun x => ((ev Φ k).o >>= fun y => M.of (ixSem x y)) := nr rfl
theorem osl_callk {f : Nat} {ks : List Nat} {as : Exs} {l' h' : Op} : (ev Φ (.sl (.callk f ks as) l' h')).o e = ((ev Φ (.callk f ks as)).o e).bind fun x => (evO Φ l' >>= fun l => (evO Φ h' >>= fun h => M.of (slSem x l h))) := nr rfl
theorem as_callk {f : Nat} {ks : List Nat} {as : Exs} {r' : Exs} : evAs Φ (.cons (.callk f ks as) r') e = ((ev Φ (.callk f ks as)).o e).bind fun d => (evAs Φ r' >>= fun ds => pure (.val d :: ds)) := nr rfl
theorem mo_callv {i : Nat} {as : Exs} : moveOut Φ np (.callv i as) e = (ev Φ (.callv i as)).o e := nr rfl
theorem t_callv {i : Nat} {as : Exs} : (ev Φ (.callv i as)).t e = ((ev Φ (.callv i as)).o e).bind fun d => M.of d.truth := nr rfl
theorem vix_callv {i : Nat} {as : Exs} {k : Ex} : (ev Φ (.idx (.callv i as) k)).v e = ((ev Φ (.callv i as)).o e).bind fun x => ((ev Φ k).o >>= fun y => M.of (ixSem x y)) := nr rfl
theorem osl_callv {i : Nat} {as : Exs} {l' h' : Op} : (ev Φ (.sl (.callv i as) l' h')).o e = ((ev Φ (.callv i as)).o e).bind fun x => (evO Φ l' >>= fun l => (evO Φ h' >>= fun h => M.of (slSem x l h))) := nr rfl
theorem as_callv {i : Nat} {as : Exs} {r' : Exs} : evAs Φ (.cons (.callv i as) r') e = ((ev Φ (.callv i as)).o e).bind fun d => (evAs Φ r' >>= fun ds => pure (.val d :: ds)) := nr rfl
theorem mo_bi {b : Bi} {as : Exs} : moveOut Φ np (.bi b as) e = (ev Φ (.bi b as)).o e := nr rfl
theorem t_bi {b : Bi} {as : Exs} : (ev Φ (.bi b as)).t e = ((ev Φ (.bi b as)).o e).bind fun d => M.of d.truth := nr rfl
theorem vix_bi {b : Bi} {as : Exs} {k : Ex} : (ev Φ (.idx (.bi b as) k)).v e = ((ev Φ (.bi b as)).o e).bind fun x => ((ev Φ k).o >>= fun y => M.of (ixSem x y)) := nr rfl
theorem osl_bi {b : Bi} {as : Exs} {l' h' : Op} : (ev Φ (.sl (.bi b as) l' h')).o e = ((ev Φ (.bi b as)).o e).bind fun x => (evO Φ l' >>= fun l => (evO Φ h' >>= fun h => M.of (slSem x l h))) := nr rfl
theorem as_bi {b : Bi} {as : Exs} {r' : Exs} : evAs Φ (.cons (.bi b as) r') e = ((ev Φ (.bi b as)).o e).bind fun d => (evAs Φ r' >>= fun ds => pure (.val d :: ds)) := nr rfl
theorem mo_rangeL {a : Ex} : moveOut Φ np (.rangeL a) e = (ev Φ (.rangeL a)).o e := nr rfl
theorem t_rangeL {a : Ex} : (ev Φ (.rangeL a)).t e = ((ev Φ (.rangeL a)).o e).bind fun d => M.of d.truth := nr rfl
theorem vix_rangeL {a : Ex} {k : Ex} : (ev Φ (.idx (.rangeL a) k)).v e = ((ev Φ (.rangeL a)).o e).bind fun x => ((ev Φ k).o >>= fun y => M.of (ixSem x y)) := nr rfl
theorem osl_rangeL {a : Ex} {l' h' : Op} : (ev Φ (.sl (.rangeL a) l' h')).o e = ((ev Φ (.rangeL a)).o e).bind fun x => (evO Φ l' >>= fun l => (evO Φ h' >>= fun h => M.of (slSem x l h))) := nr rfl
theorem as_rangeL {a : Ex} {r' : Exs} : evAs Φ (.cons (.rangeL a) r') e = ((ev Φ (.rangeL a)).o e).bind fun d => (evAs Φ r' >>= fun ds => pure (.val d :: ds)) := nr rfl
theorem mo_isi {a : Ex} {ts : List Ty} : moveOut Φ np (.isi a ts) e = (ev Φ (.isi a ts)).o e := nr rfl
theorem t_isi {a : Ex} {ts : List Ty} : (ev Φ (.isi a ts)).t e = ((ev Φ (.isi a ts)).o e).bind fun d => M.of d.truth := nr rfl
theorem vix_isi {a : Ex} {ts : List Ty} {k : Ex} : (ev Φ (.idx (.isi a ts) k)).v e = ((ev Φ (.isi a ts)).o e).bind fun x => ((ev Φ k).o >>= fun y => M.of (ixSem x y)) := nr rfl
theorem osl_isi {a : Ex} {ts : List Ty} {l' h' : Op} : (ev Φ (.sl (.isi a ts) l' h')).o e = ((ev Φ (.isi a ts)).o e).bind fun x => (evO Φ l' >>= fun l => (evO Φ h' >>= fun h => M.of (slSem x l h))) := nr rfl
theorem as_isi {a : Ex} {ts : List Ty} {r' : Exs} : evAs Φ (.cons (.isi a ts) r') e = ((ev Φ (.isi a ts)).o e).bind fun d => (evAs Φ r' >>= fun ds => pure (.val d :: ds)) := nr rfl
theorem mo_sset {a : Ex} : moveOut Φ np (.sset a) e = (ev Φ (.sset a)).o e := nr rfl
theorem t_sset {a : Ex} : (ev Φ (.sset a)).t e = ((ev Φ (.sset a)).o e).bind fun d => M.of d.truth := nr rfl
theorem vix_sset {a : Ex} {k : Ex} : (ev Φ (.idx (.sset a) k)).v e = ((ev Φ (.sset a)).o e).bind fun x => ((ev Φ k).o >>= fun y => M.of (ixSem x y)) := nr rfl
theorem osl_sset {a : Ex} {l' h' : Op} : (ev Φ (.sl (.sset a) l' h')).o e = ((ev Φ (.sset a)).o e).bind fun x => (evO Φ l' >>= fun l => (evO Φ h' >>= fun h => M.of (slSem x l h))) := nr rfl
theorem as_sset {a : Ex} {r' : Exs} : evAs Φ (.cons (.sset a) r') e = ((ev Φ (.sset a)).o e).bind fun d => (evAs Φ r' >>= fun ds => pure (.val d :: ds)) := nr rfl
theorem mo_lset {a : Ex} : moveOut Φ np (.lset a) e = (ev Φ (.lset a)).o e := nr rfl
theorem t_lset {a : Ex} : (ev Φ (.lset a)).t e = ((ev Φ (.lset a)).o e).bind fun d => M.of d.truth := nr rfl
theorem vix_lset {a : Ex} {k : Ex} : (ev Φ (.idx (.lset a) k)).v e = ((ev Φ (.lset a)).o e).bind fun x => ((ev Φ k).o >>= fun y => M.of (ixSem x y)) := nr rfl
theorem osl_lset {a : Ex} {l' h' : Op} : (ev Φ (.sl (.lset a) l' h')).o e = ((ev Φ (.lset a)).o e).bind fun x => (evO Φ l' >>= fun l => (evO Φ h' >>= fun h => M.of (slSem x l h))) := nr rfl
theorem as_lset {a : Ex} {r' : Exs} : evAs Φ (.cons (.lset a) r') e = ((ev Φ (.lset a)).o e).bind fun d => (evAs Φ r' >>= fun ds => pure (.val d :: ds)) := nr rfl
theorem mo_idx {a b : Ex} : moveOut Φ np (.idx a b) e = (ev Φ (.idx a b)).o e := nr rfl
theorem osl_idx {a b : Ex} {l' h' : Op} : (ev Φ (.sl (.idx a b) l' h')).o e = ((ev Φ (.idx a b)).o e).bind fun x => (evO Φ l' >>= fun l => (evO Φ h' >>= fun h => M.of (slSem x l h))) := nr rfl
theorem as_idx {a b : Ex} {r' : Exs} : evAs Φ (.cons (.idx a b) r') e = ((ev Φ (.idx a b)).o e).bind fun d => (evAs Φ r' >>= fun ds => pure (.val d :: ds)) := nr rfl
theorem mo_sl {a : Ex} {lo hi : Op} : moveOut Φ np (.sl a lo hi) e = (ev Φ (.sl a lo hi)).o e := nr rfl
theorem t_sl {a : Ex} {lo hi : Op} : (ev Φ (.sl a lo hi)).t e = ((ev Φ (.sl a lo hi)).o e).bind fun d => M.of d.truth := nr rfl
theorem vix_sl {a : Ex} {lo hi : Op} {k : Ex} : (ev Φ (.idx (.sl a lo hi) k)).v e = ((ev Φ (.sl a lo hi)).o e).bind fun x => ((ev Φ k).o >>= fun y => M.of (ixSem x y)) := nr rfl
theorem osl_sl {a : Ex} {lo hi : Op} {l' h' : Op} : (ev Φ (.sl (.sl a lo hi) l' h')).o e = ((ev Φ (.sl a lo hi)).o e).bind fun x => (evO Φ l' >>= fun l => (evO Φ h' >>= fun h => M.of (slSem x l h))) := nr rfl
theorem as_sl {a : Ex} {lo hi : Op} {r' : Exs} : evAs Φ (.cons (.sl a lo hi) r') e = ((ev Φ (.sl a lo hi)).o e).bind fun d => (evAs Φ r' >>= fun ds => pure (.val d :: ds)) := nr rfl
theorem mo_rev {a : Ex} : moveOut Φ np (.rev a) e = (ev Φ (.rev a)).o e := nr rfl
theorem t_rev {a : Ex} : (ev Φ (.rev a)).t e = ((ev Φ (.rev a)).o e).bind fun d => M.of d.truth := nr rfl
theorem vix_rev {a : Ex} {k : Ex} : (ev Φ (.idx (.rev a) k)).v e = ((ev Φ (.rev a)).o e).bind fun x => ((ev Φ k).o >>= fun y => M.of (ixSem x y)) := nr rfl
theorem osl_rev {a : Ex} {l' h' : Op} : (ev Φ (.sl (.rev a) l' h')).o e = ((ev Φ (.rev a)).o e).bind fun x => (evO Φ l' >>= fun l => (evO Φ h' >>= fun h => M.of (slSem x l h))) := nr rfl
theorem as_rev {a : Ex} {r' : Exs} : evAs Φ (.cons (.rev a) r') e = ((ev Φ (.rev a)).o e).bind fun d => (evAs Φ r' >>= fun ds => pure (.val d :: ds)) := nr rfl
theorem mo_meth {m : Mt} {a : Ex} {as : Exs} : moveOut Φ np (.meth m a as) e = (ev Φ (.meth m a as)).o e := nr rfl
theorem t_meth {m : Mt} {a : Ex} {as : Exs} : (ev Φ (.meth m a as)).t e = ((ev Φ (.meth m a as)).o e).bind fun d => M.of d.truth := nr rfl
theorem vix_meth {m : Mt} {a : Ex} {as : Exs} {k : Ex} : (ev Φ (.idx (.meth m a as) k)).v e = ((ev Φ (.meth m a as)).o e).bind fun x => ((ev Φ k).o >>= fun y => M.of (ixSem x y)) := nr rfl
theorem osl_meth {m : Mt} {a : Ex} {as : Exs} {l' h' : Op} : (ev Φ (.sl (.meth m a as) l' h')).o e = ((ev Φ (.meth m a as)).o e).bind fun x => (evO Φ l' >>= fun l => (evO Φ h' >>= fun h => M.of (slSem x l h))) := nr rfl
theorem as_meth {m : Mt} {a : Ex} {as : Exs} {r' : Exs} : evAs Φ (.cons (.meth m a as) r') e = ((ev Φ (.meth m a as)).o e).bind fun d => (evAs Φ r' >>= fun ds => pure (.val d :: ds)) := nr rfl
theorem mo_pop {i : Nat} {ks : Exs} {a : Op} : moveOut Φ np (.pop i ks a) e = (ev Φ (.pop i ks a)).o e := nr rfl
theorem t_pop {i : Nat} {ks : Exs} {a : Op} : (ev Φ (.pop i ks a)).t e = ((ev Φ (.pop i ks a)).o e).bind fun d => M.of d.truth := nr rfl
theorem vix_pop {i : Nat} {ks : Exs} {a : Op} {k : Ex} : (ev Φ (.idx (.pop i ks a) k)).v e = ((ev Φ (.pop i ks a)).o e).bind fun x => ((ev Φ k).o >>= fun y => M.of (ixSem x y)) := nr rfl
theorem osl_pop {i : Nat} {ks : Exs} {a : Op} {l' h' : Op} : (ev Φ (.sl (.pop i ks a) l' h')).o e = ((ev Φ (.pop i ks a)).o e).bind fun x => (evO Φ l' >>= fun l => (evO Φ h' >>= fun h => M.of (slSem x l h))) := nr rfl
theorem as_pop {i : Nat} {ks : Exs} {a : Op} {r' : Exs} : evAs Φ (.cons (.pop i ks a) r') e = ((ev Φ (.pop i ks a)).o e).bind fun d => (evAs Φ r' >>= fun ds => pure (.val d :: ds)) := nr rfl
theorem mo_comp {x : Ex} {tg : Tg} {it : It} {c : Op} : moveOut Φ np (.comp x tg it c) e = (ev Φ (.comp x tg it c)).o e := nr rfl
theorem t_comp {x : Ex} {tg : Tg} {it : It} {c : Op} : (ev Φ (.comp x tg it c)).t e = ((ev Φ (.comp x tg it c)).o e).bind fun d => M.of d.truth := nr rfl
theorem vix_comp {x : Ex} {tg : Tg} {it : It} {c : Op} {k : Ex} : (ev Φ (.idx (.comp x tg it c) k)).v e = ((ev Φ (.comp x tg it c)).o e).bind fun x => ((ev Φ k).o >>= fun y => M.of (ixSem x y)) := nr rfl
theorem osl_comp {x : Ex} {tg : Tg} {it : It} {c : Op} {l' h' : Op} : (ev Φ (.sl (.comp x tg it c) l' h')).o e = ((ev Φ (.comp x tg it c)).o e).bind fun x => (evO Φ l' >>= fun l => (evO Φ h' >>= fun h => M.of (slSem x l h))) := nr rfl
theorem as_comp {x : Ex} {tg : Tg} {it : It} {c : Op} {r' : Exs} : evAs Φ (.cons (.comp x tg it c) r') e = ((ev Φ (.comp x tg it c)).o e).bind fun d => (evAs Φ r' >>= fun ds => pure (.val d :: ds)) := nr rfl
theorem mo_comp2 {x : Ex} {tg : Tg} {it : It} {c : Op} {tg2 : Tg} {it2 : It} {c2 : Op} : moveOut Φ np (.comp2 x tg it c tg2 it2 c2) e = (ev Φ (.comp2 x tg it c tg2 it2 c2)).o e := nr rfl
theorem t_comp2 {x : Ex} {tg : Tg} {it : It} {c : Op} {tg2 : Tg} {it2 : It} {c2 : Op} : (ev Φ (.comp2 x tg it c tg2 it2 c2)).t e = ((ev Φ (.comp2 x tg it c tg2 it2 c2)).o e).bind fun d => M.of d.truth := nr rfl
theorem vix_comp2 {x : Ex} {tg : Tg} {it : It} {c : Op} {tg2 : Tg} {it2 : It} {c2 : Op} {k : Ex} : (ev Φ (.idx (.comp2 x tg it c tg2 it2 c2) k)).v e = ((ev Φ (.comp2 x tg it c tg2 it2 c2)).o e).bind fun x => ((ev Φ k).o >>= fun y => M.of (ixSem x y)) := nr rfl
theorem osl_comp2 {x : Ex} {tg : Tg} {it : It} {c : Op} {tg2 : Tg} {it2 : It} {c2 : Op} {l' h' : Op} : (ev Φ (.sl (.comp2 x tg it c tg2 it2 c2) l' h')).o e = ((ev Φ (.comp2 x tg it c tg2 it2 c2)).o e).bind fun x => (evO Φ l' >>= fun l => (evO Φ h' >>= fun h => M.of (slSem x l h))) := nr rfl
theorem as_comp2 {x : Ex} {tg : Tg} {it : It} {c : Op} {tg2 : Tg} {it2 : It} {c2 : Op} {r' : Exs} : evAs Φ (.cons (.comp2 x tg it c tg2 it2 c2) r') e = ((ev Φ (.comp2 x tg it c tg2 it2 c2)).o e).bind fun d => (evAs Φ r' >>= fun ds => pure (.val d :: ds)) := nr rfl
theorem s_raise {c : Xc} {as : Exs} : evS Φ wh np (.raise c as) e = (evs Φ as e).bind fun ds e => .exc c ds e := nr rfl
/-- behind a try -/
def tryK (hs : Hds) : R Fl → R Fl
  | .exc c ps e => catch_ c ps hs e
  | r => r
theorem s_try {b : Sms} {hs : Hds} : evS Φ wh np (.tryx b hs) e = tryK hs (evSs Φ wh np b e) := by
  show (match evSs Φ wh np b e with | .exc c ps e' => _ | r => r) = _
  cases evSs Φ wh np b e <;> rfl
theorem tryK_ok {hs : Hds} {f : Fl} : tryK hs (.ok f e) = .ok f e := nr rfl
theorem tryK_exc {hs : Hds} {c : Xc} {ps : List D} : tryK hs (.exc c ps e) = catch_ c ps hs e := nr rfl
theorem s_pass : evS Φ wh np .pass e = .ok .nx e := nr rfl
theorem s_brk : evS Φ wh np .brk e = .ok .bk e := nr rfl
theorem s_cont : evS Φ wh np .cont e = .ok .ct e := nr rfl
/-- a def's end -/
def finR (ds : List D) : R Fl → FR
  | .ok (.rt d) e => FR.back (backArgs 0 ds e) (.ok d)
  | .ok .nx e => FR.back (backArgs 0 ds e) (.ok .non)
  | .exc c ps e => FR.back (backArgs 0 ds e) (.exc c ps)
  | _ => .bad
theorem finR_rt {ds : List D} {d : D} : finR ds (.ok (.rt d) e) = FR.back (backArgs 0 ds e) (.ok d) := nr rfl
theorem finR_nx {ds : List D} : finR ds (.ok .nx e) = FR.back (backArgs 0 ds e) (.ok .non) := nr rfl
theorem finR_exc {ds : List D} {c : Xc} {ps : List D} : finR ds (.exc c ps e) = FR.back (backArgs 0 ds e) (.exc c ps) := nr rfl
theorem back_s {ds : List D} {f : List D → FR} : FR.back (some ds) f = f ds := nr rfl
theorem backArgs_plain : ∀ {ds : List D} {k : Nat}, D.plains ds = true → backArgs k ds e = some ds
  | [], _, _ => rfl
  | d :: ds, k, h => by
    have h : (d.plain && D.plains ds) = true := h
    rw [Bool.and_eq_true] at h
    show (if d.plain then _ else _) = _
    rw [if_pos h.1, backArgs_plain h.2]
    rfl
theorem backArgs_p {d : D} {ds : List D} {k : Nat} (h : d.plain = true) : backArgs k (d :: ds) e = (backArgs (k + 1) ds e).map (d :: ·) := by
  show (if d.plain then _ else _) = _
  rw [if_pos h]
def backO : Option (Option D) → Option (List D) → Option (List D)
  | some (some x), some r => some (x :: r)
  | _, _ => none
theorem backO_s {x : D} {r : List D} : backO (some (some x)) (some r) = some (x :: r) := nr rfl
theorem backArgs_o {xs : List D} {ds : List D} {k : Nat} : backArgs k (.own xs :: ds) e = backO e[k]? (backArgs (k + 1) ds e) := by
  show (match e[k]?, backArgs (k + 1) ds e with
    | some (some x), some r => some (x :: r)
    | _, _ => none) = _
  cases e[k]? with
  | none => rfl
  | some o => cases o <;> cases backArgs (k + 1) ds e <;> rfl
theorem backArgs_n {k : Nat} : backArgs k [] e = some [] := nr rfl
def tailN : Nat → List String → Env
  | _, [] => []
  | 0, _ :: r => none :: tailN 0 r
  | k + 1, _ :: r => tailN k r
theorem tailN_n {k : Nat} : tailN k [] = [] := by cases k <;> rfl
theorem tailN_0 {x : String} {r : List String} : tailN 0 (x :: r) = none :: tailN 0 r := nr rfl
theorem tailN_s {k : Nat} {x : String} {r : List String} : tailN (k + 1) (x :: r) = tailN k r := nr rfl
theorem tailN_eq : ∀ (l : List String) (k : Nat), List.replicate (l.length - k) none = tailN k l
  | [], k => by rw [tailN_n]; simp
  | x :: r, 0 => by rw [tailN_0, ← tailN_eq r 0]; simp [List.replicate_succ]
  | x :: r, k + 1 => by rw [tailN_s, ← tailN_eq r k]; simp
theorem run_eq {fn : Fn} {ds : List D} : runFn Φ wh fn ds = if ds.length = fn.np ∧ okArgs fn.body.stores 0 ds = true then finR ds (evSs Φ wh fn.np fn.body (ds.map some ++ tailN fn.np fn.names)) else .bad := by
  rw [← tailN_eq]
  unfold runFn
  split
  · cases evSs Φ wh fn.np fn.body (ds.map some ++ List.replicate (fn.names.length - fn.np) none) with
    | ok f e => cases f <;> rfl
    | exc c ps e => rfl
    | bad => rfl
  · rfl
theorem run_s {T : Nat → Option Fn} {n f : Nat} {fn : Fn} {as : List D} (h : T f = some fn) : run T wh (n + 1) f as = runFn (run T wh n) wh fn as := by
  show (match T f with | some fn => _ | none => _) = _
  rw [h]
/-! values -/
theorem c_lt {i j : Int} : cmpSem .lt (.int i) (.int j) = some (decide (i < j)) := nr rfl
theorem c_le {i j : Int} : cmpSem .le (.int i) (.int j) = some (decide (i ≤ j)) := nr rfl
theorem c_gt {i j : Int} : cmpSem .gt (.int i) (.int j) = some (decide (j < i)) := nr rfl
theorem c_ge {i j : Int} : cmpSem .ge (.int i) (.int j) = some (decide (j ≤ i)) := nr rfl
theorem c_eq {x y : D} : cmpSem .eq x y = eqSem x y := nr rfl
theorem c_ne {x y : D} : cmpSem .ne x y = (eqSem x y).map (!·) := nr rfl
theorem c_in {x y : D} : cmpSem .isIn x y = inSem x y := nr rfl
theorem c_ni {x y : D} : cmpSem .notIn x y = (inSem x y).map (!·) := nr rfl
theorem eq_ii {i j : Int} : eqSem (.int i) (.int j) = some (i == j) := nr rfl
theorem eq_bb {i j : Bool} : eqSem (.bl i) (.bl j) = some (i == j) := nr rfl
theorem eq_ss {s t : List Nat} (h : (s.all fun c => decide (c < 1114112)) = true) (h' : (t.all fun c => decide (c < 1114112)) = true) : eqSem (.str s) (.str t) = some (s == t) := by
  show (if (_ && _ && _ && _) = true then _ else _) = _
  rw [if_pos (by show (((s.all fun c => decide (c < 1114112)) && (t.all fun c => decide (c < 1114112))) && decide (0 ≤ 60) && decide (0 ≤ 60)) = true; rw [h, h']; rfl)]
  rfl
theorem b_add {i j : Int} : binSem .add (.int i) (.int j) = some (.int (i + j)) := nr rfl
theorem b_adds {s t : List Nat} (h : s.length + t.length ≤ LIM) : binSem .add (.str s) (.str t) = some (.str (s ++ t)) := if_pos h
theorem b_addl {s t : List D} (h : s.length + t.length ≤ LIM) : binSem .add (.lst s) (.lst t) = some (.own (s ++ t)) := if_pos h
theorem b_sub {i j : Int} : binSem .sub (.int i) (.int j) = some (.int (i - j)) := nr rfl
theorem b_mulL {i j : Int} (h : i.natAbs < 2 ^ 64) : binSem .mul (.int i) (.int j) = some (.int (i * j)) := by
  simp only [binSem, mulSem]
  rw [if_pos (by unfold mulB; rw [decide_eq_true h]; rfl)]
theorem b_mulR {i j : Int} (h : j.natAbs < 2 ^ 64) : binSem .mul (.int i) (.int j) = some (.int (i * j)) := by
  simp only [binSem, mulSem]
  rw [if_pos (by unfold mulB; rw [decide_eq_true h, Bool.true_or, Bool.or_true])]
theorem b_div {i j : Int} (h : j ≠ 0) (h' : j.natAbs < BIGD) : binSem .fdiv (.int i) (.int j) = some (.int (i.fdiv j)) := by
  simp only [binSem]
  rw [if_pos ⟨h, h'⟩]
theorem b_mod {i j : Int} (h : j ≠ 0) : binSem .mod (.int i) (.int j) = some (.int (i.fmod j)) := if_pos h
theorem a_add {i j : Int} : augSem .add (.int i) (.int j) = some (.int (i + j)) := nr rfl
theorem a_sub {i j : Int} : augSem .sub (.int i) (.int j) = some (.int (i - j)) := nr rfl
theorem len_l {ds : List D} : bi1 .len (.lst ds) = some (.int ds.length) := nr rfl
theorem len_o {ds : List D} : bi1 .len (.own ds) = some (.int ds.length) := nr rfl
theorem len_t {ds : List D} : bi1 .len (.tup ds) = some (.int ds.length) := nr rfl
theorem len_s {s : List Nat} (h : s.length ≤ LIM) : bi1 .len (.str s) = some (.int s.length) := by
  simp only [bi1, lenSem]
  rw [if_pos h]; rfl
theorem bi_1 {b : Bi} {d : D} : biSem b [d] = bi1 b d := nr rfl
theorem bi_2 {b : Bi} {x y : D} : biSem b [x, y] = bi2 b x y := nr rfl
theorem int_i {i : Int} : bi1 .int (.int i) = some (.int i) := nr rfl
theorem int_b {b : Bool} : bi1 .int (.bl b) = some (.int (if b then 1 else 0)) := nr rfl
theorem abs_i {i : Int} : bi1 .abs (.int i) = some (.int (if i < 0 then -i else i)) := nr rfl
theorem tys_1 {d : D} {t : Ty} : tysIs d [t] = (tyIs d t).map (· || false) := by
  show (match tyIs d t, some false with | some a, some b => some (a || b) | _, _ => none) = _
  cases tyIs d t <;> rfl
theorem tys_2 {d : D} {t u : Ty} : tysIs d [t, u] = (match tyIs d t, tyIs d u with
  | some a, some b => some (a || b)
  | _, _ => none) := by
  show (match tyIs d t, tysIs d [u] with | some a, some b => some (a || b) | _, _ => none) = _
  rw [tys_1]
  cases tyIs d t <;> cases tyIs d u <;> simp
theorem lit_i {i : Int} : Lit.d (.int i) = .int i := nr rfl
theorem lit_s {s : List Nat} : Lit.d (.str s) = .str s := nr rfl
theorem lit_b {b : Bool} : Lit.d (.bl b) = .bl b := nr rfl
theorem lit_n : Lit.d .non = .non := nr rfl
theorem pl_i {i : Int} : D.plain (.int i) = true := nr rfl
theorem pl_s {s : List Nat} : D.plain (.str s) = true := nr rfl
theorem pl_b {b : Bool} : D.plain (.bl b) = true := nr rfl
theorem pl_n : D.plain .non = true := nr rfl
theorem pl_l {ds : List D} : D.plain (.lst ds) = true := nr rfl
theorem pl_o {ds : List D} : D.plain (.own ds) = false := nr rfl
theorem pl_t {ds : List D} : D.plain (.tup ds) = D.plains ds := nr rfl
theorem pl_f {f : Nat} : D.plain (.fn f) = true := nr rfl
theorem pl_scr {ns : List Int} : D.plain (.scr ns) = true := nr rfl
theorem pls_n : D.plains [] = true := nr rfl
theorem pls_c {d : D} {ds : List D} : D.plains (d :: ds) = (D.plain d && D.plains ds) := nr rfl
theorem frz_i {i : Int} : D.frz (.int i) = .int i := nr rfl
theorem frz_s {s : List Nat} : D.frz (.str s) = .str s := nr rfl
theorem frz_b {b : Bool} : D.frz (.bl b) = .bl b := nr rfl
theorem frz_l {ds : List D} : D.frz (.lst ds) = .lst ds := nr rfl
theorem frz_o {ds : List D} : D.frz (.own ds) = .lst (D.frzs ds) := nr rfl
theorem frz_t {ds : List D} : D.frz (.tup ds) = .tup (D.frzs ds) := nr rfl
theorem frzs_n : D.frzs [] = [] := nr rfl
theorem frzs_c {d : D} {ds : List D} : D.frzs (d :: ds) = D.frz d :: D.frzs ds := nr rfl
theorem okA_n {st : List Nat} {k : Nat} : okArgs st k [] = true := nr rfl
theorem okA_c {st : List Nat} {k : Nat} {d : D} {ds : List D} : okArgs st k (d :: ds) = ((d.plain || !st.contains k) && okArgs st (k + 1) ds) := nr rfl
theorem ar_v {d : D} : Ar.frz (.val d) = .val d.frz := nr rfl
theorem ar_s {i : Nat} : Ar.frz (.slot i) = .slot i := nr rfl
theorem px_0 : type_of% (And.intro @run_eq (And.intro @ss_n (And.intro @ss_c (And.intro @seqK_n (And.intro @seqK_r (And.intro @seqK_b (And.intro @seqK_c (And.intro @s_set (And.intro @setAll_c (And.intro @setAll_n (And.intro @s_par (And.intro @s_unpack (And.intro @s_setIx (And.intro @s_aug (And.intro @s_append (And.intro @s_extend (And.intro @s_expr (And.intro @s_ite (And.intro @s_loop (And.intro @s_while (And.intro @s_ret (And.intro @mo_var (And.intro @mo_con (And.intro @t_con (And.intro @vix_con (And.intro @osl_con (And.intro @as_con (And.intro @mo_gfn (And.intro @t_gfn (And.intro @vix_gfn (And.intro @osl_gfn (And.intro @as_gfn (And.intro @mo_lit (And.intro @t_lit (And.intro @vix_lit (And.intro @osl_lit (And.intro @as_lit (And.intro @mo_tuple (And.intro @t_tuple (@vix_tuple)))))))))))))))))))))))))))))))))))))))) := And.intro @run_eq (And.intro @ss_n (And.intro @ss_c (And.intro @seqK_n (And.intro @seqK_r (And.intro @seqK_b (And.intro @seqK_c (And.intro @s_set (And.intro @setAll_c (And.intro @setAll_n (And.intro @s_par (And.intro @s_unpack (And.intro @s_setIx (And.intro @s_aug (And.intro @s_append (And.intro @s_extend (And.intro @s_expr (And.intro @s_ite (And.intro @s_loop (And.intro @s_while (And.intro @s_ret (And.intro @mo_var (And.intro @mo_con (And.intro @t_con (And.intro @vix_con (And.intro @osl_con (And.intro @as_con (And.intro @mo_gfn (And.intro @t_gfn (And.intro @vix_gfn (And.intro @osl_gfn (And.intro @as_gfn (And.intro @mo_lit (And.intro @t_lit (And.intro @vix_lit (And.intro @osl_lit (And.intro @as_lit (And.intro @mo_tuple (And.intro @t_tuple (@vix_tuple)))))))))))))))))))))))))))))))))))))))
theorem px_1 : type_of% (And.intro @osl_tuple (And.intro @as_tuple (And.intro @mo_list (And.intro @t_list (And.intro @vix_list (And.intro @osl_list (And.intro @as_list (And.intro @mo_neg (And.intro @t_neg (And.intro @vix_neg (And.intro @osl_neg (And.intro @as_neg (And.intro @mo_not (And.intro @vix_not (And.intro @osl_not (And.intro @as_not (And.intro @mo_and (And.intro @vix_and (And.intro @osl_and (And.intro @as_and (And.intro @mo_or (And.intro @vix_or (And.intro @osl_or (And.intro @as_or (And.intro @mo_bin (And.intro @t_bin (And.intro @vix_bin (And.intro @osl_bin (And.intro @as_bin (And.intro @mo_cmp (And.intro @vix_cmp (And.intro @osl_cmp (And.intro @as_cmp (And.intro @mo_isC (And.intro @vix_isC (And.intro @osl_isC (And.intro @as_isC (And.intro @mo_notC (And.intro @vix_notC (@osl_notC)))))))))))))))))))))))))))))))))))))))) := And.intro @osl_tuple (And.intro @as_tuple (And.intro @mo_list (And.intro @t_list (And.intro @vix_list (And.intro @osl_list (And.intro @as_list (And.intro @mo_neg (And.intro @t_neg (And.intro @vix_neg (And.intro @osl_neg (And.intro @as_neg (And.intro @mo_not (And.intro @vix_not (And.intro @osl_not (And.intro @as_not (And.intro @mo_and (And.intro @vix_and (And.intro @osl_and (And.intro @as_and (And.intro @mo_or (And.intro @vix_or (And.intro @osl_or (And.intro @as_or (And.intro @mo_bin (And.intro @t_bin (And.intro @vix_bin (And.intro @osl_bin (And.intro @as_bin (And.intro @mo_cmp (And.intro @vix_cmp (And.intro @osl_cmp (And.intro @as_cmp (And.intro @mo_isC (And.intro @vix_isC (And.intro @osl_isC (And.intro @as_isC (And.intro @mo_notC (And.intro @vix_notC (@osl_notC)))))))))))))))))))))))))))))))))))))))
theorem px_2 : type_of% (And.intro @as_notC (And.intro @mo_chain (And.intro @vix_chain (And.intro @osl_chain (And.intro @as_chain (And.intro @mo_chain3 (And.intro @vix_chain3 (And.intro @osl_chain3 (And.intro @as_chain3 (And.intro @mo_ite (And.intro @t_ite (And.intro @vix_ite (And.intro @osl_ite (And.intro @as_ite (And.intro @mo_call (And.intro @t_call (And.intro @vix_call (And.intro @osl_call (And.intro @as_call (And.intro @mo_calld (And.intro @t_calld (And.intro @vix_calld (And.intro @osl_calld (And.intro @as_calld (And.intro @mo_callk (And.intro @t_callk (And.intro @vix_callk (And.intro @osl_callk (And.intro @as_callk (And.intro @mo_callv (And.intro @t_callv (And.intro @vix_callv (And.intro @osl_callv (And.intro @as_callv (And.intro @mo_bi (And.intro @t_bi (And.intro @vix_bi (And.intro @osl_bi (And.intro @as_bi (@mo_rangeL)))))))))))))))))))))))))))))))))))))))) := And.intro @as_notC (And.intro @mo_chain (And.intro @vix_chain (And.intro @osl_chain (And.intro @as_chain (And.intro @mo_chain3 (And.intro @vix_chain3 (And.intro @osl_chain3 (And.intro @as_chain3 (And.intro @mo_ite (And.intro @t_ite (And.intro @vix_ite (And.intro @osl_ite (And.intro @as_ite (And.intro @mo_call (And.intro @t_call (And.intro @vix_call (And.intro @osl_call (And.intro @as_call (And.intro @mo_calld (And.intro @t_calld (And.intro @vix_calld (And.intro @osl_calld (And.intro @as_calld (And.intro @mo_callk (And.intro @t_callk (And.intro @vix_callk (And.intro @osl_callk (And.intro @as_callk (And.intro @mo_callv (And.intro @t_callv (And.intro @vix_callv (And.intro @osl_callv (And.intro @as_callv (And.intro @mo_bi (And.intro @t_bi (And.intro @vix_bi (And.intro @osl_bi (And.intro @as_bi (@mo_rangeL)))))))))))))))))))))))))))))))))))))))
theorem px_3 : type_of% (And.intro @t_rangeL (And.intro @vix_rangeL (And.intro @osl_rangeL (And.intro @as_rangeL (And.intro @mo_isi (And.intro @t_isi (And.intro @vix_isi (And.intro @osl_isi (And.intro @as_isi (And.intro @mo_sset (And.intro @t_sset (And.intro @vix_sset (And.intro @osl_sset (And.intro @as_sset (And.intro @mo_lset (And.intro @t_lset (And.intro @vix_lset (And.intro @osl_lset (And.intro @as_lset (And.intro @mo_idx (And.intro @osl_idx (And.intro @as_idx (And.intro @mo_sl (And.intro @t_sl (And.intro @vix_sl (And.intro @osl_sl (And.intro @as_sl (And.intro @mo_rev (And.intro @t_rev (And.intro @vix_rev (And.intro @osl_rev (And.intro @as_rev (And.intro @mo_meth (And.intro @t_meth (And.intro @vix_meth (And.intro @osl_meth (And.intro @as_meth (And.intro @mo_pop (And.intro @t_pop (@vix_pop)))))))))))))))))))))))))))))))))))))))) := And.intro @t_rangeL (And.intro @vix_rangeL (And.intro @osl_rangeL (And.intro @as_rangeL (And.intro @mo_isi (And.intro @t_isi (And.intro @vix_isi (And.intro @osl_isi (And.intro @as_isi (And.intro @mo_sset (And.intro @t_sset (And.intro @vix_sset (And.intro @osl_sset (And.intro @as_sset (And.intro @mo_lset (And.intro @t_lset (And.intro @vix_lset (And.intro @osl_lset (And.intro @as_lset (And.intro @mo_idx (And.intro @osl_idx (And.intro @as_idx (And.intro @mo_sl (And.intro @t_sl (And.intro @vix_sl (And.intro @osl_sl (And.intro @as_sl (And.intro @mo_rev (And.intro @t_rev (And.intro @vix_rev (And.intro @osl_rev (And.intro @as_rev (And.intro @mo_meth (And.intro @t_meth (And.intro @vix_meth (And.intro @osl_meth (And.intro @as_meth (And.intro @mo_pop (And.intro @t_pop (@vix_pop)))))))))))))))))))))))))))))))))))))))
theorem px_4 : type_of% (And.intro @osl_pop (And.intro @as_pop (And.intro @mo_comp (And.intro @t_comp (And.intro @vix_comp (And.intro @osl_comp (And.intro @as_comp (And.intro @mo_comp2 (And.intro @t_comp2 (And.intro @vix_comp2 (And.intro @osl_comp2 (And.intro @as_comp2 (And.intro @s_raise (And.intro @s_try (And.intro @tryK_ok (And.intro @tryK_exc (And.intro @s_pass (And.intro @s_brk (And.intro @s_cont (And.intro @finR_rt (And.intro @finR_nx (And.intro @finR_exc (And.intro @back_s (And.intro @backArgs_p (And.intro @backArgs_o (And.intro @backO_s (And.intro @backArgs_n (And.intro @tailN_n (And.intro @tailN_0 (And.intro @tailN_s (And.intro @peek_eq (And.intro @peekD_o (And.intro @mod_eq (And.intro @modD_o (And.intro @modK_s (And.intro @o_var (And.intro @v_var (And.intro @t_var (And.intro @o_con (@v_con)))))))))))))))))))))))))))))))))))))))) := And.intro @osl_pop (And.intro @as_pop (And.intro @mo_comp (And.intro @t_comp (And.intro @vix_comp (And.intro @osl_comp (And.intro @as_comp (And.intro @mo_comp2 (And.intro @t_comp2 (And.intro @vix_comp2 (And.intro @osl_comp2 (And.intro @as_comp2 (And.intro @s_raise (And.intro @s_try (And.intro @tryK_ok (And.intro @tryK_exc (And.intro @s_pass (And.intro @s_brk (And.intro @s_cont (And.intro @finR_rt (And.intro @finR_nx (And.intro @finR_exc (And.intro @back_s (And.intro @backArgs_p (And.intro @backArgs_o (And.intro @backO_s (And.intro @backArgs_n (And.intro @tailN_n (And.intro @tailN_0 (And.intro @tailN_s (And.intro @peek_eq (And.intro @peekD_o (And.intro @mod_eq (And.intro @modD_o (And.intro @modK_s (And.intro @o_var (And.intro @v_var (And.intro @t_var (And.intro @o_con (@v_con)))))))))))))))))))))))))))))))))))))))
theorem px_5 : type_of% (And.intro @o_gfn (And.intro @o_lit (And.intro @v_lit (And.intro @o_tuple (And.intro @v_tuple (And.intro @o_list (And.intro @v_list (And.intro @o_neg (And.intro @v_neg (And.intro @o_not (And.intro @v_not (And.intro @t_not (And.intro @o_and (And.intro @v_and (And.intro @t_and (And.intro @o_or (And.intro @v_or (And.intro @t_or (And.intro @o_bin (And.intro @v_bin (And.intro @t_cmp (And.intro @o_cmp (And.intro @v_cmp (And.intro @t_isC (And.intro @o_isC (And.intro @v_isC (And.intro @t_notC (And.intro @o_notC (And.intro @v_notC (And.intro @t_chain (And.intro @o_chain (And.intro @v_chain (And.intro @o_ite (And.intro @v_ite (And.intro @finC_ok (And.intro @finC_exc (And.intro @callM_eq (And.intro @o_call (And.intro @v_call (@o_calld)))))))))))))))))))))))))))))))))))))))) := And.intro @o_gfn (And.intro @o_lit (And.intro @v_lit (And.intro @o_tuple (And.intro @v_tuple (And.intro @o_list (And.intro @v_list (And.intro @o_neg (And.intro @v_neg (And.intro @o_not (And.intro @v_not (And.intro @t_not (And.intro @o_and (And.intro @v_and (And.intro @t_and (And.intro @o_or (And.intro @v_or (And.intro @t_or (And.intro @o_bin (And.intro @v_bin (And.intro @t_cmp (And.intro @o_cmp (And.intro @v_cmp (And.intro @t_isC (And.intro @o_isC (And.intro @v_isC (And.intro @t_notC (And.intro @o_notC (And.intro @v_notC (And.intro @t_chain (And.intro @o_chain (And.intro @v_chain (And.intro @o_ite (And.intro @v_ite (And.intro @finC_ok (And.intro @finC_exc (And.intro @callM_eq (And.intro @o_call (And.intro @v_call (@o_calld)))))))))))))))))))))))))))))))))))))))
theorem px_6 : type_of% (And.intro @v_calld (And.intro @o_callk (And.intro @v_callk (And.intro @callvK_fn (And.intro @o_callv (And.intro @v_callv (And.intro @o_bi (And.intro @v_bi (And.intro @o_isi (And.intro @v_isi (And.intro @v_ixv (And.intro @v_ixi (And.intro @o_ix (And.intro @t_ix (And.intro @o_slv (And.intro @v_sl (And.intro @o_rev (And.intro @v_rev (And.intro @o_meth (And.intro @v_meth (And.intro @o_comp (And.intro @v_comp (And.intro @evs_n (And.intro @evs_c (And.intro @evVs_n (And.intro @evVs_1 (And.intro @evVs_c (And.intro @evAs_n (And.intro @evAs_v (And.intro @evIxs_n (And.intro @evO_n (And.intro @evO_s (And.intro @evC_n (And.intro @evC_s (And.intro @it_p (And.intro @it_r1 (And.intro @it_r2 (And.intro @it_z (And.intro @it_e (@lend_n)))))))))))))))))))))))))))))))))))))))) := And.intro @v_calld (And.intro @o_callk (And.intro @v_callk (And.intro @callvK_fn (And.intro @o_callv (And.intro @v_callv (And.intro @o_bi (And.intro @v_bi (And.intro @o_isi (And.intro @v_isi (And.intro @v_ixv (And.intro @v_ixi (And.intro @o_ix (And.intro @t_ix (And.intro @o_slv (And.intro @v_sl (And.intro @o_rev (And.intro @v_rev (And.intro @o_meth (And.intro @v_meth (And.intro @o_comp (And.intro @v_comp (And.intro @evs_n (And.intro @evs_c (And.intro @evVs_n (And.intro @evVs_1 (And.intro @evVs_c (And.intro @evAs_n (And.intro @evAs_v (And.intro @evIxs_n (And.intro @evO_n (And.intro @evO_s (And.intro @evC_n (And.intro @evC_s (And.intro @it_p (And.intro @it_r1 (And.intro @it_r2 (And.intro @it_z (And.intro @it_e (@lend_n)))))))))))))))))))))))))))))))))))))))
theorem px_7 : type_of% (And.intro @lend_v (And.intro @lend_s (And.intro @giveBack_v (And.intro @giveBack_s (And.intro @giveBack_n (And.intro @bind_M (And.intro @bind_M' (And.intro @pure_M (And.intro @pure_M' (And.intro @rb_ok (And.intro @rb_exc (And.intro @rb_bad (And.intro @of_some (And.intro @of_none (And.intro @guard_t (And.intro @guard_f (And.intro @slotD_s (And.intro @slot_eq (And.intro @setSlot_eq (And.intro @keepD_s (And.intro @keep_eq (And.intro @truth_n (And.intro @truth_b (And.intro @truth_i (And.intro @truth_l (And.intro @truth_o (And.intro @truth_t (And.intro @asInt_i (And.intro @c_lt (And.intro @c_le (And.intro @c_gt (And.intro @c_ge (And.intro @c_eq (And.intro @c_ne (And.intro @c_in (And.intro @c_ni (And.intro @eq_ii (And.intro @eq_bb (And.intro @b_add (@b_sub)))))))))))))))))))))))))))))))))))))))) := And.intro @lend_v (And.intro @lend_s (And.intro @giveBack_v (And.intro @giveBack_s (And.intro @giveBack_n (And.intro @bind_M (And.intro @bind_M' (And.intro @pure_M (And.intro @pure_M' (And.intro @rb_ok (And.intro @rb_exc (And.intro @rb_bad (And.intro @of_some (And.intro @of_none (And.intro @guard_t (And.intro @guard_f (And.intro @slotD_s (And.intro @slot_eq (And.intro @setSlot_eq (And.intro @keepD_s (And.intro @keep_eq (And.intro @truth_n (And.intro @truth_b (And.intro @truth_i (And.intro @truth_l (And.intro @truth_o (And.intro @truth_t (And.intro @asInt_i (And.intro @c_lt (And.intro @c_le (And.intro @c_gt (And.intro @c_ge (And.intro @c_eq (And.intro @c_ne (And.intro @c_in (And.intro @c_ni (And.intro @eq_ii (And.intro @eq_bb (And.intro @b_add (@b_sub)))))))))))))))))))))))))))))))))))))))
theorem px_8 : type_of% (And.intro @a_add (And.intro @a_sub (And.intro @len_l (And.intro @len_o (And.intro @len_t (And.intro @bi_1 (And.intro @bi_2 (And.intro @int_i (And.intro @int_b (And.intro @abs_i (And.intro @tys_1 (And.intro @tys_2 (And.intro @lit_i (And.intro @lit_s (And.intro @lit_b (And.intro @lit_n (And.intro @pl_i (And.intro @pl_s (And.intro @pl_b (And.intro @pl_n (And.intro @pl_l (And.intro @pl_o (And.intro @pl_t (And.intro @pl_f (And.intro @pl_scr (And.intro @pls_n (And.intro @pls_c (And.intro @frz_i (And.intro @frz_s (And.intro @frz_b (And.intro @frz_l (And.intro @frz_o (And.intro @frz_t (And.intro @frzs_n (And.intro @frzs_c (And.intro @okA_n (And.intro @okA_c (And.intro @ar_v (And.intro @ar_s (@ite_M)))))))))))))))))))))))))))))))))))))))) := And.intro @a_add (And.intro @a_sub (And.intro @len_l (And.intro @len_o (And.intro @len_t (And.intro @bi_1 (And.intro @bi_2 (And.intro @int_i (And.intro @int_b (And.intro @abs_i (And.intro @tys_1 (And.intro @tys_2 (And.intro @lit_i (And.intro @lit_s (And.intro @lit_b (And.intro @lit_n (And.intro @pl_i (And.intro @pl_s (And.intro @pl_b (And.intro @pl_n (And.intro @pl_l (And.intro @pl_o (And.intro @pl_t (And.intro @pl_f (And.intro @pl_scr (And.intro @pls_n (And.intro @pls_c (And.intro @frz_i (And.intro @frz_s (And.intro @frz_b (And.intro @frz_l (And.intro @frz_o (And.intro @frz_t (And.intro @frzs_n (And.intro @frzs_c (And.intro @okA_n (And.intro @okA_c (And.intro @ar_v (And.intro @ar_s (@ite_M)))))))))))))))))))))))))))))))))))))))
end Py.Q
end
section
/-! P2: loops, comprehensions, what all laws share -/
namespace Py.Q
theorem forGo_n {tg : Tg} {b : M Fl} {e : Env} : forGo tg b [] e = .ok .nx e := nr rfl
def forK (tg : Tg) (b : M Fl) (r : List D) : Fl → M Fl
  | .nx => forGo tg b r
  | .ct => forGo tg b r
  | .bk => pure .nx
  | .rt v => pure (.rt v)
theorem forK_n {tg : Tg} {b : M Fl} {r : List D} {e : Env} : forK tg b r .nx e = forGo tg b r e := nr rfl
theorem forK_c {tg : Tg} {b : M Fl} {r : List D} {e : Env} : forK tg b r .ct e = forGo tg b r e := nr rfl
theorem forK_b {tg : Tg} {b : M Fl} {r : List D} {e : Env} : forK tg b r .bk e = .ok .nx e := nr rfl
theorem forK_r {tg : Tg} {b : M Fl} {r : List D} {e : Env} {v : D} : forK tg b r (.rt v) e = .ok (.rt v) e := nr rfl
theorem forGo_c {tg : Tg} {b : M Fl} {d : D} {r : List D} {e : Env} : forGo tg b (d :: r) e = ((bindTg tg d >>= fun _ => b) e).bind (forK tg b r) := by
  show ((bindTg tg d e).bind fun _ => M.bind b fun f => match f with
    | .nx => forGo tg b r
    | .ct => forGo tg b r
    | .bk => pure .nx
    | .rt v => pure (.rt v)) = ((bindTg tg d e).bind fun _ => b).bind (forK tg b r)
  cases bindTg tg d e with
  | ok a e1 =>
    show (b e1).bind _ = (b e1).bind _
    congr 1
  | exc c ps e1 => rfl
  | bad => rfl
theorem bt_nm {i : Nat} {d : D} {e : Env} : bindTg (.nm i) d e = .ok () (e.set i (some d)) := nr rfl
theorem bt_tup {is : List Nat} {ds : List D} {e : Env} : bindTg (.tup is) (.tup ds) e = if is.length = ds.length then .ok () (setAll is ds e) else .bad := by
  show (if is.length = ds.length then _ else M.bad : M Unit) e = _
  split <;> rfl
theorem bt_own {is : List Nat} {ds : List D} {e : Env} : bindTg (.tup is) (.own ds) e = if is.length = ds.length then .ok () (setAll is ds e) else .bad := bt_tup
theorem bt_lst {is : List Nat} {ds : List D} {e : Env} : bindTg (.tup is) (.lst ds) e = if is.length = ds.length then .ok () (setAll is ds e) else .bad := bt_tup
/-- a loop that goes through -/
theorem for_inv {tg : Tg} {b : M Fl} (P : Nat → Env → Prop) : ∀ (items : List D) (k : Nat) (e : Env), P k e → (∀ (j : Nat) (d : D) (e : Env), items[j]? = some d → P (k + j) e → ∃ e', (bindTg tg d >>= fun _ => b) e = .ok .nx e' ∧ P (k + j + 1) e') → ∃ e', forGo tg b items e = .ok .nx e' ∧ P (k + items.length) e'
  | [], k, e, h, _ => ⟨e, rfl, h⟩
  | d :: r, k, e, h, st => by
    obtain ⟨e1, h1, p1⟩ := st 0 d e rfl h
    rw [Nat.add_zero] at p1
    obtain ⟨e2, h2, p2⟩ := for_inv P r (k + 1) e1 p1 fun j d e hj hp => by
      have := st (j + 1) d e (by simpa using hj) (by rw [show k + (j + 1) = k + 1 + j by omega]; exact hp)
      rw [show k + (j + 1) = k + 1 + j by omega] at this
      exact this
    refine ⟨e2, ?_, ?_⟩
    · rw [forGo_c, h1, rb_ok, forK_n, h2]
    · rw [List.length_cons, show k + (r.length + 1) = k + 1 + r.length by omega]; exact p2
theorem range_get {lo : Int} {n j : Nat} {d : D} (h : (rangeD lo 1 n)[j]? = some d) : j < n ∧ d = .int (lo + j) := by
  unfold rangeD at h
  rw [List.getElem?_map] at h
  by_cases hj : j < n
  · rw [List.getElem?_range hj] at h
    simp at h
    exact ⟨hj, h.symm⟩
  · rw [List.getElem?_eq_none (by simpa using hj)] at h; cases h
theorem range_len {lo c : Int} {n : Nat} : (rangeD lo c n).length = n := by simp [rangeD]
/-- a loop over a range -/
theorem for_range {tg : Tg} {b : M Fl} (P : Nat → Env → Prop) {lo : Int} {n : Nat} {e : Env} (h : P 0 e) (st : ∀ (j : Nat) (e : Env), j < n → P j e → ∃ e', (bindTg tg (.int (lo + j)) >>= fun _ => b) e = .ok .nx e' ∧ P (j + 1) e') : ∃ e', forGo tg b (rangeD lo 1 n) e = .ok .nx e' ∧ P n e' := by
  obtain ⟨e', h1, h2⟩ := for_inv P (rangeD lo 1 n) 0 e h fun j d e hj hp => by
    obtain ⟨hl, rfl⟩ := range_get hj
    rw [Nat.zero_add] at hp ⊢
    exact st j e hl hp
  exact ⟨e', h1, by rw [range_len, Nat.zero_add] at h2; exact h2⟩
/-! comprehensions -/
theorem compGo_ok {tg : Tg} {c : M Bool} {x : M D} (S : Env → Prop) (B : D → Env) (t : D → Bool) (f : D → D) : ∀ (items : List D) (e : Env), S e → (∀ d ∈ items, ∀ e', S e' → (wipeM tg.slots >>= fun _ => bindTg tg d) e' = .ok () (B d)) → (∀ d ∈ items, S (B d)) → (∀ d ∈ items, c (B d) = .ok (t d) (B d)) → (∀ d ∈ items, t d = true → x (B d) = .ok (f d) (B d)) → ∃ e', compGo tg c x items e = .ok ((items.filter t).map f) e' ∧ S e'
  | [], e, h, _, _, _, _ => ⟨e, rfl, h⟩
  | d :: r, e, h, hb, hs, hc, hx => by
    have m : d ∈ d :: r := by simp
    obtain ⟨e', k1, k2⟩ := compGo_ok S B t f r (B d) (hs d m) (fun d' h' => hb d' (by simp [h'])) (fun d' h' => hs d' (by simp [h'])) (fun d' h' => hc d' (by simp [h'])) (fun d' h' => hx d' (by simp [h']))
    have e0 : compGo tg c x (d :: r) e = ((wipeM tg.slots >>= fun _ => bindTg tg d) e).bind fun _ => (c >>= fun k => if k then (x >>= fun y => (compGo tg c x r >>= fun ys => pure (y :: ys))) else compGo tg c x r) := by
      rw [compGo, bind_M, bind_M]
      show (bindTg tg d >>= fun _ => _ : M (List D)) (wipeE e tg.slots) = ((bindTg tg d (wipeE e tg.slots))).bind _
      rw [bind_M]
    refine ⟨e', ?_, k2⟩
    rw [e0, hb d m e h, rb_ok, bind_M, hc d m, rb_ok]
    cases ht : t d with
    | true =>
      rw [if_pos rfl, bind_M, hx d m ht, rb_ok, bind_M, k1, rb_ok, List.filter_cons_of_pos ht]
      rfl
    | false =>
      rw [if_neg Bool.false_ne_true, k1, List.filter_cons_of_neg (by rw [ht]; simp)]
theorem compM_ok {tg : Tg} {c : M Bool} {x : M D} {items : List D} {e : Env} (S : Env → Prop) (B : D → Env) (t : D → Bool) (f : D → D) (h0 : S (wipeE e tg.slots)) (hb : ∀ d ∈ items, ∀ e', S e' → (wipeM tg.slots >>= fun _ => bindTg tg d) e' = .ok () (B d)) (hs : ∀ d ∈ items, S (B d)) (hc : ∀ d ∈ items, c (B d) = .ok (t d) (B d)) (hx : ∀ d ∈ items, t d = true → x (B d) = .ok (f d) (B d)) (hl : ((items.filter t).map f).length ≤ LIM) (hp : plainAt e tg.slots = true) (hr : ∀ e', S e' → restore e e' tg.slots = e) : compM tg c x items e = .ok (.own ((items.filter t).map f)) e := by
  obtain ⟨e', k1, k2⟩ := compGo_ok S B t f items _ h0 hb hs hc hx
  unfold compM
  rw [k1]
  show (if _ ∧ _ then _ else _) = _
  rw [if_pos ⟨hl, hp⟩, hr e' k2]
theorem compM_map {tg : Tg} {x : M D} {items : List D} {e : Env} (S : Env → Prop) (B : D → Env) (f : D → D) (h0 : S (wipeE e tg.slots)) (hb : ∀ d ∈ items, ∀ e', S e' → (wipeM tg.slots >>= fun _ => bindTg tg d) e' = .ok () (B d)) (hs : ∀ d ∈ items, S (B d)) (hx : ∀ d ∈ items, x (B d) = .ok (f d) (B d)) (hl : items.length ≤ LIM) (hp : plainAt e tg.slots = true) (hr : ∀ e', S e' → restore e e' tg.slots = e) {Φ : Ora} : compM tg (evC Φ .none) x items e = .ok (.own (items.map f)) e := by
  have := compM_ok (c := evC Φ .none) (x := x) S B (fun _ => true) f h0 hb hs (fun d _ => rfl) (fun d h _ => hx d h) (by rw [show items.filter (fun _ => true) = items from List.filter_eq_self.mpr fun _ _ => rfl]; simpa using hl) hp hr
  rw [show items.filter (fun _ => true) = items from List.filter_eq_self.mpr fun _ _ => rfl] at this
  exact this
end Py.Q
end
section
namespace Py.Q
variable {T : Nat → Option Fn} {wh : M Bool → M Fl → M Fl} {n : Nat}
structure TPlain (T : Nat → Option Fn) : Prop where
  is_number : T 21 = some d_is_number
  is_within : T 22 = some d_is_within
  sure_within : T 23 = some d_sure_within
  choices : T 24 = some d_choices
theorem is_number_ok (t : TPlain T) (i : Int) : run T wh (n + 1) 21 [.int i] = .ok (.bl true) [.int i] := by
  rw [run_s t.is_number]
  simp (config := { decide := true }) only [↓reduceIte, permute, quiet, still, isSem, tyIs, mtTy, D.list?, D.items, litsOnly, Sms.stores, Sm.stores, Hds.stores, Tg.slots, List.length_cons, List.length_nil, List.replicate_succ, List.replicate_zero, List.map_cons, List.map_nil, List.cons_append, List.nil_append, List.append_nil, List.getElem?_cons_zero, List.getElem?_cons_succ, List.getElem?_nil, List.set_cons_zero, List.set_cons_succ, List.set_nil, decide_true, decide_false, Bool.true_and, Bool.and_true, Bool.false_and, Bool.and_false, Bool.not_true, Bool.not_false, Bool.or_true, Bool.true_or, Bool.false_or, Bool.or_false, Option.map_some, Option.map_none, Option.bind_some, Option.bind_none, Option.isSome_some, Option.isSome_none, px_0, px_1, px_2, px_3, px_4, px_5, px_6, px_7, px_8, d_is_number]
theorem is_within_ok (t : TPlain T) (i a b : Int) : run T wh (n + 2) 22 [.int i, .int a, .int b] = .ok (.bl (decide (a ≤ i) && decide (i ≤ b))) [.int i, .int a, .int b] := by
  rw [run_s t.is_within]
  by_cases h : a ≤ i <;> simp (config := { decide := true }) only [↓reduceIte, permute, quiet, still, isSem, tyIs, mtTy, D.list?, D.items, litsOnly, Sms.stores, Sm.stores, Hds.stores, Tg.slots, List.length_cons, List.length_nil, List.replicate_succ, List.replicate_zero, List.map_cons, List.map_nil, List.cons_append, List.nil_append, List.append_nil, List.getElem?_cons_zero, List.getElem?_cons_succ, List.getElem?_nil, List.set_cons_zero, List.set_cons_succ, List.set_nil, decide_true, decide_false, Bool.true_and, Bool.and_true, Bool.false_and, Bool.and_false, Bool.not_true, Bool.not_false, Bool.or_true, Bool.true_or, Bool.false_or, Bool.or_false, Option.map_some, Option.map_none, Option.bind_some, Option.bind_none, Option.isSome_some, Option.isSome_none, px_0, px_1, px_2, px_3, px_4, px_5, px_6, px_7, px_8, d_is_within, is_number_ok t, h]
theorem sure_within_ok (t : TPlain T) (i a b : Int) (h : a ≤ i) (h' : i ≤ b) : run T wh (n + 3) 23 [.int i, .int a, .int b] = .ok (.int i) [.int i, .int a, .int b] := by
  rw [run_s t.sure_within]
  simp (config := { decide := true }) only [↓reduceIte, permute, quiet, still, isSem, tyIs, mtTy, D.list?, D.items, litsOnly, Sms.stores, Sm.stores, Hds.stores, Tg.slots, List.length_cons, List.length_nil, List.replicate_succ, List.replicate_zero, List.map_cons, List.map_nil, List.cons_append, List.nil_append, List.append_nil, List.getElem?_cons_zero, List.getElem?_cons_succ, List.getElem?_nil, List.set_cons_zero, List.set_cons_succ, List.set_nil, decide_true, decide_false, Bool.true_and, Bool.and_true, Bool.false_and, Bool.and_false, Bool.not_true, Bool.not_false, Bool.or_true, Bool.true_or, Bool.false_or, Bool.or_false, Option.map_some, Option.map_none, Option.bind_some, Option.bind_none, Option.isSome_some, Option.isSome_none, px_0, px_1, px_2, px_3, px_4, px_5, px_6, px_7, px_8, d_sure_within, is_within_ok t, h, h']
/-! choices -/
def chs : Nat → Nat → Nat
  | _, 0 => 1
  | 0, _ + 1 => 0
  | m + 1, k + 1 => chs m k + chs m (k + 1)
theorem chs_0 (m : Nat) : chs m 0 = 1 := by cases m <;> rfl
theorem chs_mul : ∀ m k : Nat, chs m (k + 1) * (k + 1) = chs m k * (m - k)
  | 0, 0 => rfl
  | 0, k + 1 => by simp [chs]
  | m + 1, 0 => by
    have this : chs m 1 * 1 = chs m 0 * (m - 0) := chs_mul m 0
    rw [chs_0] at this ⊢
    show (chs m 0 + chs m 1) * 1 = _
    rw [chs_0]
    omega
  | m + 1, k + 1 => by
    have h1 := chs_mul m k
    have h2 := chs_mul m (k + 1)
    show (chs m (k + 1) + chs m (k + 1 + 1)) * (k + 1 + 1) = (chs m k + chs m (k + 1)) * (m + 1 - (k + 1))
    have e : m + 1 - (k + 1) = m - k := by omega
    rw [e, Nat.add_mul, h2, Nat.add_mul (chs m k), ← h1]
    by_cases hk : k + 1 ≤ m
    · have e2 : m - k = (m - (k + 1)) + 1 := by omega
      rw [e2]
      generalize chs m (k + 1) = c
      generalize m - (k + 1) = q
      rw [Nat.mul_add c (k + 1) 1, Nat.mul_add c q 1]
      omega
    · have z : ∀ (m k : Nat), m < k → chs m k = 0 := by
        intro m
        induction m with
        | zero => intro k h; cases k with
          | zero => omega
          | succ k => rfl
        | succ m ih => intro k h; cases k with
          | zero => omega
          | succ k => show chs m k + chs m (k + 1) = 0; rw [ih k (by omega), ih (k + 1) (by omega)]
      rw [z m (k + 1) (by omega)]
      simp
theorem chs_le : ∀ m k : Nat, chs m k ≤ 2 ^ m
  | 0, 0 => by decide
  | 0, k + 1 => by simp [chs]
  | m + 1, 0 => by rw [chs_0]; exact Nat.one_le_two_pow
  | m + 1, k + 1 => by
    show chs m k + chs m (k + 1) ≤ 2 ^ (m + 1)
    have h1 := chs_le m k
    have h2 := chs_le m (k + 1)
    rw [Nat.pow_succ]
    omega
def chsZ (m f : Int) : Int := if 0 ≤ f ∧ f ≤ m then (chs m.toNat f.toNat : Int) else 0
theorem chsZ_nat (m f : Nat) : chsZ m f = chs m f := by
  unfold chsZ
  by_cases h : f ≤ m
  · rw [if_pos (by omega)]; simp
  · rw [if_neg (by omega)]
    have z : ∀ (m k : Nat), m < k → chs m k = 0 := by
      intro m
      induction m with
      | zero => intro k h; cases k with
        | zero => omega
        | succ k => rfl
      | succ m ih => intro k h; cases k with
        | zero => omega
        | succ k => show chs m k + chs m (k + 1) = 0; rw [ih k (by omega), ih (k + 1) (by omega)]
    rw [z m f (by omega)]
    rfl
theorem choices_ok (t : TPlain T) (m f : Int) (hm : m ≤ 20) : run T wh (n + 1) 24 [.int m, .int f] = .ok (.int (chsZ m f)) [.int m, .int f] := by
  rw [run_s t.choices]
  by_cases h0 : 0 ≤ f
  · by_cases h1 : f ≤ m
    · obtain ⟨e', he, o, rfl⟩ := for_range (tg := .nm 3) (b := evSs (run T wh n) wh 2 (.cons (.set 2 (.bin .fdiv (.bin .mul (.var 2) (.bin .sub (.var 0) (.var 3))) (.bin .add (.var 3) (.lit (.int 1))))) .nil)) (lo := 0) (n := f.toNat) (e := [some (.int m), some (.int f), some (.int 1), none])
        (fun k e => ∃ o, e = [some (.int m), some (.int f), some (.int (chs m.toNat k)), o]) ⟨none, by rw [chs_0]; rfl⟩ fun j e hj ⟨o, he⟩ => by
          subst he
          have b1 : ((chs m.toNat j : Int)).natAbs < 2 ^ 64 := by
            have := chs_le m.toNat j
            have h2 : 2 ^ m.toNat ≤ 2 ^ 20 := Nat.pow_le_pow_right (by decide) (by omega)
            omega
          have b2 : ((0 : Int) + (j : Int) + 1).natAbs < BIGD := by
            have : (2 : Nat) ^ 10 ≤ BIGD := Nat.pow_le_pow_right (by decide) (by decide)
            omega
          have b3 : ((0 : Int) + (j : Int) + 1) ≠ 0 := by omega
          refine ⟨[some (.int m), some (.int f), some (.int (((chs m.toNat j : Int) * (m - (0 + (j : Int)))).fdiv (0 + (j : Int) + 1))), some (.int (0 + (j : Int)))], ?_, some (.int (0 + (j : Int))), ?_⟩
          · simp (config := { decide := true }) only [↓reduceIte, permute, quiet, still, isSem, tyIs, mtTy, D.list?, D.items, litsOnly, Sms.stores, Sm.stores, Hds.stores, Tg.slots, List.length_cons, List.length_nil, List.replicate_succ, List.replicate_zero, List.map_cons, List.map_nil, List.cons_append, List.nil_append, List.append_nil, List.getElem?_cons_zero, List.getElem?_cons_succ, List.getElem?_nil, List.set_cons_zero, List.set_cons_succ, List.set_nil, decide_true, decide_false, Bool.true_and, Bool.and_true, Bool.false_and, Bool.and_false, Bool.not_true, Bool.not_false, Bool.or_true, Bool.true_or, Bool.false_or, Bool.or_false, Option.map_some, Option.map_none, Option.bind_some, Option.bind_none, Option.isSome_some, Option.isSome_none, px_0, px_1, px_2, px_3, px_4, px_5, px_6, px_7, px_8, forGo_n, forGo_c, forK_n, forK_c, forK_b, forK_r, bt_nm, bt_tup, bt_own, bt_lst, wipeM, wipeE, restore, plainAt, List.all_cons, List.all_nil, Option.getD_some, Option.getD_none, b_mulL b1, b_div b3 b2]
          · have := chs_mul m.toNat j
            have e1 : (chs m.toNat j : Int) * (m - (0 + (j : Int))) = (chs m.toNat (j + 1) : Int) * (0 + (j : Int) + 1) := by
              have e2 : m - (0 + (j : Int)) = ((m.toNat - j : Nat) : Int) := by omega
              rw [e2, show (0 : Int) + (j : Int) + 1 = ((j + 1 : Nat) : Int) by omega, ← Int.natCast_mul, ← Int.natCast_mul, this]
            rw [e1, Int.mul_fdiv_cancel _ b3]
      have s1 : small f = true := by unfold small; exact decide_eq_true (by omega)
      simp (config := { decide := true }) only [↓reduceIte, permute, quiet, still, isSem, tyIs, mtTy, D.list?, D.items, litsOnly, Sms.stores, Sm.stores, Hds.stores, Tg.slots, List.length_cons, List.length_nil, List.replicate_succ, List.replicate_zero, List.map_cons, List.map_nil, List.cons_append, List.nil_append, List.append_nil, List.getElem?_cons_zero, List.getElem?_cons_succ, List.getElem?_nil, List.set_cons_zero, List.set_cons_succ, List.set_nil, decide_true, decide_false, Bool.true_and, Bool.and_true, Bool.false_and, Bool.and_false, Bool.not_true, Bool.not_false, Bool.or_true, Bool.true_or, Bool.false_or, Bool.or_false, Option.map_some, Option.map_none, Option.bind_some, Option.bind_none, Option.isSome_some, Option.isSome_none, px_0, px_1, px_2, px_3, px_4, px_5, px_6, px_7, px_8, forGo_n, forGo_c, forK_n, forK_c, forK_b, forK_r, bt_nm, bt_tup, bt_own, bt_lst, wipeM, wipeE, restore, plainAt, List.all_cons, List.all_nil, Option.getD_some, Option.getD_none, d_choices, h0, h1, s1, he]
      unfold chsZ
      rw [if_pos ⟨h0, h1⟩]
    · simp (config := { decide := true }) only [↓reduceIte, permute, quiet, still, isSem, tyIs, mtTy, D.list?, D.items, litsOnly, Sms.stores, Sm.stores, Hds.stores, Tg.slots, List.length_cons, List.length_nil, List.replicate_succ, List.replicate_zero, List.map_cons, List.map_nil, List.cons_append, List.nil_append, List.append_nil, List.getElem?_cons_zero, List.getElem?_cons_succ, List.getElem?_nil, List.set_cons_zero, List.set_cons_succ, List.set_nil, decide_true, decide_false, Bool.true_and, Bool.and_true, Bool.false_and, Bool.and_false, Bool.not_true, Bool.not_false, Bool.or_true, Bool.true_or, Bool.false_or, Bool.or_false, Option.map_some, Option.map_none, Option.bind_some, Option.bind_none, Option.isSome_some, Option.isSome_none, px_0, px_1, px_2, px_3, px_4, px_5, px_6, px_7, px_8, forGo_n, forGo_c, forK_n, forK_c, forK_b, forK_r, bt_nm, bt_tup, bt_own, bt_lst, wipeM, wipeE, restore, plainAt, List.all_cons, List.all_nil, Option.getD_some, Option.getD_none, d_choices, h0, h1]
      unfold chsZ
      rw [if_neg (by omega)]
  · simp (config := { decide := true }) only [↓reduceIte, permute, quiet, still, isSem, tyIs, mtTy, D.list?, D.items, litsOnly, Sms.stores, Sm.stores, Hds.stores, Tg.slots, List.length_cons, List.length_nil, List.replicate_succ, List.replicate_zero, List.map_cons, List.map_nil, List.cons_append, List.nil_append, List.append_nil, List.getElem?_cons_zero, List.getElem?_cons_succ, List.getElem?_nil, List.set_cons_zero, List.set_cons_succ, List.set_nil, decide_true, decide_false, Bool.true_and, Bool.and_true, Bool.false_and, Bool.and_false, Bool.not_true, Bool.not_false, Bool.or_true, Bool.true_or, Bool.false_or, Bool.or_false, Option.map_some, Option.map_none, Option.bind_some, Option.bind_none, Option.isSome_some, Option.isSome_none, px_0, px_1, px_2, px_3, px_4, px_5, px_6, px_7, px_8, forGo_n, forGo_c, forK_n, forK_c, forK_b, forK_r, bt_nm, bt_tup, bt_own, bt_lst, wipeM, wipeE, restore, plainAt, List.all_cons, List.all_nil, Option.getD_some, Option.getD_none, d_choices, h0]
    unfold chsZ
    rw [if_neg (by omega)]
end Py.Q
end
section
namespace Py.Q
variable {T : Nat → Option Fn} {wh : M Bool → M Fl → M Fl} {n : Nat}
structure TRows (T : Nat → Option Fn) : Prop extends TPlain T where
  is_row_in : T 25 = some d_is_row_in
  sure_row : T 26 = some d_sure_row
  size_of : T 27 = some d_size_of
  row_in : T 28 = some d_row_in
  all_in : T 29 = some d_all_in
  heads_in : T 30 = some d_heads_in
  place_in : T 31 = some d_place_in
  rank_in : T 32 = some d_rank_in
  ranked_in : T 33 = some d_ranked_in
  is_row : T 34 = some d_is_row
  heads : T 35 = some d_heads
  all_rows : T 36 = some d_all_rows
  rows_with : T 37 = some d_rows_with
  how_many_rows : T 38 = some d_how_many_rows
  place_of : T 39 = some d_place_of
  row_at : T 40 = some d_row_at
  rank_of : T 41 = some d_rank_of
  row_by_rank : T 42 = some d_row_by_rank
def IsRow (s : List Nat) : Prop := s.length ≤ 12 ∧ ∀ c ∈ s, c = 104 ∨ c = 116
theorem lim_of {k : Nat} (h : k ≤ 16777216) : k ≤ LIM := h
theorem items_s {s : List Nat} : itemsOf (.str s) = some (s.map fun c => .str [c]) := nr rfl
theorem in_s {c : Nat} {b : List Nat} : inSem (.str [c]) (.str b) = some (decide (c ∈ b)) := nr rfl
theorem bls_c {α : Type} {l : List α} (f : α → Bool) : D.bls (l.map fun x => .bl (f x)) = some (l.map f) := by
  induction l with
  | nil => rfl
  | cons a l ih => show (D.bls (l.map fun x => .bl (f x))).map (f a :: ·) = _; rw [ih]; rfl
theorem all_o {α : Type} {l : List α} (f : α → Bool) : bi1 .all (.own (l.map fun x => .bl (f x))) = some (.bl (l.all f)) := by
  show ((D.bls (l.map fun x => .bl (f x))).map fun bs => D.bl (bs.all id)) = _
  rw [bls_c]
  simp [List.all_map]
theorem is_row_in_ok (t : TRows T) {s : List Nat} (h : IsRow s) : run T wh (n + 1) 25 [.str s] = .ok (.bl true) [.str s] := by
  rw [run_s t.is_row_in]
  have hl : s.length ≤ LIM := lim_of (by have := h.1; omega)
  have hc : compM (.nm 1) (evC (run T wh n) .none) (ev (run T wh n) (.cmp .isIn (.var 1) (.con "SIDES" (.str [104, 116])))).o (s.map fun c => D.str [c]) [some (.str s), none] = .ok (.own ((s.map fun c => D.str [c]).map fun _ => D.bl true)) [some (.str s), none] := by
    refine compM_map (fun e => ∃ o, e = [some (.str s), o]) (fun d => [some (.str s), some d]) (fun _ => .bl true) ⟨none, rfl⟩ (fun d hd e' ⟨o, he⟩ => by subst he; rfl) (fun d hd => ⟨_, rfl⟩) (fun d hd => ?_) (by simpa using hl) rfl fun e' ⟨o, he⟩ => by subst he; rfl
    obtain ⟨c, hc, rfl⟩ := List.mem_map.mp hd
    have : decide (c ∈ [104, 116]) = true := decide_eq_true (by rcases h.2 c hc with rfl | rfl <;> simp)
    simp (config := { decide := true }) only [↓reduceIte, permute, quiet, still, isSem, tyIs, mtTy, D.list?, D.items, litsOnly, Sms.stores, Sm.stores, Hds.stores, Tg.slots, List.length_cons, List.length_nil, List.replicate_succ, List.replicate_zero, List.map_cons, List.map_nil, List.cons_append, List.nil_append, List.append_nil, List.getElem?_cons_zero, List.getElem?_cons_succ, List.getElem?_nil, List.set_cons_zero, List.set_cons_succ, List.set_nil, decide_true, decide_false, Bool.true_and, Bool.and_true, Bool.false_and, Bool.and_false, Bool.not_true, Bool.not_false, Bool.or_true, Bool.true_or, Bool.false_or, Bool.or_false, Option.map_some, Option.map_none, Option.bind_some, Option.bind_none, Option.isSome_some, Option.isSome_none, px_0, px_1, px_2, px_3, px_4, px_5, px_6, px_7, px_8, forGo_n, forGo_c, forK_n, forK_c, forK_b, forK_r, bt_nm, bt_tup, bt_own, bt_lst, wipeM, wipeE, restore, plainAt, List.all_cons, List.all_nil, Option.getD_some, Option.getD_none, in_s, this]
  have h2 : (((s.length : Nat) : Int) ≤ 12) := by have := h.1; omega
  have ha := all_o (l := s.map fun c => D.str [c]) fun _ => true
  simp (config := { decide := true }) only [↓reduceIte, permute, quiet, still, isSem, tyIs, mtTy, D.list?, D.items, litsOnly, Sms.stores, Sm.stores, Hds.stores, Tg.slots, List.length_cons, List.length_nil, List.replicate_succ, List.replicate_zero, List.map_cons, List.map_nil, List.cons_append, List.nil_append, List.append_nil, List.getElem?_cons_zero, List.getElem?_cons_succ, List.getElem?_nil, List.set_cons_zero, List.set_cons_succ, List.set_nil, decide_true, decide_false, Bool.true_and, Bool.and_true, Bool.false_and, Bool.and_false, Bool.not_true, Bool.not_false, Bool.or_true, Bool.true_or, Bool.false_or, Bool.or_false, Option.map_some, Option.map_none, Option.bind_some, Option.bind_none, Option.isSome_some, Option.isSome_none, px_0, px_1, px_2, px_3, px_4, px_5, px_6, px_7, px_8, forGo_n, forGo_c, forK_n, forK_c, forK_b, forK_r, bt_nm, bt_tup, bt_own, bt_lst, wipeM, wipeE, restore, plainAt, List.all_cons, List.all_nil, Option.getD_some, Option.getD_none, d_is_row_in, len_s hl, h2, items_s, hc, ha]
  simp
theorem sure_row_ok (t : TRows T) {s : List Nat} (h : IsRow s) : run T wh (n + 2) 26 [.str s] = .ok (.str s) [.str s] := by
  rw [run_s t.sure_row]
  simp (config := { decide := true }) only [↓reduceIte, permute, quiet, still, isSem, tyIs, mtTy, D.list?, D.items, litsOnly, Sms.stores, Sm.stores, Hds.stores, Tg.slots, List.length_cons, List.length_nil, List.replicate_succ, List.replicate_zero, List.map_cons, List.map_nil, List.cons_append, List.nil_append, List.append_nil, List.getElem?_cons_zero, List.getElem?_cons_succ, List.getElem?_nil, List.set_cons_zero, List.set_cons_succ, List.set_nil, decide_true, decide_false, Bool.true_and, Bool.and_true, Bool.false_and, Bool.and_false, Bool.not_true, Bool.not_false, Bool.or_true, Bool.true_or, Bool.false_or, Bool.or_false, Option.map_some, Option.map_none, Option.bind_some, Option.bind_none, Option.isSome_some, Option.isSome_none, px_0, px_1, px_2, px_3, px_4, px_5, px_6, px_7, px_8, forGo_n, forGo_c, forK_n, forK_c, forK_b, forK_r, bt_nm, bt_tup, bt_own, bt_lst, wipeM, wipeE, restore, plainAt, List.all_cons, List.all_nil, Option.getD_some, Option.getD_none, d_sure_row, is_row_in_ok t h]
theorem is_row_ok (t : TRows T) {s : List Nat} (h : IsRow s) : run T wh (n + 2) 34 [.str s] = .ok (.bl true) [.str s] := by
  rw [run_s t.is_row]
  simp (config := { decide := true }) only [↓reduceIte, permute, quiet, still, isSem, tyIs, mtTy, D.list?, D.items, litsOnly, Sms.stores, Sm.stores, Hds.stores, Tg.slots, List.length_cons, List.length_nil, List.replicate_succ, List.replicate_zero, List.map_cons, List.map_nil, List.cons_append, List.nil_append, List.append_nil, List.getElem?_cons_zero, List.getElem?_cons_succ, List.getElem?_nil, List.set_cons_zero, List.set_cons_succ, List.set_nil, decide_true, decide_false, Bool.true_and, Bool.and_true, Bool.false_and, Bool.and_false, Bool.not_true, Bool.not_false, Bool.or_true, Bool.true_or, Bool.false_or, Bool.or_false, Option.map_some, Option.map_none, Option.bind_some, Option.bind_none, Option.isSome_some, Option.isSome_none, px_0, px_1, px_2, px_3, px_4, px_5, px_6, px_7, px_8, forGo_n, forGo_c, forK_n, forK_c, forK_b, forK_r, bt_nm, bt_tup, bt_own, bt_lst, wipeM, wipeE, restore, plainAt, List.all_cons, List.all_nil, Option.getD_some, Option.getD_none, d_is_row, is_row_in_ok t h]
end Py.Q
end
section
namespace Py.Q
variable {T : Nat → Option Fn} {wh : M Bool → M Fl → M Fl} {n : Nat}
/-! numbers of rows -/
theorem small_nat {q : Nat} (h : q ≤ 1000000) : small (q : Int) = true := by unfold small; exact decide_eq_true (by omega)
theorem toNat_nat (q : Nat) : ((q : Nat) : Int).toNat = q := Int.toNat_natCast q

theorem size_of_ok (t : TRows T) (m : Nat) (hm : m ≤ 20) : run T wh (n + 1) 27 [.int m] = .ok (.int ((2 ^ m : Nat) : Int)) [.int m] := by
  rw [run_s t.size_of]
  obtain ⟨e', he, o, rfl⟩ := for_range (tg := .nm 2) (b := evSs (run T wh n) wh 1 (.cons (.set 1 (.bin .mul (.var 1) (.lit (.int 2)))) .nil)) (lo := 0) (n := m) (e := [some (.int m), some (.int 1), none])
    (fun k e => ∃ o, e = [some (.int m), some (.int ((2 ^ k : Nat) : Int)), o]) ⟨none, rfl⟩ fun j e hj ⟨o, he⟩ => by
      subst he
      have b1 : (2 : Int).natAbs < 2 ^ 64 := by omega
      refine ⟨[some (.int m), some (.int (((2 ^ j : Nat) : Int) * 2)), some (.int (0 + (j : Int)))], ?_, some (.int (0 + (j : Int))), ?_⟩
      · simp (config := { decide := true }) only [↓reduceIte, permute, quiet, still, isSem, tyIs, mtTy, D.list?, D.items, litsOnly, Sms.stores, Sm.stores, Hds.stores, Tg.slots, List.length_cons, List.length_nil, List.replicate_succ, List.replicate_zero, List.map_cons, List.map_nil, List.cons_append, List.nil_append, List.append_nil, List.getElem?_cons_zero, List.getElem?_cons_succ, List.getElem?_nil, List.set_cons_zero, List.set_cons_succ, List.set_nil, decide_true, decide_false, Bool.true_and, Bool.and_true, Bool.false_and, Bool.and_false, Bool.not_true, Bool.not_false, Bool.or_true, Bool.true_or, Bool.false_or, Bool.or_false, Option.map_some, Option.map_none, Option.bind_some, Option.bind_none, Option.isSome_some, Option.isSome_none, px_0, px_1, px_2, px_3, px_4, px_5, px_6, px_7, px_8, forGo_n, forGo_c, forK_n, forK_c, forK_b, forK_r, bt_nm, bt_tup, bt_own, bt_lst, wipeM, wipeE, restore, plainAt, List.all_cons, List.all_nil, Option.getD_some, Option.getD_none, b_mulR b1]
      · rw [Nat.pow_succ]; simp
  have s1 : small (m : Int) = true := small_nat (by omega)
  have e2 : ((m : Int)).toNat = m := toNat_nat m
  simp (config := { decide := true }) only [↓reduceIte, permute, quiet, still, isSem, tyIs, mtTy, D.list?, D.items, litsOnly, Sms.stores, Sm.stores, Hds.stores, Tg.slots, List.length_cons, List.length_nil, List.replicate_succ, List.replicate_zero, List.map_cons, List.map_nil, List.cons_append, List.nil_append, List.append_nil, List.getElem?_cons_zero, List.getElem?_cons_succ, List.getElem?_nil, List.set_cons_zero, List.set_cons_succ, List.set_nil, decide_true, decide_false, Bool.true_and, Bool.and_true, Bool.false_and, Bool.and_false, Bool.not_true, Bool.not_false, Bool.or_true, Bool.true_or, Bool.false_or, Bool.or_false, Option.map_some, Option.map_none, Option.bind_some, Option.bind_none, Option.isSome_some, Option.isSome_none, px_0, px_1, px_2, px_3, px_4, px_5, px_6, px_7, px_8, forGo_n, forGo_c, forK_n, forK_c, forK_b, forK_r, bt_nm, bt_tup, bt_own, bt_lst, wipeM, wipeE, restore, plainAt, List.all_cons, List.all_nil, Option.getD_some, Option.getD_none, d_size_of, s1, e2, he]
/-! a row by its place -/
def side (i : Nat) : Nat := if i = 0 then 104 else 116
def rowQ : Nat → Nat → List Nat
  | 0, _ => []
  | k + 1, p => side (p / 2 ^ k % 2) :: rowQ k p
theorem rowQ_len : ∀ k p, (rowQ k p).length = k
  | 0, _ => rfl
  | k + 1, p => by show (rowQ k p).length + 1 = _; rw [rowQ_len k p]
theorem rowQ_mem : ∀ k p c, c ∈ rowQ k p → c = 104 ∨ c = 116
  | 0, _, c, h => by cases h
  | k + 1, p, c, h => by
    rcases List.mem_cons.mp h with rfl | h
    · unfold side; split <;> simp
    · exact rowQ_mem k p c h
theorem rowQ_ok {k p : Nat} (h : k ≤ 12) : IsRow (rowQ k p) := ⟨by rw [rowQ_len]; exact h, rowQ_mem k p⟩
theorem fdiv_nat (a b : Nat) : (a : Int).fdiv (b : Int) = ((a / b : Nat) : Int) := by
  rw [Int.fdiv_eq_ediv_of_nonneg _ (by omega)]; rfl
theorem fmod_nat (a b : Nat) : (a : Int).fmod (b : Int) = ((a % b : Nat) : Int) := by
  rw [Int.fmod_eq_emod_of_nonneg _ (by omega)]; rfl
theorem ix_side (i : Nat) (h : i < 2) : ixSem (.str [104, 116]) (.int (i : Int)) = some (.str [side i]) := by
  rcases i with _ | _ | i
  · rfl
  · rfl
  · omega
theorem row_in_ok (t : TRows T) (m p : Nat) (hm : m ≤ 20) : run T wh (n + 1) 28 [.int m, .int p] = .ok (.str (rowQ m p)) [.int m, .int p] := by
  rw [run_s t.row_in]
  obtain ⟨e', he, o, rfl⟩ := for_range (tg := .nm 3) (b := evSs (run T wh n) wh 2 (.cons (.set 2 (.bin .add (.idx (.con "SIDES" (.str [104, 116])) (.bin .mod (.var 1) (.lit (.int 2)))) (.var 2))) (.cons (.set 1 (.bin .fdiv (.var 1) (.lit (.int 2)))) .nil))) (lo := 0) (n := m) (e := [some (.int m), some (.int p), some (.str []), none])
    (fun k e => ∃ o, e = [some (.int m), some (.int ((p / 2 ^ k : Nat) : Int)), some (.str (rowQ k p)), o]) ⟨none, by simp [rowQ]⟩ fun j e hj ⟨o, he⟩ => by
      subst he
      have b1 : (2 : Int) ≠ 0 := by decide
      have b2 : (2 : Int).natAbs < BIGD := by
        have : (2 : Nat) ^ 10 ≤ BIGD := Nat.pow_le_pow_right (by decide) (by decide)
        omega
      have e1 : ((p / 2 ^ j : Nat) : Int).fmod 2 = ((p / 2 ^ j % 2 : Nat) : Int) := fmod_nat _ 2
      have e2 : ((p / 2 ^ j : Nat) : Int).fdiv 2 = ((p / 2 ^ j / 2 : Nat) : Int) := fdiv_nat _ 2
      have e3 := ix_side (p / 2 ^ j % 2) (Nat.mod_lt _ (by decide))
      have e4 : ([side (p / 2 ^ j % 2)] : List Nat).length + (rowQ j p).length ≤ LIM := lim_of (by rw [rowQ_len]; simp; omega)
      refine ⟨[some (.int m), some (.int ((p / 2 ^ j / 2 : Nat) : Int)), some (.str ([side (p / 2 ^ j % 2)] ++ rowQ j p)), some (.int (0 + (j : Int)))], ?_, some (.int (0 + (j : Int))), ?_⟩
      · simp (config := { decide := true }) only [↓reduceIte, permute, quiet, still, isSem, tyIs, mtTy, D.list?, D.items, litsOnly, Sms.stores, Sm.stores, Hds.stores, Tg.slots, List.length_cons, List.length_nil, List.replicate_succ, List.replicate_zero, List.map_cons, List.map_nil, List.cons_append, List.nil_append, List.append_nil, List.getElem?_cons_zero, List.getElem?_cons_succ, List.getElem?_nil, List.set_cons_zero, List.set_cons_succ, List.set_nil, decide_true, decide_false, Bool.true_and, Bool.and_true, Bool.false_and, Bool.and_false, Bool.not_true, Bool.not_false, Bool.or_true, Bool.true_or, Bool.false_or, Bool.or_false, Option.map_some, Option.map_none, Option.bind_some, Option.bind_none, Option.isSome_some, Option.isSome_none, px_0, px_1, px_2, px_3, px_4, px_5, px_6, px_7, px_8, forGo_n, forGo_c, forK_n, forK_c, forK_b, forK_r, bt_nm, bt_tup, bt_own, bt_lst, wipeM, wipeE, restore, plainAt, List.all_cons, List.all_nil, Option.getD_some, Option.getD_none, b_mod b1, b_div b1 b2, e1, e2, e3, b_adds e4]
      · rw [Nat.div_div_eq_div_mul, ← Nat.pow_succ]; rfl
  have s1 : small (m : Int) = true := small_nat (by omega)
  have e2 : ((m : Int)).toNat = m := toNat_nat m
  simp (config := { decide := true }) only [↓reduceIte, permute, quiet, still, isSem, tyIs, mtTy, D.list?, D.items, litsOnly, Sms.stores, Sm.stores, Hds.stores, Tg.slots, List.length_cons, List.length_nil, List.replicate_succ, List.replicate_zero, List.map_cons, List.map_nil, List.cons_append, List.nil_append, List.append_nil, List.getElem?_cons_zero, List.getElem?_cons_succ, List.getElem?_nil, List.set_cons_zero, List.set_cons_succ, List.set_nil, decide_true, decide_false, Bool.true_and, Bool.and_true, Bool.false_and, Bool.and_false, Bool.not_true, Bool.not_false, Bool.or_true, Bool.true_or, Bool.false_or, Bool.or_false, Option.map_some, Option.map_none, Option.bind_some, Option.bind_none, Option.isSome_some, Option.isSome_none, px_0, px_1, px_2, px_3, px_4, px_5, px_6, px_7, px_8, forGo_n, forGo_c, forK_n, forK_c, forK_b, forK_r, bt_nm, bt_tup, bt_own, bt_lst, wipeM, wipeE, restore, plainAt, List.all_cons, List.all_nil, Option.getD_some, Option.getD_none, d_row_in, s1, e2, he]
/-! all rows -/
def rowsL : Nat → List (List Nat)
  | 0 => [[]]
  | k + 1 => (rowsL k).map (104 :: ·) ++ (rowsL k).map (116 :: ·)
theorem rowsL_len : ∀ k, (rowsL k).length = 2 ^ k
  | 0 => rfl
  | k + 1 => by show ((rowsL k).map _ ++ (rowsL k).map _).length = _; rw [List.length_append, List.length_map, List.length_map, rowsL_len k, Nat.pow_succ]; omega
theorem rowQ_add : ∀ (k m p : Nat), k ≤ m → rowQ k (p + 2 ^ m) = rowQ k p
  | 0, _, _, _ => rfl
  | k + 1, m, p, h => by
    show side ((p + 2 ^ m) / 2 ^ k % 2) :: rowQ k (p + 2 ^ m) = side (p / 2 ^ k % 2) :: rowQ k p
    rw [rowQ_add k m p (by omega)]
    have e : 2 ^ m = 2 ^ k * (2 * 2 ^ (m - k - 1)) := by
      rw [← Nat.mul_assoc, ← Nat.pow_succ, ← Nat.pow_add]; congr 1; omega
    have : (p + 2 ^ m) / 2 ^ k % 2 = p / 2 ^ k % 2 := by
      rw [e, Nat.add_mul_div_left _ _ (Nat.two_pow_pos k), Nat.add_mul_mod_self_left]
    rw [this]
theorem rowsL_eq : ∀ k, (List.range (2 ^ k)).map (rowQ k) = rowsL k
  | 0 => rfl
  | k + 1 => by
    rw [Nat.pow_succ, Nat.mul_two, List.range_add, List.map_append, List.map_map]
    show _ = (rowsL k).map (104 :: ·) ++ (rowsL k).map (116 :: ·)
    rw [← rowsL_eq k, List.map_map, List.map_map]
    congr 1
    · refine List.map_congr_left fun p hp => ?_
      have hp := List.mem_range.mp hp
      show side (p / 2 ^ k % 2) :: rowQ k p = 104 :: rowQ k p
      rw [Nat.div_eq_of_lt hp]; rfl
    · refine List.map_congr_left fun p hp => ?_
      have hp := List.mem_range.mp hp
      show side ((2 ^ k + p) / 2 ^ k % 2) :: rowQ k (2 ^ k + p) = 116 :: rowQ k p
      rw [Nat.add_comm (2 ^ k) p, rowQ_add k k p (Nat.le_refl _), Nat.add_div_right _ (Nat.two_pow_pos k), Nat.div_eq_of_lt hp]; rfl
theorem rowsL_get {k p : Nat} (h : p < 2 ^ k) : (rowsL k)[p]? = some (rowQ k p) := by
  rw [← rowsL_eq, List.getElem?_map, List.getElem?_range h]; rfl
theorem rowsL_mem {k : Nat} {s : List Nat} (h : s ∈ rowsL k) : s.length = k ∧ ∀ c ∈ s, c = 104 ∨ c = 116 := by
  rw [← rowsL_eq] at h
  obtain ⟨p, _, rfl⟩ := List.mem_map.mp h
  exact ⟨rowQ_len _ _, rowQ_mem _ _⟩
theorem all_in_ok (t : TRows T) (m : Nat) (hm : m ≤ 12) : run T wh (n + 2) 29 [.int m] = .ok (.own ((rowsL m).map .str)) [.int m] := by
  rw [run_s t.all_in]
  have pm : 2 ^ m ≤ 4096 := Nat.pow_le_pow_right (n := 2) (by decide) hm
  have hc : compM (.nm 1) (evC (run T wh (n + 1)) .none) (ev (run T wh (n + 1)) (.call 28 (.cons (.var 0) (.cons (.var 1) .nil)))).o (rangeD 0 1 (2 ^ m)) [some (.int m), none] = .ok (.own ((rangeD 0 1 (2 ^ m)).map fun d => match d with
      | .int p => .str (rowQ m p.toNat)
      | _ => .non)) [some (.int m), none] := by
    refine compM_map (fun e => ∃ o, e = [some (.int m), o]) (fun d => [some (.int m), some d]) _ ⟨none, rfl⟩ (fun d hd e' ⟨o, he⟩ => by subst he; rfl) (fun d hd => ⟨_, rfl⟩) (fun d hd => ?_) (by rw [range_len]; exact lim_of (by omega)) rfl fun e' ⟨o, he⟩ => by subst he; rfl
    obtain ⟨j, hj⟩ := List.mem_iff_getElem?.mp hd
    obtain ⟨h1, rfl⟩ := range_get hj
    have e0 : (0 : Int) + (j : Int) = (j : Int) := by omega
    rw [e0]
    simp (config := { decide := true }) only [↓reduceIte, permute, quiet, still, isSem, tyIs, mtTy, D.list?, D.items, litsOnly, Sms.stores, Sm.stores, Hds.stores, Tg.slots, List.length_cons, List.length_nil, List.replicate_succ, List.replicate_zero, List.map_cons, List.map_nil, List.cons_append, List.nil_append, List.append_nil, List.getElem?_cons_zero, List.getElem?_cons_succ, List.getElem?_nil, List.set_cons_zero, List.set_cons_succ, List.set_nil, decide_true, decide_false, Bool.true_and, Bool.and_true, Bool.false_and, Bool.and_false, Bool.not_true, Bool.not_false, Bool.or_true, Bool.true_or, Bool.false_or, Bool.or_false, Option.map_some, Option.map_none, Option.bind_some, Option.bind_none, Option.isSome_some, Option.isSome_none, px_0, px_1, px_2, px_3, px_4, px_5, px_6, px_7, px_8, forGo_n, forGo_c, forK_n, forK_c, forK_b, forK_r, bt_nm, bt_tup, bt_own, bt_lst, wipeM, wipeE, restore, plainAt, List.all_cons, List.all_nil, Option.getD_some, Option.getD_none, row_in_ok t m j (by omega)]
    simp
  have s1 : small (((2 ^ m : Nat)) : Int) = true := small_nat (by omega)
  have e2 : (((2 ^ m : Nat) : Int)).toNat = 2 ^ m := toNat_nat _
  simp (config := { decide := true }) only [↓reduceIte, permute, quiet, still, isSem, tyIs, mtTy, D.list?, D.items, litsOnly, Sms.stores, Sm.stores, Hds.stores, Tg.slots, List.length_cons, List.length_nil, List.replicate_succ, List.replicate_zero, List.map_cons, List.map_nil, List.cons_append, List.nil_append, List.append_nil, List.getElem?_cons_zero, List.getElem?_cons_succ, List.getElem?_nil, List.set_cons_zero, List.set_cons_succ, List.set_nil, decide_true, decide_false, Bool.true_and, Bool.and_true, Bool.false_and, Bool.and_false, Bool.not_true, Bool.not_false, Bool.or_true, Bool.true_or, Bool.false_or, Bool.or_false, Option.map_some, Option.map_none, Option.bind_some, Option.bind_none, Option.isSome_some, Option.isSome_none, px_0, px_1, px_2, px_3, px_4, px_5, px_6, px_7, px_8, forGo_n, forGo_c, forK_n, forK_c, forK_b, forK_r, bt_nm, bt_tup, bt_own, bt_lst, wipeM, wipeE, restore, plainAt, List.all_cons, List.all_nil, Option.getD_some, Option.getD_none, d_all_in, size_of_ok t m (by omega), s1, e2, hc]
  rw [← rowsL_eq]
  unfold rangeD
  rw [List.map_map, List.map_map]
  refine congrArg (fun l => FR.ok (D.own l) [.int m]) (List.map_congr_left fun p _ => ?_)
  simp
theorem all_rows_ok (t : TRows T) (m : Nat) (hm : m ≤ 12) : run T wh (n + 4) 36 [.int m] = .ok (.own ((rowsL m).map .str)) [.int m] := by
  rw [run_s t.all_rows]
  have h1 : (0 : Int) ≤ (m : Int) := by omega
  have h2 : (m : Int) ≤ 12 := by omega
  have a1 := fun n => sure_within_ok (wh := wh) (n := n) t.toTPlain (m : Int) 0 12 h1 h2
  have a2 := fun n => all_in_ok (wh := wh) (n := n) t m hm
  simp (config := { decide := true }) only [↓reduceIte, permute, quiet, still, isSem, tyIs, mtTy, D.list?, D.items, litsOnly, Sms.stores, Sm.stores, Hds.stores, Tg.slots, List.length_cons, List.length_nil, List.replicate_succ, List.replicate_zero, List.map_cons, List.map_nil, List.cons_append, List.nil_append, List.append_nil, List.getElem?_cons_zero, List.getElem?_cons_succ, List.getElem?_nil, List.set_cons_zero, List.set_cons_succ, List.set_nil, decide_true, decide_false, Bool.true_and, Bool.and_true, Bool.false_and, Bool.and_false, Bool.not_true, Bool.not_false, Bool.or_true, Bool.true_or, Bool.false_or, Bool.or_false, Option.map_some, Option.map_none, Option.bind_some, Option.bind_none, Option.isSome_some, Option.isSome_none, px_0, px_1, px_2, px_3, px_4, px_5, px_6, px_7, px_8, forGo_n, forGo_c, forK_n, forK_c, forK_b, forK_r, bt_nm, bt_tup, bt_own, bt_lst, wipeM, wipeE, restore, plainAt, List.all_cons, List.all_nil, Option.getD_some, Option.getD_none, d_all_rows, a1, a2]
/-! heads, places -/
def hd (s : List Nat) : Nat := (s.filter fun c => c == 104).length
def chOk (s : List Nat) : Prop := ∀ c ∈ s, c = 104 ∨ c = 116
theorem eq_ch {c d : Nat} (h : c < 1114112) (h' : d < 1114112) : eqSem (.str [c]) (.str [d]) = some (c == d) := by
  rw [eq_ss (by simp [h]) (by simp [h'])]
  simp
def is1 (k : Nat) : D → Bool
  | .str [c] => c == k
  | _ => false
theorem filt_ch (k : Nat) : ∀ s : List Nat, ((s.map fun c => D.str [c]).filter (is1 k)).length = (s.filter fun c => c == k).length
  | [] => rfl
  | c :: s => by
    rw [List.map_cons, List.filter_cons, List.filter_cons]
    show (if (c == k) = true then _ else _ : List D).length = _
    split
    · rw [List.length_cons, List.length_cons, filt_ch k s]
    · exact filt_ch k s
theorem heads_in_ok (t : TRows T) {s : List Nat} (h : chOk s) (hl : s.length ≤ 1000) : run T wh (n + 1) 30 [.str s] = .ok (.int (hd s)) [.str s] := by
  rw [run_s t.heads_in]
  have hc : compM (.nm 1) (evC (run T wh n) (.some (.cmp .eq (.var 1) (.lit (.str [104]))))) (ev (run T wh n) (.var 1)).o (s.map fun c => D.str [c]) [some (.str s), none] = .ok (.own (((s.map fun c => D.str [c]).filter (is1 104)).map id)) [some (.str s), none] := by
    refine compM_ok (fun e => ∃ o, e = [some (.str s), o]) (fun d => [some (.str s), some d]) (is1 104) id ⟨none, rfl⟩ (fun d hd e' ⟨o, he⟩ => by subst he; rfl) (fun d hd => ⟨_, rfl⟩) (fun d hd => ?_) (fun d hd _ => ?_) (by rw [List.length_map, filt_ch]; exact lim_of (Nat.le_trans (List.length_filter_le _ _) (by omega))) rfl fun e' ⟨o, he⟩ => by subst he; rfl
    · obtain ⟨c, hc, rfl⟩ := List.mem_map.mp hd
      have := eq_ch (c := c) (d := 104) (by rcases h c hc with rfl | rfl <;> decide) (by decide)
      simp (config := { decide := true }) only [↓reduceIte, permute, quiet, still, isSem, tyIs, mtTy, D.list?, D.items, litsOnly, Sms.stores, Sm.stores, Hds.stores, Tg.slots, List.length_cons, List.length_nil, List.replicate_succ, List.replicate_zero, List.map_cons, List.map_nil, List.cons_append, List.nil_append, List.append_nil, List.getElem?_cons_zero, List.getElem?_cons_succ, List.getElem?_nil, List.set_cons_zero, List.set_cons_succ, List.set_nil, decide_true, decide_false, Bool.true_and, Bool.and_true, Bool.false_and, Bool.and_false, Bool.not_true, Bool.not_false, Bool.or_true, Bool.true_or, Bool.false_or, Bool.or_false, Option.map_some, Option.map_none, Option.bind_some, Option.bind_none, Option.isSome_some, Option.isSome_none, px_0, px_1, px_2, px_3, px_4, px_5, px_6, px_7, px_8, forGo_n, forGo_c, forK_n, forK_c, forK_b, forK_r, bt_nm, bt_tup, bt_own, bt_lst, wipeM, wipeE, restore, plainAt, List.all_cons, List.all_nil, Option.getD_some, Option.getD_none, this]
      rfl
    · obtain ⟨c, hc, rfl⟩ := List.mem_map.mp hd
      simp (config := { decide := true }) only [↓reduceIte, permute, quiet, still, isSem, tyIs, mtTy, D.list?, D.items, litsOnly, Sms.stores, Sm.stores, Hds.stores, Tg.slots, List.length_cons, List.length_nil, List.replicate_succ, List.replicate_zero, List.map_cons, List.map_nil, List.cons_append, List.nil_append, List.append_nil, List.getElem?_cons_zero, List.getElem?_cons_succ, List.getElem?_nil, List.set_cons_zero, List.set_cons_succ, List.set_nil, decide_true, decide_false, Bool.true_and, Bool.and_true, Bool.false_and, Bool.and_false, Bool.not_true, Bool.not_false, Bool.or_true, Bool.true_or, Bool.false_or, Bool.or_false, Option.map_some, Option.map_none, Option.bind_some, Option.bind_none, Option.isSome_some, Option.isSome_none, px_0, px_1, px_2, px_3, px_4, px_5, px_6, px_7, px_8, forGo_n, forGo_c, forK_n, forK_c, forK_b, forK_r, bt_nm, bt_tup, bt_own, bt_lst, wipeM, wipeE, restore, plainAt, List.all_cons, List.all_nil, Option.getD_some, Option.getD_none]
      rfl
  simp (config := { decide := true }) only [↓reduceIte, permute, quiet, still, isSem, tyIs, mtTy, D.list?, D.items, litsOnly, Sms.stores, Sm.stores, Hds.stores, Tg.slots, List.length_cons, List.length_nil, List.replicate_succ, List.replicate_zero, List.map_cons, List.map_nil, List.cons_append, List.nil_append, List.append_nil, List.getElem?_cons_zero, List.getElem?_cons_succ, List.getElem?_nil, List.set_cons_zero, List.set_cons_succ, List.set_nil, decide_true, decide_false, Bool.true_and, Bool.and_true, Bool.false_and, Bool.and_false, Bool.not_true, Bool.not_false, Bool.or_true, Bool.true_or, Bool.false_or, Bool.or_false, Option.map_some, Option.map_none, Option.bind_some, Option.bind_none, Option.isSome_some, Option.isSome_none, px_0, px_1, px_2, px_3, px_4, px_5, px_6, px_7, px_8, forGo_n, forGo_c, forK_n, forK_c, forK_b, forK_r, bt_nm, bt_tup, bt_own, bt_lst, wipeM, wipeE, restore, plainAt, List.all_cons, List.all_nil, Option.getD_some, Option.getD_none, d_heads_in, items_s, hc]
  rw [List.length_map, filt_ch]
  rfl
def plc (s : List Nat) : Nat := s.foldl (fun a c => a * 2 + if c = 116 then 1 else 0) 0
theorem place_in_ok (t : TRows T) {s : List Nat} (h : chOk s) : run T wh (n + 1) 31 [.str s] = .ok (.int (plc s)) [.str s] := by
  rw [run_s t.place_in]
  have key : ∀ (r : List Nat) (a : Nat) (o : Option D), chOk r → ∃ o', forGo (.nm 2) (evSs (run T wh n) wh 1 (.cons (.set 1 (.bin .add (.bin .mul (.var 1) (.lit (.int 2))) (.bi .int (.cons (.cmp .eq (.var 2) (.lit (.str [116]))) .nil)))) .nil)) (r.map fun c => D.str [c]) [some (.str s), some (.int a), o] = .ok .nx [some (.str s), some (.int ((r.foldl (fun a c => a * 2 + if c = 116 then 1 else 0) a : Nat) : Int)), o'] := by
    intro r
    induction r with
    | nil => exact fun a o _ => ⟨o, rfl⟩
    | cons c r ih =>
      intro a o hr
      have h1 := eq_ch (c := c) (d := 116) (by rcases hr c (by simp) with rfl | rfl <;> decide) (by decide)
      have b1 : (2 : Int).natAbs < 2 ^ 64 := by omega
      obtain ⟨o', h2⟩ := ih (a * 2 + if c = 116 then 1 else 0) (some (.str [c])) fun d hd => hr d (by simp [hd])
      refine ⟨o', ?_⟩
      rw [List.map_cons]
      simp (config := { decide := true }) only [↓reduceIte, permute, quiet, still, isSem, tyIs, mtTy, D.list?, D.items, litsOnly, Sms.stores, Sm.stores, Hds.stores, Tg.slots, List.length_cons, List.length_nil, List.replicate_succ, List.replicate_zero, List.map_cons, List.map_nil, List.cons_append, List.nil_append, List.append_nil, List.getElem?_cons_zero, List.getElem?_cons_succ, List.getElem?_nil, List.set_cons_zero, List.set_cons_succ, List.set_nil, decide_true, decide_false, Bool.true_and, Bool.and_true, Bool.false_and, Bool.and_false, Bool.not_true, Bool.not_false, Bool.or_true, Bool.true_or, Bool.false_or, Bool.or_false, Option.map_some, Option.map_none, Option.bind_some, Option.bind_none, Option.isSome_some, Option.isSome_none, px_0, px_1, px_2, px_3, px_4, px_5, px_6, px_7, px_8, forGo_n, forGo_c, forK_n, forK_c, forK_b, forK_r, bt_nm, bt_tup, bt_own, bt_lst, wipeM, wipeE, restore, plainAt, List.all_cons, List.all_nil, Option.getD_some, Option.getD_none, h1, b_mulR b1]
      have e : (a : Int) * 2 + (if (c == 116) = true then 1 else 0) = ((a * 2 + if c = 116 then 1 else 0 : Nat) : Int) := by
        by_cases hc : c = 116
        · simp [hc]
        · simp [hc]
      rw [e]
      exact h2
  obtain ⟨o', hk⟩ := key s 0 none h
  have hk : forGo (.nm 2) (evSs (run T wh n) wh 1 (.cons (.set 1 (.bin .add (.bin .mul (.var 1) (.lit (.int 2))) (.bi .int (.cons (.cmp .eq (.var 2) (.lit (.str [116]))) .nil)))) .nil)) (s.map fun c => D.str [c]) [some (.str s), some (.int 0), none] = _ := hk
  simp (config := { decide := true }) only [↓reduceIte, permute, quiet, still, isSem, tyIs, mtTy, D.list?, D.items, litsOnly, Sms.stores, Sm.stores, Hds.stores, Tg.slots, List.length_cons, List.length_nil, List.replicate_succ, List.replicate_zero, List.map_cons, List.map_nil, List.cons_append, List.nil_append, List.append_nil, List.getElem?_cons_zero, List.getElem?_cons_succ, List.getElem?_nil, List.set_cons_zero, List.set_cons_succ, List.set_nil, decide_true, decide_false, Bool.true_and, Bool.and_true, Bool.false_and, Bool.and_false, Bool.not_true, Bool.not_false, Bool.or_true, Bool.true_or, Bool.false_or, Bool.or_false, Option.map_some, Option.map_none, Option.bind_some, Option.bind_none, Option.isSome_some, Option.isSome_none, px_0, px_1, px_2, px_3, px_4, px_5, px_6, px_7, px_8, forGo_n, forGo_c, forK_n, forK_c, forK_b, forK_r, bt_nm, bt_tup, bt_own, bt_lst, wipeM, wipeE, restore, plainAt, List.all_cons, List.all_nil, Option.getD_some, Option.getD_none, d_place_in, items_s, hk]
  rfl
end Py.Q
end
section
namespace Py.Q
variable {T : Nat → Option Fn} {wh : M Bool → M Fl → M Fl} {n : Nat}
theorem chsZ_succ (k : Nat) (l : Int) : chsZ ((k + 1 : Nat) : Int) l = chsZ k (l - 1) + chsZ k l := by
  rcases Int.lt_trichotomy l 0 with h | h | h
  · unfold chsZ
    rw [if_neg (by omega), if_neg (by omega), if_neg (by omega)]; rfl
  · subst h
    rw [show (0 : Int) = ((0 : Nat) : Int) from rfl, chsZ_nat, chsZ_nat, chs_0, chs_0]
    unfold chsZ
    rw [if_neg (by omega)]
    rfl
  · obtain ⟨j, rfl⟩ : ∃ j : Nat, l = ((j + 1 : Nat) : Int) := ⟨(l - 1).toNat, by omega⟩
    rw [chsZ_nat, show ((j + 1 : Nat) : Int) - 1 = (j : Int) by omega, chsZ_nat, chsZ_nat]
    show ((chs k j + chs k (j + 1) : Nat) : Int) = _
    omega
theorem chsZ_nn (m l : Int) : 0 ≤ chsZ m l := by unfold chsZ; split <;> omega
theorem chsZ_le (k : Nat) (l : Int) : chsZ k l ≤ 2 ^ k := by
  unfold chsZ
  split
  · have := chs_le ((k : Int)).toNat l.toNat
    rw [Int.toNat_natCast] at this ⊢
    exact_mod_cast this
  · exact_mod_cast Nat.zero_le _
/-! ranks -/
def rk : List Nat → Int → Int
  | [], _ => 0
  | c :: r, l => if c = 116 then chsZ r.length (l - 1) + rk r l else rk r (l - 1)
def rkd : Nat → Int → Int → List Nat
  | 0, _, _ => []
  | k + 1, l, i => if i < chsZ k (l - 1) then 104 :: rkd k (l - 1) i else 116 :: rkd k l (i - chsZ k (l - 1))
theorem hd_h (r : List Nat) : hd (104 :: r) = hd r + 1 := rfl
theorem hd_t (r : List Nat) : hd (116 :: r) = hd r := rfl
theorem rk_lt : ∀ s : List Nat, chOk s → 0 ≤ rk s (hd s) ∧ rk s (hd s) < chsZ s.length (hd s) ∧ rkd s.length (hd s) (rk s (hd s)) = s
  | [], _ => by
    refine ⟨Int.le_refl _, ?_, rfl⟩
    show (0 : Int) < chsZ ((0 : Nat) : Int) ((0 : Nat) : Int)
    rw [chsZ_nat]; decide
  | c :: r, h => by
    obtain ⟨h1, h2, h3⟩ := rk_lt r fun d hd => h d (by simp [hd])
    rcases h c (by simp) with rfl | rfl
    · rw [hd_h]
      have e : ((hd r + 1 : Nat) : Int) - 1 = (hd r : Int) := by omega
      have e2 : rk (104 :: r) ((hd r + 1 : Nat) : Int) = rk r (hd r) := by
        show (if (104 : Nat) = 116 then _ else rk r (((hd r + 1 : Nat) : Int) - 1)) = _
        rw [if_neg (by decide), e]
      rw [e2]
      refine ⟨h1, ?_, ?_⟩
      · show _ < chsZ ((r.length + 1 : Nat) : Int) _
        rw [chsZ_succ, e]
        have := chsZ_nn r.length ((hd r + 1 : Nat) : Int)
        omega
      · show (if rk r (hd r) < chsZ r.length (((hd r + 1 : Nat) : Int) - 1) then _ else _) = _
        rw [e, if_pos h2, h3]
    · rw [hd_t]
      have e2 : rk (116 :: r) (hd r) = chsZ r.length ((hd r : Int) - 1) + rk r (hd r) := by
        show (if (116 : Nat) = 116 then _ else _) = _
        rw [if_pos rfl]
      have nn := chsZ_nn r.length ((hd r : Int) - 1)
      rw [e2]
      refine ⟨by omega, ?_, ?_⟩
      · show _ < chsZ ((r.length + 1 : Nat) : Int) _
        rw [chsZ_succ]
        omega
      · show (if chsZ r.length ((hd r : Int) - 1) + rk r (hd r) < chsZ r.length ((hd r : Int) - 1) then _ else 116 :: rkd r.length (hd r) (chsZ r.length ((hd r : Int) - 1) + rk r (hd r) - chsZ r.length ((hd r : Int) - 1))) = _
        rw [if_neg (by omega), show chsZ r.length ((hd r : Int) - 1) + rk r (hd r) - chsZ r.length ((hd r : Int) - 1) = rk r (hd r) by omega, h3]
/-! rows with so many heads -/
def W (k : Nat) (l : Int) : List (List Nat) := (rowsL k).filter fun s => ((hd s : Nat) : Int) == l
theorem filter_map_h {f : List Nat → Bool} {c : Nat} : ∀ L : List (List Nat), (L.map (c :: ·)).filter f = (L.filter fun s => f (c :: s)).map (c :: ·)
  | [] => rfl
  | s :: L => by
    rw [List.map_cons, List.filter_cons, List.filter_cons, filter_map_h L]
    split <;> rfl
theorem W_succ (k : Nat) (l : Int) : W (k + 1) l = (W k (l - 1)).map (104 :: ·) ++ (W k l).map (116 :: ·) := by
  unfold W
  show ((rowsL k).map (104 :: ·) ++ (rowsL k).map (116 :: ·)).filter _ = _
  rw [List.filter_append, filter_map_h, filter_map_h]
  congr 2
  refine List.filter_congr fun s _ => ?_
  rw [hd_h]
  have : (((hd s + 1 : Nat) : Int) == l) = (((hd s : Nat) : Int) == l - 1) := by
    by_cases e : ((hd s + 1 : Nat) : Int) = l
    · rw [beq_iff_eq.mpr e, beq_iff_eq.mpr (by omega)]
    · rw [beq_eq_false_iff_ne.mpr e, beq_eq_false_iff_ne.mpr (by omega)]
  exact this
theorem W_0 (l : Int) : W 0 l = if l = 0 then [[]] else [] := by
  unfold W
  show (List.filter _ [[]]) = _
  rw [List.filter_cons]
  show (if (((0 : Nat) : Int) == l) = true then [[]] else []) = _
  by_cases e : l = 0
  · rw [if_pos (by simp [e]), if_pos e]
  · rw [if_neg (by simp; omega), if_neg e]
theorem W_eq : ∀ (k : Nat) (l : Int), (List.range (chsZ k l).toNat).map (fun i => rkd k l (i : Nat)) = W k l
  | 0, l => by
    rw [W_0]
    by_cases e : l = 0
    · subst e
      rw [if_pos rfl]
      have : chsZ ((0 : Nat) : Int) 0 = 1 := by rw [show (0 : Int) = ((0 : Nat) : Int) from rfl, chsZ_nat]; rfl
      rw [this]
      rfl
    · rw [if_neg e]
      have : chsZ ((0 : Nat) : Int) l = 0 := by unfold chsZ; rw [if_neg (by omega)]
      rw [this]
      rfl
  | k + 1, l => by
    rw [W_succ, ← W_eq k (l - 1), ← W_eq k l, chsZ_succ]
    have a0 := chsZ_nn k (l - 1)
    have b0 := chsZ_nn k l
    rw [show (chsZ k (l - 1) + chsZ k l).toNat = (chsZ k (l - 1)).toNat + (chsZ k l).toNat by omega, List.range_add, List.map_append, List.map_map, List.map_map, List.map_map]
    congr 1
    · refine List.map_congr_left fun i hi => ?_
      have hi := List.mem_range.mp hi
      show (if ((i : Nat) : Int) < chsZ k (l - 1) then 104 :: rkd k (l - 1) i else _) = 104 :: rkd k (l - 1) i
      rw [if_pos (by omega)]
    · refine List.map_congr_left fun i hi => ?_
      show (if (((chsZ k (l - 1)).toNat + i : Nat) : Int) < chsZ k (l - 1) then _ else 116 :: rkd k l ((((chsZ k (l - 1)).toNat + i : Nat) : Int) - chsZ k (l - 1))) = 116 :: rkd k l i
      rw [if_neg (by omega), show (((chsZ k (l - 1)).toNat + i : Nat) : Int) - chsZ k (l - 1) = (i : Int) by omega]
theorem W_len (k : Nat) (l : Int) : ((W k l).length : Int) = chsZ k l := by
  rw [← W_eq, List.length_map, List.length_range]
  have := chsZ_nn k l
  omega
theorem rowsL_nodup : ∀ k, (rowsL k).Nodup
  | 0 => by simp [rowsL]
  | k + 1 => by
    show ((rowsL k).map (104 :: ·) ++ (rowsL k).map (116 :: ·)).Nodup
    have ih := rowsL_nodup k
    rw [List.nodup_append]
    refine ⟨?_, ?_, ?_⟩
    · exact List.pairwise_map.mpr (ih.imp fun h e => h (List.cons.inj e).2)
    · exact List.pairwise_map.mpr (ih.imp fun h e => h (List.cons.inj e).2)
    · intro a ha b hb e
      obtain ⟨x, _, rfl⟩ := List.mem_map.mp ha
      obtain ⟨y, _, rfl⟩ := List.mem_map.mp hb
      cases (List.cons.inj e).1
theorem W_nodup (k : Nat) (l : Int) : (W k l).Nodup := (rowsL_nodup k).filter _
theorem W_get {s : List Nat} (h : chOk s) : (W s.length (hd s))[(rk s (hd s)).toNat]? = some s := by
  obtain ⟨h1, h2, h3⟩ := rk_lt s h
  rw [← W_eq, List.getElem?_map, List.getElem?_range (by omega)]
  show some (rkd s.length (hd s) (((rk s (hd s)).toNat : Nat) : Int)) = some s
  rw [show (((rk s (hd s)).toNat : Nat) : Int) = rk s (hd s) by omega, h3]
theorem find_ss : ∀ {L : List (List Nat)} {i : Nat} {s : List Nat}, L.Nodup → L[i]? = some s → findD (.str s) (L.map .str) = some i
  | [], i, s, _, h => by simp at h
  | a :: L, 0, s, _, h => by
    have : a = s := by simpa using h
    subst this
    show (if D.eqv (.str a) (.str a) then some 0 else _) = _
    have : D.eqv (.str a) (.str a) = true := beq_self_eq_true a
    rw [this]; rfl
  | a :: L, i + 1, s, hn, h => by
    rw [List.nodup_cons] at hn
    have h : L[i]? = some s := by simpa using h
    have ne : a ≠ s := fun e => hn.1 (e ▸ List.mem_of_getElem? h)
    show (if D.eqv (.str a) (.str s) then some 0 else (findD (.str s) (L.map .str)).map (· + 1)) = _
    have : D.eqv (.str a) (.str s) = false := beq_eq_false_iff_ne.mpr ne
    rw [this, find_ss hn.2 h]; rfl
theorem datas_s : ∀ {L : List (List Nat)}, (∀ s ∈ L, chOk s) → D.datas (L.map .str) = true ∧ D.depths (L.map .str) = 0
  | [], _ => ⟨rfl, rfl⟩
  | s :: L, h => by
    obtain ⟨h1, h2⟩ := datas_s (L := L) fun t ht => h t (by simp [ht])
    have hs : D.data (.str s) = true := by
      show (s.all fun c => decide (c < 1114112)) = true
      rw [List.all_eq_true]
      intro c hc
      rcases h s (by simp) c hc with rfl | rfl <;> decide
    refine ⟨?_, ?_⟩
    · show (D.data (.str s) && D.datas (L.map .str)) = true
      rw [hs, h1]; rfl
    · show max (D.depth (.str s)) (D.depths (L.map .str)) = 0
      rw [h2]; rfl
theorem W_mem {k : Nat} {l : Int} {s : List Nat} (h : s ∈ W k l) : s.length = k ∧ chOk s := rowsL_mem (List.mem_filter.mp h).1
theorem data_s {s : List Nat} (h : chOk s) : D.data (.str s) = true := by
  show (s.all fun c => decide (c < 1114112)) = true
  rw [List.all_eq_true]
  intro c hc
  rcases h c hc with rfl | rfl <;> decide
theorem index_W {s : List Nat} (h : chOk s) : mtSem .index (.lst ((W s.length (hd s)).map .str)) [.str s] = some (.int (rk s (hd s))) := by
  obtain ⟨h1, h2, _⟩ := rk_lt s h
  obtain ⟨d1, d2⟩ := datas_s (L := W s.length (hd s)) fun t ht => (W_mem ht).2
  simp only [mtSem, D.list?, Option.bind_some]
  rw [if_pos (by rw [data_s h, d1, d2]; rfl), find_ss (W_nodup _ _) (W_get h)]
  show some (D.int (((rk s (hd s)).toNat : Nat) : Int)) = _
  rw [show (((rk s (hd s)).toNat : Nat) : Int) = rk s (hd s) by omega]
end Py.Q
end
section
namespace Py.Q
variable {T : Nat → Option Fn} {wh : M Bool → M Fl → M Fl} {n : Nat}
/-! the program's own words of it -/
theorem range_succ (lo : Int) (k : Nat) : rangeD lo 1 (k + 1) = .int lo :: rangeD (lo + 1) 1 k := by
  unfold rangeD
  rw [List.range_succ_eq_map, List.map_cons, List.map_map]
  congr 1
  · simp
  · refine List.map_congr_left fun i _ => ?_
    show D.int (lo + ((i + 1 : Nat) : Int) * 1) = D.int (lo + 1 + (i : Int) * 1)
    congr 1
    omega
theorem rank_in_ok (t : TRows T) {s : List Nat} (h : chOk s) (hl : s.length ≤ 20) : run T wh (n + 2) 32 [.str s] = .ok (.int (rk s (hd s))) [.str s] := by
  rw [run_s t.rank_in]
  have key : ∀ (r : List Nat) (k : Nat) (f l : Int) (o3 o4 : Option D), k + r.length = s.length → chOk r → ∃ o3' o4' l', forGo (.tup [3, 4]) (evSs (run T wh (n + 1)) wh 1 (.cons (.ite (.cmp .eq (.var 4) (.lit (.str [116]))) (.cons (.aug 1 .add (.call 24 (.cons (.bin .sub (.bin .sub (.bi .len (.cons (.var 0) .nil)) (.var 3)) (.lit (.int 1))) (.cons (.bin .sub (.var 2) (.lit (.int 1))) .nil)))) .nil) (.cons (.aug 2 .sub (.lit (.int 1))) .nil)) .nil)) (enumAux k (r.map fun c => D.str [c])) [some (.str s), some (.int f), some (.int l), o3, o4] = .ok .nx [some (.str s), some (.int (f + rk r l)), some (.int l'), o3', o4'] := by
    intro r
    induction r with
    | nil => exact fun k f l o3 o4 _ _ => ⟨o3, o4, l, by show R.ok Fl.nx _ = _; rw [show rk [] l = 0 from rfl, Int.add_zero]⟩
    | cons c r ih =>
      intro k f l o3 o4 hk hr
      have hk : k + (r.length + 1) = s.length := hk
      have hr' : chOk r := fun d hd => hr d (by simp [hd])
      have ll : s.length ≤ LIM := lim_of (by omega)
      have e1 : enumAux k ((c :: r).map fun c => D.str [c]) = .tup [.int k, .str [c]] :: enumAux (k + 1) (r.map fun c => D.str [c]) := rfl
      have h1 := eq_ch (c := c) (d := 116) (by rcases hr c (by simp) with rfl | rfl <;> decide) (by decide)
      rw [e1]
      rcases hr c (by simp) with rfl | rfl
      · obtain ⟨o3', o4', l', h2⟩ := ih (k + 1) f (l - 1) (some (.int k)) (some (.str [104])) (by omega) hr'
        refine ⟨o3', o4', l', ?_⟩
        have h1 : eqSem (.str [104]) (.str [116]) = some false := h1
        simp (config := { decide := true }) only [↓reduceIte, permute, quiet, still, isSem, tyIs, mtTy, D.list?, D.items, litsOnly, Sms.stores, Sm.stores, Hds.stores, Tg.slots, List.length_cons, List.length_nil, List.replicate_succ, List.replicate_zero, List.map_cons, List.map_nil, List.cons_append, List.nil_append, List.append_nil, List.getElem?_cons_zero, List.getElem?_cons_succ, List.getElem?_nil, List.set_cons_zero, List.set_cons_succ, List.set_nil, decide_true, decide_false, Bool.true_and, Bool.and_true, Bool.false_and, Bool.and_false, Bool.not_true, Bool.not_false, Bool.or_true, Bool.true_or, Bool.false_or, Bool.or_false, Option.map_some, Option.map_none, Option.bind_some, Option.bind_none, Option.isSome_some, Option.isSome_none, px_0, px_1, px_2, px_3, px_4, px_5, px_6, px_7, px_8, forGo_n, forGo_c, forK_n, forK_c, forK_b, forK_r, bt_nm, bt_tup, bt_own, bt_lst, wipeM, wipeE, restore, plainAt, List.all_cons, List.all_nil, Option.getD_some, Option.getD_none, h1, h2]
        rfl
      · obtain ⟨o3', o4', l', h2⟩ := ih (k + 1) (f + chsZ r.length (l - 1)) l (some (.int k)) (some (.str [116])) (by omega) hr'
        refine ⟨o3', o4', l', ?_⟩
        have h1 : eqSem (.str [116]) (.str [116]) = some true := h1
        have e3 : ((s.length : Nat) : Int) - (k : Int) - 1 = (r.length : Int) := by omega
        have hm : (r.length : Int) ≤ 20 := by omega
        have c1 := fun n => choices_ok (wh := wh) (n := n) t.toTPlain r.length (l - 1) hm
        simp (config := { decide := true }) only [↓reduceIte, permute, quiet, still, isSem, tyIs, mtTy, D.list?, D.items, litsOnly, Sms.stores, Sm.stores, Hds.stores, Tg.slots, List.length_cons, List.length_nil, List.replicate_succ, List.replicate_zero, List.map_cons, List.map_nil, List.cons_append, List.nil_append, List.append_nil, List.getElem?_cons_zero, List.getElem?_cons_succ, List.getElem?_nil, List.set_cons_zero, List.set_cons_succ, List.set_nil, decide_true, decide_false, Bool.true_and, Bool.and_true, Bool.false_and, Bool.and_false, Bool.not_true, Bool.not_false, Bool.or_true, Bool.true_or, Bool.false_or, Bool.or_false, Option.map_some, Option.map_none, Option.bind_some, Option.bind_none, Option.isSome_some, Option.isSome_none, px_0, px_1, px_2, px_3, px_4, px_5, px_6, px_7, px_8, forGo_n, forGo_c, forK_n, forK_c, forK_b, forK_r, bt_nm, bt_tup, bt_own, bt_lst, wipeM, wipeE, restore, plainAt, List.all_cons, List.all_nil, Option.getD_some, Option.getD_none, h1, len_s ll, e3, c1, h2]
        have : rk (116 :: r) l = chsZ r.length (l - 1) + rk r l := by
          show (if (116 : Nat) = 116 then _ else _) = _
          rw [if_pos rfl]
        rw [this, Int.add_assoc]
  obtain ⟨o3, o4, l', hk⟩ := key s 0 0 (hd s) none none (by simp) h
  have a1 := fun n => heads_in_ok (wh := wh) (n := n) t h (by omega)
  simp (config := { decide := true }) only [↓reduceIte, permute, quiet, still, isSem, tyIs, mtTy, D.list?, D.items, litsOnly, Sms.stores, Sm.stores, Hds.stores, Tg.slots, List.length_cons, List.length_nil, List.replicate_succ, List.replicate_zero, List.map_cons, List.map_nil, List.cons_append, List.nil_append, List.append_nil, List.getElem?_cons_zero, List.getElem?_cons_succ, List.getElem?_nil, List.set_cons_zero, List.set_cons_succ, List.set_nil, decide_true, decide_false, Bool.true_and, Bool.and_true, Bool.false_and, Bool.and_false, Bool.not_true, Bool.not_false, Bool.or_true, Bool.true_or, Bool.false_or, Bool.or_false, Option.map_some, Option.map_none, Option.bind_some, Option.bind_none, Option.isSome_some, Option.isSome_none, px_0, px_1, px_2, px_3, px_4, px_5, px_6, px_7, px_8, forGo_n, forGo_c, forK_n, forK_c, forK_b, forK_r, bt_nm, bt_tup, bt_own, bt_lst, wipeM, wipeE, restore, plainAt, List.all_cons, List.all_nil, Option.getD_some, Option.getD_none, d_rank_in, a1, items_s, hk]
  simp
theorem ranked_in_ok (t : TRows T) (m : Nat) (l i : Int) (hm : m ≤ 20) : run T wh (n + 2) 33 [.int m, .int l, .int i] = .ok (.str (rkd m l i)) [.int m, .int l, .int i] := by
  rw [run_s t.ranked_in]
  have key : ∀ (k j : Nat) (a i l : Int) (f : List Nat) (o3 o6 : Option D), j + k = m → f.length ≤ j → ∃ o3' o6' i' l', forGo (.nm 3) (evSs (run T wh (n + 1)) wh 3 (.cons (.set 6 (.call 24 (.cons (.bin .sub (.bin .sub (.var 0) (.var 3)) (.lit (.int 1))) (.cons (.bin .sub (.var 5) (.lit (.int 1))) .nil)))) (.cons (.ite (.cmp .lt (.var 2) (.var 6)) (.cons (.par [4, 5] (.cons (.bin .add (.var 4) (.lit (.str [104]))) (.cons (.bin .sub (.var 5) (.lit (.int 1))) .nil))) .nil) (.cons (.par [4, 2] (.cons (.bin .add (.var 4) (.lit (.str [116]))) (.cons (.bin .sub (.var 2) (.var 6)) .nil))) .nil)) .nil))) (rangeD (j : Int) 1 k) [some (.int m), some (.int a), some (.int i), o3, some (.str f), some (.int l), o6] = .ok .nx [some (.int m), some (.int a), some (.int i'), o3', some (.str (f ++ rkd k l i)), some (.int l'), o6'] := by
    intro k
    induction k with
    | zero => exact fun j a i l f o3 o6 _ _ => ⟨o3, o6, i, l, by show R.ok Fl.nx _ = _; rw [show rkd 0 l i = [] from rfl, List.append_nil]⟩
    | succ k ih =>
      intro j a i l f o3 o6 hj hf
      rw [range_succ, show (j : Int) + 1 = ((j + 1 : Nat) : Int) by omega]
      have e3 : ((m : Nat) : Int) - (j : Int) - 1 = (k : Int) := by omega
      have hm2 : (k : Int) ≤ 20 := by omega
      have c1 := fun n => choices_ok (wh := wh) (n := n) t.toTPlain k (l - 1) hm2
      have e4 : ∀ c : Nat, f.length + ([c] : List Nat).length ≤ LIM := fun c => lim_of (by simp; omega)
      by_cases hc : i < chsZ k (l - 1)
      · obtain ⟨o3', o6', i', l', h2⟩ := ih (j + 1) a i (l - 1) (f ++ [104]) (some (.int j)) (some (.int (chsZ k (l - 1)))) (by omega) (by simp; omega)
        refine ⟨o3', o6', i', l', ?_⟩
        simp (config := { decide := true }) only [↓reduceIte, permute, quiet, still, isSem, tyIs, mtTy, D.list?, D.items, litsOnly, Sms.stores, Sm.stores, Hds.stores, Tg.slots, List.length_cons, List.length_nil, List.replicate_succ, List.replicate_zero, List.map_cons, List.map_nil, List.cons_append, List.nil_append, List.append_nil, List.getElem?_cons_zero, List.getElem?_cons_succ, List.getElem?_nil, List.set_cons_zero, List.set_cons_succ, List.set_nil, decide_true, decide_false, Bool.true_and, Bool.and_true, Bool.false_and, Bool.and_false, Bool.not_true, Bool.not_false, Bool.or_true, Bool.true_or, Bool.false_or, Bool.or_false, Option.map_some, Option.map_none, Option.bind_some, Option.bind_none, Option.isSome_some, Option.isSome_none, px_0, px_1, px_2, px_3, px_4, px_5, px_6, px_7, px_8, forGo_n, forGo_c, forK_n, forK_c, forK_b, forK_r, bt_nm, bt_tup, bt_own, bt_lst, wipeM, wipeE, restore, plainAt, List.all_cons, List.all_nil, Option.getD_some, Option.getD_none, e3, c1, hc, b_adds (e4 104), h2]
        rw [show rkd (k + 1) l i = 104 :: rkd k (l - 1) i from if_pos hc]
        simp
      · obtain ⟨o3', o6', i', l', h2⟩ := ih (j + 1) a (i - chsZ k (l - 1)) l (f ++ [116]) (some (.int j)) (some (.int (chsZ k (l - 1)))) (by omega) (by simp; omega)
        refine ⟨o3', o6', i', l', ?_⟩
        simp (config := { decide := true }) only [↓reduceIte, permute, quiet, still, isSem, tyIs, mtTy, D.list?, D.items, litsOnly, Sms.stores, Sm.stores, Hds.stores, Tg.slots, List.length_cons, List.length_nil, List.replicate_succ, List.replicate_zero, List.map_cons, List.map_nil, List.cons_append, List.nil_append, List.append_nil, List.getElem?_cons_zero, List.getElem?_cons_succ, List.getElem?_nil, List.set_cons_zero, List.set_cons_succ, List.set_nil, decide_true, decide_false, Bool.true_and, Bool.and_true, Bool.false_and, Bool.and_false, Bool.not_true, Bool.not_false, Bool.or_true, Bool.true_or, Bool.false_or, Bool.or_false, Option.map_some, Option.map_none, Option.bind_some, Option.bind_none, Option.isSome_some, Option.isSome_none, px_0, px_1, px_2, px_3, px_4, px_5, px_6, px_7, px_8, forGo_n, forGo_c, forK_n, forK_c, forK_b, forK_r, bt_nm, bt_tup, bt_own, bt_lst, wipeM, wipeE, restore, plainAt, List.all_cons, List.all_nil, Option.getD_some, Option.getD_none, e3, c1, hc, b_adds (e4 116), h2]
        rw [show rkd (k + 1) l i = 116 :: rkd k l (i - chsZ k (l - 1)) from if_neg hc]
        simp
  obtain ⟨o3, o6, i', l', hk⟩ := key m 0 l i l [] none none (by omega) (Nat.le_refl _)
  have hk : forGo _ _ (rangeD 0 1 m) _ = _ := hk
  have s1 : small (m : Int) = true := small_nat (by omega)
  have e2 : ((m : Int)).toNat = m := toNat_nat m
  simp (config := { decide := true }) only [↓reduceIte, permute, quiet, still, isSem, tyIs, mtTy, D.list?, D.items, litsOnly, Sms.stores, Sm.stores, Hds.stores, Tg.slots, List.length_cons, List.length_nil, List.replicate_succ, List.replicate_zero, List.map_cons, List.map_nil, List.cons_append, List.nil_append, List.append_nil, List.getElem?_cons_zero, List.getElem?_cons_succ, List.getElem?_nil, List.set_cons_zero, List.set_cons_succ, List.set_nil, decide_true, decide_false, Bool.true_and, Bool.and_true, Bool.false_and, Bool.and_false, Bool.not_true, Bool.not_false, Bool.or_true, Bool.true_or, Bool.false_or, Bool.or_false, Option.map_some, Option.map_none, Option.bind_some, Option.bind_none, Option.isSome_some, Option.isSome_none, px_0, px_1, px_2, px_3, px_4, px_5, px_6, px_7, px_8, forGo_n, forGo_c, forK_n, forK_c, forK_b, forK_r, bt_nm, bt_tup, bt_own, bt_lst, wipeM, wipeE, restore, plainAt, List.all_cons, List.all_nil, Option.getD_some, Option.getD_none, d_ranked_in, s1, e2, hk]
end Py.Q
end
section
namespace Py.Q
variable {T : Nat → Option Fn} {wh : M Bool → M Fl → M Fl} {n : Nat}
theorem heads_ok (t : TRows T) {s : List Nat} (h : IsRow s) : run T wh (n + 3) 35 [.str s] = .ok (.int (hd s)) [.str s] := by
  rw [run_s t.heads]
  have a1 := fun n => sure_row_ok (wh := wh) (n := n) t h
  have a2 := fun n => heads_in_ok (wh := wh) (n := n) t h.2 (by have := h.1; omega)
  simp (config := { decide := true }) only [↓reduceIte, permute, quiet, still, isSem, tyIs, mtTy, D.list?, D.items, litsOnly, Sms.stores, Sm.stores, Hds.stores, Tg.slots, List.length_cons, List.length_nil, List.replicate_succ, List.replicate_zero, List.map_cons, List.map_nil, List.cons_append, List.nil_append, List.append_nil, List.getElem?_cons_zero, List.getElem?_cons_succ, List.getElem?_nil, List.set_cons_zero, List.set_cons_succ, List.set_nil, decide_true, decide_false, Bool.true_and, Bool.and_true, Bool.false_and, Bool.and_false, Bool.not_true, Bool.not_false, Bool.or_true, Bool.true_or, Bool.false_or, Bool.or_false, Option.map_some, Option.map_none, Option.bind_some, Option.bind_none, Option.isSome_some, Option.isSome_none, px_0, px_1, px_2, px_3, px_4, px_5, px_6, px_7, px_8, forGo_n, forGo_c, forK_n, forK_c, forK_b, forK_r, bt_nm, bt_tup, bt_own, bt_lst, wipeM, wipeE, restore, plainAt, List.all_cons, List.all_nil, Option.getD_some, Option.getD_none, d_heads, a1, a2]
theorem place_of_ok (t : TRows T) {s : List Nat} (h : IsRow s) : run T wh (n + 3) 39 [.str s] = .ok (.int (plc s)) [.str s] := by
  rw [run_s t.place_of]
  have a1 := fun n => sure_row_ok (wh := wh) (n := n) t h
  have a2 := fun n => place_in_ok (wh := wh) (n := n) t h.2
  simp (config := { decide := true }) only [↓reduceIte, permute, quiet, still, isSem, tyIs, mtTy, D.list?, D.items, litsOnly, Sms.stores, Sm.stores, Hds.stores, Tg.slots, List.length_cons, List.length_nil, List.replicate_succ, List.replicate_zero, List.map_cons, List.map_nil, List.cons_append, List.nil_append, List.append_nil, List.getElem?_cons_zero, List.getElem?_cons_succ, List.getElem?_nil, List.set_cons_zero, List.set_cons_succ, List.set_nil, decide_true, decide_false, Bool.true_and, Bool.and_true, Bool.false_and, Bool.and_false, Bool.not_true, Bool.not_false, Bool.or_true, Bool.true_or, Bool.false_or, Bool.or_false, Option.map_some, Option.map_none, Option.bind_some, Option.bind_none, Option.isSome_some, Option.isSome_none, px_0, px_1, px_2, px_3, px_4, px_5, px_6, px_7, px_8, forGo_n, forGo_c, forK_n, forK_c, forK_b, forK_r, bt_nm, bt_tup, bt_own, bt_lst, wipeM, wipeE, restore, plainAt, List.all_cons, List.all_nil, Option.getD_some, Option.getD_none, d_place_of, a1, a2]
theorem rank_of_ok (t : TRows T) {s : List Nat} (h : IsRow s) : run T wh (n + 3) 41 [.str s] = .ok (.int (rk s (hd s))) [.str s] := by
  rw [run_s t.rank_of]
  have a1 := fun n => sure_row_ok (wh := wh) (n := n + 1) t h
  have a1' := fun n => sure_row_ok (wh := wh) (n := n) t h
  have a2 := fun n => rank_in_ok (wh := wh) (n := n) t h.2 (by have := h.1; omega)
  simp (config := { decide := true }) only [↓reduceIte, permute, quiet, still, isSem, tyIs, mtTy, D.list?, D.items, litsOnly, Sms.stores, Sm.stores, Hds.stores, Tg.slots, List.length_cons, List.length_nil, List.replicate_succ, List.replicate_zero, List.map_cons, List.map_nil, List.cons_append, List.nil_append, List.append_nil, List.getElem?_cons_zero, List.getElem?_cons_succ, List.getElem?_nil, List.set_cons_zero, List.set_cons_succ, List.set_nil, decide_true, decide_false, Bool.true_and, Bool.and_true, Bool.false_and, Bool.and_false, Bool.not_true, Bool.not_false, Bool.or_true, Bool.true_or, Bool.false_or, Bool.or_false, Option.map_some, Option.map_none, Option.bind_some, Option.bind_none, Option.isSome_some, Option.isSome_none, px_0, px_1, px_2, px_3, px_4, px_5, px_6, px_7, px_8, forGo_n, forGo_c, forK_n, forK_c, forK_b, forK_r, bt_nm, bt_tup, bt_own, bt_lst, wipeM, wipeE, restore, plainAt, List.all_cons, List.all_nil, Option.getD_some, Option.getD_none, d_rank_of, a1', a2]
theorem how_many_rows_ok (t : TRows T) (m l : Nat) (hm : m ≤ 12) (hl : l ≤ 12) : run T wh (n + 4) 38 [.int m, .int l] = .ok (.int (chsZ m l)) [.int m, .int l] := by
  rw [run_s t.how_many_rows]
  have a1 := fun n => sure_within_ok (wh := wh) (n := n) t.toTPlain (m : Int) 0 12 (by omega) (by omega)
  have a2 := fun n => sure_within_ok (wh := wh) (n := n) t.toTPlain (l : Int) 0 12 (by omega) (by omega)
  have a3 := fun n => choices_ok (wh := wh) (n := n) t.toTPlain (m : Int) (l : Int) (by omega)
  simp (config := { decide := true }) only [↓reduceIte, permute, quiet, still, isSem, tyIs, mtTy, D.list?, D.items, litsOnly, Sms.stores, Sm.stores, Hds.stores, Tg.slots, List.length_cons, List.length_nil, List.replicate_succ, List.replicate_zero, List.map_cons, List.map_nil, List.cons_append, List.nil_append, List.append_nil, List.getElem?_cons_zero, List.getElem?_cons_succ, List.getElem?_nil, List.set_cons_zero, List.set_cons_succ, List.set_nil, decide_true, decide_false, Bool.true_and, Bool.and_true, Bool.false_and, Bool.and_false, Bool.not_true, Bool.not_false, Bool.or_true, Bool.true_or, Bool.false_or, Bool.or_false, Option.map_some, Option.map_none, Option.bind_some, Option.bind_none, Option.isSome_some, Option.isSome_none, px_0, px_1, px_2, px_3, px_4, px_5, px_6, px_7, px_8, forGo_n, forGo_c, forK_n, forK_c, forK_b, forK_r, bt_nm, bt_tup, bt_own, bt_lst, wipeM, wipeE, restore, plainAt, List.all_cons, List.all_nil, Option.getD_some, Option.getD_none, d_how_many_rows, a1, a2, a3]
theorem rows_with_ok (t : TRows T) (m l : Nat) (hm : m ≤ 12) (hl : l ≤ 12) : run T wh (n + 4) 37 [.int m, .int l] = .ok (.own ((W m l).map .str)) [.int m, .int l] := by
  rw [run_s t.rows_with]
  have cl : (chsZ m l).toNat ≤ 4096 := by
    have := chsZ_le m l
    have h2 : (2 : Int) ^ m ≤ 4096 := by
      have : (2 : Nat) ^ m ≤ 2 ^ 12 := Nat.pow_le_pow_right (by decide) hm
      exact_mod_cast this
    omega
  have c0 := chsZ_nn m l
  have hc : compM (.nm 4) (evC (run T wh (n + 3)) .none) (ev (run T wh (n + 3)) (.call 33 (.cons (.var 2) (.cons (.var 3) (.cons (.var 4) .nil))))).o (rangeD 0 1 (chsZ m l).toNat) [some (.int m), some (.int l), some (.int m), some (.int l), none] = .ok (.own ((rangeD 0 1 (chsZ m l).toNat).map fun d => match d with
      | .int p => .str (rkd m l p)
      | _ => .non)) [some (.int m), some (.int l), some (.int m), some (.int l), none] := by
    refine compM_map (fun e => ∃ o, e = [some (.int m), some (.int l), some (.int m), some (.int l), o]) (fun d => [some (.int m), some (.int l), some (.int m), some (.int l), some d]) _ ⟨none, rfl⟩ (fun d hd e' ⟨o, he⟩ => by subst he; rfl) (fun d hd => ⟨_, rfl⟩) (fun d hd => ?_) (by rw [range_len]; exact lim_of (by omega)) rfl fun e' ⟨o, he⟩ => by subst he; rfl
    obtain ⟨j, hj⟩ := List.mem_iff_getElem?.mp hd
    obtain ⟨h1, rfl⟩ := range_get hj
    have a1 := fun n => ranked_in_ok (wh := wh) (n := n) t m l (0 + (j : Int)) (by omega)
    simp (config := { decide := true }) only [↓reduceIte, permute, quiet, still, isSem, tyIs, mtTy, D.list?, D.items, litsOnly, Sms.stores, Sm.stores, Hds.stores, Tg.slots, List.length_cons, List.length_nil, List.replicate_succ, List.replicate_zero, List.map_cons, List.map_nil, List.cons_append, List.nil_append, List.append_nil, List.getElem?_cons_zero, List.getElem?_cons_succ, List.getElem?_nil, List.set_cons_zero, List.set_cons_succ, List.set_nil, decide_true, decide_false, Bool.true_and, Bool.and_true, Bool.false_and, Bool.and_false, Bool.not_true, Bool.not_false, Bool.or_true, Bool.true_or, Bool.false_or, Bool.or_false, Option.map_some, Option.map_none, Option.bind_some, Option.bind_none, Option.isSome_some, Option.isSome_none, px_0, px_1, px_2, px_3, px_4, px_5, px_6, px_7, px_8, forGo_n, forGo_c, forK_n, forK_c, forK_b, forK_r, bt_nm, bt_tup, bt_own, bt_lst, wipeM, wipeE, restore, plainAt, List.all_cons, List.all_nil, Option.getD_some, Option.getD_none, a1]
  have a1 := fun n => sure_within_ok (wh := wh) (n := n) t.toTPlain (m : Int) 0 12 (by omega) (by omega)
  have a2 := fun n => sure_within_ok (wh := wh) (n := n) t.toTPlain (l : Int) 0 12 (by omega) (by omega)
  have a3 := fun n => choices_ok (wh := wh) (n := n) t.toTPlain (m : Int) (l : Int) (by omega)
  have s1 : small (chsZ m l) = true := by unfold small; exact decide_eq_true (by omega)
  simp (config := { decide := true }) only [↓reduceIte, permute, quiet, still, isSem, tyIs, mtTy, D.list?, D.items, litsOnly, Sms.stores, Sm.stores, Hds.stores, Tg.slots, List.length_cons, List.length_nil, List.replicate_succ, List.replicate_zero, List.map_cons, List.map_nil, List.cons_append, List.nil_append, List.append_nil, List.getElem?_cons_zero, List.getElem?_cons_succ, List.getElem?_nil, List.set_cons_zero, List.set_cons_succ, List.set_nil, decide_true, decide_false, Bool.true_and, Bool.and_true, Bool.false_and, Bool.and_false, Bool.not_true, Bool.not_false, Bool.or_true, Bool.true_or, Bool.false_or, Bool.or_false, Option.map_some, Option.map_none, Option.bind_some, Option.bind_none, Option.isSome_some, Option.isSome_none, px_0, px_1, px_2, px_3, px_4, px_5, px_6, px_7, px_8, forGo_n, forGo_c, forK_n, forK_c, forK_b, forK_r, bt_nm, bt_tup, bt_own, bt_lst, wipeM, wipeE, restore, plainAt, List.all_cons, List.all_nil, Option.getD_some, Option.getD_none, d_rows_with, a1, a2, a3, s1, hc]
  rw [← W_eq]
  unfold rangeD
  rw [List.map_map, List.map_map]
  refine congrArg (fun l' => FR.ok (D.own l') [.int m, .int l]) (List.map_congr_left fun p _ => ?_)
  simp
theorem plc_app (s : List Nat) (c : Nat) : plc (s ++ [c]) = plc s * 2 + if c = 116 then 1 else 0 := by
  unfold plc; rw [List.foldl_append]; rfl
theorem plc_fold : ∀ (s : List Nat) (a : Nat), s.foldl (fun a c => a * 2 + if c = 116 then 1 else 0) a = a * 2 ^ s.length + plc s
  | [], a => by simp [plc]
  | c :: s, a => by
    show s.foldl _ (a * 2 + if c = 116 then 1 else 0) = a * 2 ^ (s.length + 1) + s.foldl _ (0 * 2 + if c = 116 then 1 else 0)
    rw [plc_fold s, plc_fold s (0 * 2 + _), Nat.pow_succ, Nat.zero_mul, Nat.zero_add, Nat.add_mul, Nat.mul_assoc, Nat.mul_comm 2, Nat.add_assoc]
theorem plc_rowQ : ∀ (k p : Nat), p < 2 ^ k → plc (rowQ k p) = p
  | 0, p, h => by
    have : p = 0 := by simpa using h
    subst this; rfl
  | k + 1, p, h => by
    have e : plc (rowQ (k + 1) p) = (if side (p / 2 ^ k % 2) = 116 then 1 else 0) * 2 ^ k + plc (rowQ k p) := by
      show (rowQ k p).foldl _ (0 * 2 + if side (p / 2 ^ k % 2) = 116 then 1 else 0) = _
      rw [plc_fold, rowQ_len, Nat.zero_mul, Nat.zero_add]
    rw [e]
    by_cases c : p < 2 ^ k
    · rw [plc_rowQ k p c, Nat.div_eq_of_lt c]
      show (if (104 : Nat) = 116 then 1 else 0) * 2 ^ k + p = p
      rw [if_neg (by decide)]; omega
    · have h2 : p = (p - 2 ^ k) + 2 ^ k := by omega
      have h3 : p - 2 ^ k < 2 ^ k := by rw [Nat.pow_succ] at h; omega
      rw [h2, rowQ_add k k _ (Nat.le_refl _), plc_rowQ k _ h3, Nat.add_div_right _ (Nat.two_pow_pos k), Nat.div_eq_of_lt h3]
      show (if (116 : Nat) = 116 then 1 else 0) * 2 ^ k + _ = _
      rw [if_pos rfl]; omega
theorem row_at_ok (t : TRows T) (m p : Nat) (hm : m ≤ 12) (hp : p < 2 ^ m) : run T wh (n + 4) 40 [.int m, .int p] = .ok (.str (rowQ m p)) [.int m, .int p] := by
  rw [run_s t.row_at]
  have pm : 2 ^ m ≤ 4096 := Nat.pow_le_pow_right (n := 2) (by decide) hm
  have a1 := fun n => sure_within_ok (wh := wh) (n := n) t.toTPlain (m : Int) 0 12 (by omega) (by omega)
  have a2 := fun n => sure_within_ok (wh := wh) (n := n) t.toTPlain (p : Int) 0 4096 (by omega) (by omega)
  have a3 := fun n => size_of_ok (wh := wh) (n := n) t m (by omega)
  have a4 := fun n => row_in_ok (wh := wh) (n := n) t m p (by omega)
  have c : ¬ (((2 ^ m : Nat) : Int) ≤ (p : Int)) := by omega
  simp (config := { decide := true }) only [↓reduceIte, permute, quiet, still, isSem, tyIs, mtTy, D.list?, D.items, litsOnly, Sms.stores, Sm.stores, Hds.stores, Tg.slots, List.length_cons, List.length_nil, List.replicate_succ, List.replicate_zero, List.map_cons, List.map_nil, List.cons_append, List.nil_append, List.append_nil, List.getElem?_cons_zero, List.getElem?_cons_succ, List.getElem?_nil, List.set_cons_zero, List.set_cons_succ, List.set_nil, decide_true, decide_false, Bool.true_and, Bool.and_true, Bool.false_and, Bool.and_false, Bool.not_true, Bool.not_false, Bool.or_true, Bool.true_or, Bool.false_or, Bool.or_false, Option.map_some, Option.map_none, Option.bind_some, Option.bind_none, Option.isSome_some, Option.isSome_none, px_0, px_1, px_2, px_3, px_4, px_5, px_6, px_7, px_8, forGo_n, forGo_c, forK_n, forK_c, forK_b, forK_r, bt_nm, bt_tup, bt_own, bt_lst, wipeM, wipeE, restore, plainAt, List.all_cons, List.all_nil, Option.getD_some, Option.getD_none, d_row_at, a1, a2, a3, c, a4]
theorem row_at_exc (t : TRows T) (m p : Nat) (hm : m ≤ 12) (hp : 2 ^ m ≤ p) (hp2 : p ≤ 4096) : run T wh (n + 4) 40 [.int m, .int p] = .exc .cannot [] [.int m, .int p] := by
  rw [run_s t.row_at]
  have a1 := fun n => sure_within_ok (wh := wh) (n := n) t.toTPlain (m : Int) 0 12 (by omega) (by omega)
  have a2 := fun n => sure_within_ok (wh := wh) (n := n) t.toTPlain (p : Int) 0 4096 (by omega) (by omega)
  have a3 := fun n => size_of_ok (wh := wh) (n := n) t m (by omega)
  have c : (((2 ^ m : Nat) : Int) ≤ (p : Int)) := by omega
  simp (config := { decide := true }) only [↓reduceIte, permute, quiet, still, isSem, tyIs, mtTy, D.list?, D.items, litsOnly, Sms.stores, Sm.stores, Hds.stores, Tg.slots, List.length_cons, List.length_nil, List.replicate_succ, List.replicate_zero, List.map_cons, List.map_nil, List.cons_append, List.nil_append, List.append_nil, List.getElem?_cons_zero, List.getElem?_cons_succ, List.getElem?_nil, List.set_cons_zero, List.set_cons_succ, List.set_nil, decide_true, decide_false, Bool.true_and, Bool.and_true, Bool.false_and, Bool.and_false, Bool.not_true, Bool.not_false, Bool.or_true, Bool.true_or, Bool.false_or, Bool.or_false, Option.map_some, Option.map_none, Option.bind_some, Option.bind_none, Option.isSome_some, Option.isSome_none, px_0, px_1, px_2, px_3, px_4, px_5, px_6, px_7, px_8, forGo_n, forGo_c, forK_n, forK_c, forK_b, forK_r, bt_nm, bt_tup, bt_own, bt_lst, wipeM, wipeE, restore, plainAt, List.all_cons, List.all_nil, Option.getD_some, Option.getD_none, d_row_at, a1, a2, a3, c]
theorem row_by_rank_ok (t : TRows T) (m l : Nat) (i : Int) (hm : m ≤ 12) (hl : l ≤ 12) (h0 : 0 ≤ i) (hi : i < chsZ m l) : run T wh (n + 4) 42 [.int m, .int l, .int i] = .ok (.str (rkd m l i)) [.int m, .int l, .int i] := by
  rw [run_s t.row_by_rank]
  have cl : chsZ m l ≤ 4096 := by
    have := chsZ_le m l
    have h2 : (2 : Int) ^ m ≤ 4096 := by
      have : (2 : Nat) ^ m ≤ 2 ^ 12 := Nat.pow_le_pow_right (by decide) hm
      exact_mod_cast this
    omega
  have a1 := fun n => sure_within_ok (wh := wh) (n := n) t.toTPlain (m : Int) 0 12 (by omega) (by omega)
  have a2 := fun n => sure_within_ok (wh := wh) (n := n) t.toTPlain (l : Int) 0 12 (by omega) (by omega)
  have a2' := fun n => sure_within_ok (wh := wh) (n := n) t.toTPlain i 0 4096 (by omega) (by omega)
  have a3 := fun n => choices_ok (wh := wh) (n := n) t.toTPlain (m : Int) (l : Int) (by omega)
  have a4 := fun n => ranked_in_ok (wh := wh) (n := n) t m l i (by omega)
  have c : ¬ (chsZ m l ≤ i) := by omega
  simp (config := { decide := true }) only [↓reduceIte, permute, quiet, still, isSem, tyIs, mtTy, D.list?, D.items, litsOnly, Sms.stores, Sm.stores, Hds.stores, Tg.slots, List.length_cons, List.length_nil, List.replicate_succ, List.replicate_zero, List.map_cons, List.map_nil, List.cons_append, List.nil_append, List.append_nil, List.getElem?_cons_zero, List.getElem?_cons_succ, List.getElem?_nil, List.set_cons_zero, List.set_cons_succ, List.set_nil, decide_true, decide_false, Bool.true_and, Bool.and_true, Bool.false_and, Bool.and_false, Bool.not_true, Bool.not_false, Bool.or_true, Bool.true_or, Bool.false_or, Bool.or_false, Option.map_some, Option.map_none, Option.bind_some, Option.bind_none, Option.isSome_some, Option.isSome_none, px_0, px_1, px_2, px_3, px_4, px_5, px_6, px_7, px_8, forGo_n, forGo_c, forK_n, forK_c, forK_b, forK_r, bt_nm, bt_tup, bt_own, bt_lst, wipeM, wipeE, restore, plainAt, List.all_cons, List.all_nil, Option.getD_some, Option.getD_none, d_row_by_rank, a1, a2, a2', a3, c, a4]
theorem row_by_rank_exc (t : TRows T) (m l : Nat) (i : Int) (hm : m ≤ 12) (hl : l ≤ 12) (h0 : chsZ m l ≤ i) (hi : i ≤ 4096) : run T wh (n + 4) 42 [.int m, .int l, .int i] = .exc .cannot [] [.int m, .int l, .int i] := by
  rw [run_s t.row_by_rank]
  have cn := chsZ_nn m l
  have a1 := fun n => sure_within_ok (wh := wh) (n := n) t.toTPlain (m : Int) 0 12 (by omega) (by omega)
  have a2 := fun n => sure_within_ok (wh := wh) (n := n) t.toTPlain (l : Int) 0 12 (by omega) (by omega)
  have a2' := fun n => sure_within_ok (wh := wh) (n := n) t.toTPlain i 0 4096 (by omega) (by omega)
  have a3 := fun n => choices_ok (wh := wh) (n := n) t.toTPlain (m : Int) (l : Int) (by omega)
  simp (config := { decide := true }) only [↓reduceIte, permute, quiet, still, isSem, tyIs, mtTy, D.list?, D.items, litsOnly, Sms.stores, Sm.stores, Hds.stores, Tg.slots, List.length_cons, List.length_nil, List.replicate_succ, List.replicate_zero, List.map_cons, List.map_nil, List.cons_append, List.nil_append, List.append_nil, List.getElem?_cons_zero, List.getElem?_cons_succ, List.getElem?_nil, List.set_cons_zero, List.set_cons_succ, List.set_nil, decide_true, decide_false, Bool.true_and, Bool.and_true, Bool.false_and, Bool.and_false, Bool.not_true, Bool.not_false, Bool.or_true, Bool.true_or, Bool.false_or, Bool.or_false, Option.map_some, Option.map_none, Option.bind_some, Option.bind_none, Option.isSome_some, Option.isSome_none, px_0, px_1, px_2, px_3, px_4, px_5, px_6, px_7, px_8, forGo_n, forGo_c, forK_n, forK_c, forK_b, forK_r, bt_nm, bt_tup, bt_own, bt_lst, wipeM, wipeE, restore, plainAt, List.all_cons, List.all_nil, Option.getD_some, Option.getD_none, d_row_by_rank, a1, a2, a2', a3, h0]
end Py.Q
end
section
namespace Py.Q
variable {T : Nat → Option Fn} {wh : M Bool → M Fl → M Fl} {n : Nat}
/-! what the laws share: draws -/
def Tin (m : Nat) (d : D) : Prop := ∃ a b c : Int, d = .own [.int a, .int b, .int c] ∧ 0 ≤ a ∧ 0 ≤ b ∧ b < 4611686018427387904 ∧ 0 ≤ c ∧ c ≤ m
theorem ix3_0 {a b c : D} : ixSem (.own [a, b, c]) (.int 0) = some a := nr rfl
theorem ix3_1 {a b c : D} : ixSem (.own [a, b, c]) (.int 1) = some b := nr rfl
theorem ix3_2 {a b c : D} : ixSem (.own [a, b, c]) (.int 2) = some c := nr rfl
theorem st3_0 {a b c v : D} : setAtD 0 v [a, b, c] = some ([v, b, c], .non) := nr rfl
theorem st3_2 {a b c v : D} : setAtD 2 v [a, b, c] = some ([a, b, v], .non) := nr rfl
theorem ix1_0 {a : D} : ixSem (.own [a]) (.int 0) = some a := nr rfl
theorem st1_0 {a v : D} : setAtD 0 v [a] = some ([v], .non) := nr rfl
theorem bigd_of {j : Int} (h : j.natAbs < 2 ^ 64) : j.natAbs < BIGD := by
  have : (2 : Nat) ^ 64 ≤ BIGD := Nat.pow_le_pow_right (by decide) (by decide)
  omega
theorem fmod_rng {a b : Int} (h : 0 < b) : 0 ≤ a.fmod b ∧ a.fmod b < b := ⟨Int.fmod_nonneg_of_pos a h, Int.fmod_lt_of_pos a h⟩
theorem take_ok (t9 : T 9 = some d_law_take) {d : D} {m : Nat} {q : Int} (h : Tin m d) (hm : m < 1000000) (h0 : 0 < q) (h1 : q < 1000000) : ∃ r d', run T wh (n + 1) 9 [d, .int q] = .ok (.int r) [d', .int q] ∧ 0 ≤ r ∧ r < q ∧ Tin (m + 1) d' := by
  obtain ⟨a, b, c, rfl, ha, hb, hb2, hc, hcm⟩ := h
  have q0 : q ≠ 0 := by omega
  have q1 : q.natAbs < BIGD := bigd_of (by omega)
  by_cases hp : 0 < a
  · refine ⟨a.fmod q, .own [.int (a.fdiv q), .int b, .int c], ?_, (fmod_rng h0).1, (fmod_rng h0).2, _, _, _, rfl, ?_, hb, hb2, hc, by omega⟩
    · rw [run_s t9]
      simp (config := { decide := true }) only [↓reduceIte, permute, quiet, still, isSem, tyIs, mtTy, D.list?, D.items, litsOnly, Sms.stores, Sm.stores, Hds.stores, Tg.slots, List.length_cons, List.length_nil, List.replicate_succ, List.replicate_zero, List.map_cons, List.map_nil, List.cons_append, List.nil_append, List.append_nil, List.getElem?_cons_zero, List.getElem?_cons_succ, List.getElem?_nil, List.set_cons_zero, List.set_cons_succ, List.set_nil, decide_true, decide_false, Bool.true_and, Bool.and_true, Bool.false_and, Bool.and_false, Bool.not_true, Bool.not_false, Bool.or_true, Bool.true_or, Bool.false_or, Bool.or_false, Option.map_some, Option.map_none, Option.bind_some, Option.bind_none, Option.isSome_some, Option.isSome_none, px_0, px_1, px_2, px_3, px_4, px_5, px_6, px_7, px_8, forGo_n, forGo_c, forK_n, forK_c, forK_b, forK_r, bt_nm, bt_tup, bt_own, bt_lst, wipeM, wipeE, restore, plainAt, List.all_cons, List.all_nil, Option.getD_some, Option.getD_none, d_law_take, ix3_0, hp, b_mod q0, b_div q0 q1, st3_0]
    · rw [Int.fdiv_eq_ediv_of_nonneg _ (by omega)]
      exact Int.ediv_nonneg ha (by omega)
  · have n1 : (2147483647 : Int) ≠ 0 := by decide
    have n2 : (40009 : Int) ≠ 0 := by decide
    have n3 : (1000003 : Int) ≠ 0 := by decide
    have n4 : (2147483629 : Int) ≠ 0 := by decide
    have n5 : (2147483587 : Int) ≠ 0 := by decide
    have n6 : (64 : Int) ≠ 0 := by decide
    have k1 : (48271 : Int).natAbs < 2 ^ 64 := by omega
    have k2 : (39373 + (c + 1)).natAbs < 2 ^ 64 := by omega
    have k3 : (1000003 : Int).natAbs < BIGD := bigd_of (by omega)
    have k4 : (64 : Int).natAbs < BIGD := bigd_of (by omega)
    have k5 : ((((b + 48271 * (c + 1)) * (39373 + (c + 1))).fmod 2147483647).fmod 40009 + 7).natAbs < 2 ^ 64 := by
      have := fmod_rng (a := ((b + 48271 * (c + 1)) * (39373 + (c + 1))).fmod 2147483647) (b := 40009) (by decide)
      omega
    refine ⟨((((((((b + 48271 * (c + 1)) * (39373 + (c + 1))).fmod 2147483647) + (c + 1) + b.fdiv 1000003) * ((((b + 48271 * (c + 1)) * (39373 + (c + 1))).fmod 2147483647).fmod 40009 + 7)).fmod 2147483629 * 48271 + ((b + 48271 * (c + 1)) * (39373 + (c + 1))).fmod 2147483647).fmod 2147483587).fdiv 64).fmod q, .own [.int a, .int b, .int (c + 1)], ?_, (fmod_rng h0).1, (fmod_rng h0).2, _, _, _, rfl, ha, hb, hb2, by omega, by omega⟩
    rw [run_s t9]
    simp (config := { decide := true }) only [↓reduceIte, permute, quiet, still, isSem, tyIs, mtTy, D.list?, D.items, litsOnly, Sms.stores, Sm.stores, Hds.stores, Tg.slots, List.length_cons, List.length_nil, List.replicate_succ, List.replicate_zero, List.map_cons, List.map_nil, List.cons_append, List.nil_append, List.append_nil, List.getElem?_cons_zero, List.getElem?_cons_succ, List.getElem?_nil, List.set_cons_zero, List.set_cons_succ, List.set_nil, decide_true, decide_false, Bool.true_and, Bool.and_true, Bool.false_and, Bool.and_false, Bool.not_true, Bool.not_false, Bool.or_true, Bool.true_or, Bool.false_or, Bool.or_false, Option.map_some, Option.map_none, Option.bind_some, Option.bind_none, Option.isSome_some, Option.isSome_none, px_0, px_1, px_2, px_3, px_4, px_5, px_6, px_7, px_8, forGo_n, forGo_c, forK_n, forK_c, forK_b, forK_r, bt_nm, bt_tup, bt_own, bt_lst, wipeM, wipeE, restore, plainAt, List.all_cons, List.all_nil, Option.getD_some, Option.getD_none, d_law_take, ix3_0, ix3_1, ix3_2, hp, b_mod q0, st3_2, b_mod n1, b_mod n2, b_mod n4, b_mod n5, b_div n3 k3, b_div n6 k4, b_mulL k1, b_mulR k1, b_mulR k2, b_mulR k5]
theorem enum_get : ∀ (L : List D) (k j : Nat), (enumAux k L)[j]? = L[j]?.map fun d => D.tup [.int ((k + j : Nat) : Int), d]
  | [], k, j => rfl
  | d :: r, k, 0 => rfl
  | d :: r, k, j + 1 => by
    show (enumAux (k + 1) r)[j]? = _
    rw [enum_get r (k + 1) j, List.getElem?_cons_succ, show k + 1 + j = k + (j + 1) by omega]
theorem enum_len : ∀ (L : List D) (k : Nat), (enumAux k L).length = L.length
  | [], k => rfl
  | d :: r, k => by show (enumAux (k + 1) r).length + 1 = _; rw [enum_len r]; rfl
theorem sl_scr {ns : List Int} {lo hi : Option Int} : slSem (.scr ns) lo hi = some (.own (slice (ns.map .int) lo hi)) := nr rfl
theorem list_own {ds : List D} (h : D.plains ds = true) : bi1 .list (.own ds) = some (.own ds) := by
  show (if D.plains ds then some (D.own ds) else none) = _
  rw [if_pos h]
theorem items_own {ds : List D} : itemsOf (.own ds) = some (D.frzs ds) := nr rfl
theorem items_lst {ds : List D} : itemsOf (.lst ds) = some (D.frzs ds) := nr rfl
theorem items_tup {ds : List D} : itemsOf (.tup ds) = some (D.frzs ds) := nr rfl
theorem slice_mem {ns : List Int} {lo hi : Option Int} {d : D} (h : d ∈ slice (ns.map D.int) lo hi) : ∃ b, d = .int b := by
  unfold slice at h
  obtain ⟨b, _, rfl⟩ := List.mem_map.mp (List.mem_of_mem_drop (List.mem_of_mem_take h))
  exact ⟨b, rfl⟩
theorem slice_len {ns : List Int} {lo hi : Option Int} : (slice (ns.map D.int) lo hi).length ≤ ns.length := by
  unfold slice
  rw [List.length_take, List.length_drop, List.length_map]
  omega
theorem frzs_int : ∀ {L : List D}, (∀ d ∈ L, ∃ b, d = .int b) → D.frzs L = L ∧ D.plains L = true
  | [], _ => ⟨rfl, rfl⟩
  | d :: L, h => by
    obtain ⟨b, rfl⟩ := h d (by simp)
    obtain ⟨h1, h2⟩ := frzs_int (L := L) fun d hd => h d (by simp [hd])
    exact ⟨by show D.frz (.int b) :: D.frzs L = _; rw [h1]; rfl, by show (D.plain (.int b) && D.plains L) = true; rw [h2]; rfl⟩
theorem cells_ok (t10 : T 10 = some d_law_cells) {ns : List Int} (hl : ns.length ≤ 63) : ∃ c : Int, run T wh (n + 1) 10 [.scr ns, .int 1] = .ok (.own [.int c]) [.scr ns, .int 1] := by
  have hI : ∀ d ∈ slice (ns.map D.int) (some 1) (some 63), ∃ b, d = .int b := fun d hd => slice_mem hd
  have start : ∃ c : Int, ∀ s2 : M Fl, (((ev (run T wh n) (.or (.bi .list (.cons (.sl (.var 0) .none (.some (.var 1))) .nil)) (.list (.cons (.lit (.int 0)) .nil)))).o [some (.scr ns), some (.int 1), none, none, none, none]) = .ok (.own [.int c]) [some (.scr ns), some (.int 1), none, none, none, none]) := by
    cases ns with
    | nil =>
      refine ⟨0, fun _ => ?_⟩
      have e : slice ([] : List D) none (some 1) = [] := rfl
      have g : decide (([D.int 0] : List D).length ≤ LIM) = true := decide_eq_true (lim_of (by simp))
      simp (config := { decide := true }) only [↓reduceIte, permute, quiet, still, isSem, tyIs, mtTy, D.list?, D.items, litsOnly, Sms.stores, Sm.stores, Hds.stores, Tg.slots, List.length_cons, List.length_nil, List.replicate_succ, List.replicate_zero, List.map_cons, List.map_nil, List.cons_append, List.nil_append, List.append_nil, List.getElem?_cons_zero, List.getElem?_cons_succ, List.getElem?_nil, List.set_cons_zero, List.set_cons_succ, List.set_nil, decide_true, decide_false, Bool.true_and, Bool.and_true, Bool.false_and, Bool.and_false, Bool.not_true, Bool.not_false, Bool.or_true, Bool.true_or, Bool.false_or, Bool.or_false, Option.map_some, Option.map_none, Option.bind_some, Option.bind_none, Option.isSome_some, Option.isSome_none, px_0, px_1, px_2, px_3, px_4, px_5, px_6, px_7, px_8, forGo_n, forGo_c, forK_n, forK_c, forK_b, forK_r, bt_nm, bt_tup, bt_own, bt_lst, wipeM, wipeE, restore, plainAt, List.all_cons, List.all_nil, Option.getD_some, Option.getD_none, sl_scr, e, list_own pls_n, List.isEmpty_nil, g]
    | cons x r =>
      refine ⟨x, fun _ => ?_⟩
      have e : slice (D.int x :: r.map D.int) none (some 1) = [.int x] := by
        unfold slice cut
        simp
      have p : D.plains [D.int x] = true := rfl
      simp (config := { decide := true }) only [↓reduceIte, permute, quiet, still, isSem, tyIs, mtTy, D.list?, D.items, litsOnly, Sms.stores, Sm.stores, Hds.stores, Tg.slots, List.length_cons, List.length_nil, List.replicate_succ, List.replicate_zero, List.map_cons, List.map_nil, List.cons_append, List.nil_append, List.append_nil, List.getElem?_cons_zero, List.getElem?_cons_succ, List.getElem?_nil, List.set_cons_zero, List.set_cons_succ, List.set_nil, decide_true, decide_false, Bool.true_and, Bool.and_true, Bool.false_and, Bool.and_false, Bool.not_true, Bool.not_false, Bool.or_true, Bool.true_or, Bool.false_or, Bool.or_false, Option.map_some, Option.map_none, Option.bind_some, Option.bind_none, Option.isSome_some, Option.isSome_none, px_0, px_1, px_2, px_3, px_4, px_5, px_6, px_7, px_8, forGo_n, forGo_c, forK_n, forK_c, forK_b, forK_r, bt_nm, bt_tup, bt_own, bt_lst, wipeM, wipeE, restore, plainAt, List.all_cons, List.all_nil, Option.getD_some, Option.getD_none, sl_scr, e, list_own p, List.isEmpty_cons]
  obtain ⟨c0, hs⟩ := start
  have hs := hs M.bad
  obtain ⟨e', he, c, o3, o4, o5, rfl⟩ := for_inv (tg := .tup [3, 4]) (b := evSs (run T wh n) wh 2 (.cons (.set 5 (.bin .mod (.bi .int (.cons (.var 3) .nil)) (.var 1))) (.cons (.setIx 2 .nil (.var 5) (.bin .add (.idx (.var 2) (.var 5)) (.bin .mul (.var 4) (.bin .add (.var 3) (.lit (.int 2)))))) .nil)))
    (fun _ e => ∃ c o3 o4 o5, e = [some (.scr ns), some (.int 1), some (.own [.int c]), o3, o4, o5]) (enumAux 0 (slice (ns.map D.int) (some 1) (some 63))) 0 [some (.scr ns), some (.int 1), some (.own [.int c0]), none, none, none] ⟨c0, none, none, none, rfl⟩ fun j d e hj ⟨c, o3, o4, o5, he⟩ => by
      subst he
      rw [enum_get] at hj
      obtain ⟨x, hx, rfl⟩ := Option.map_eq_some_iff.mp hj
      obtain ⟨b, rfl⟩ := hI x (List.mem_of_getElem? hx)
      have jl : j < 63 := by
        have := (List.getElem?_eq_some_iff.mp hx).1
        have := slice_len (ns := ns) (lo := some 1) (hi := some 63)
        omega
      rw [Nat.zero_add]
      have n1 : (1 : Int) ≠ 0 := by decide
      have m1 : ((j : Nat) : Int).fmod 1 = 0 := Int.fmod_one _
      have k1 : (((j : Nat) : Int) + 2).natAbs < 2 ^ 64 := by omega
      refine ⟨[some (.scr ns), some (.int 1), some (.own [.int (c + b * ((j : Int) + 2))]), some (.int j), some (.int b), some (.int 0)], ?_, c + b * ((j : Int) + 2), _, _, _, rfl⟩
      simp (config := { decide := true }) only [↓reduceIte, permute, quiet, still, isSem, tyIs, mtTy, D.list?, D.items, litsOnly, Sms.stores, Sm.stores, Hds.stores, Tg.slots, List.length_cons, List.length_nil, List.replicate_succ, List.replicate_zero, List.map_cons, List.map_nil, List.cons_append, List.nil_append, List.append_nil, List.getElem?_cons_zero, List.getElem?_cons_succ, List.getElem?_nil, List.set_cons_zero, List.set_cons_succ, List.set_nil, decide_true, decide_false, Bool.true_and, Bool.and_true, Bool.false_and, Bool.and_false, Bool.not_true, Bool.not_false, Bool.or_true, Bool.true_or, Bool.false_or, Bool.or_false, Option.map_some, Option.map_none, Option.bind_some, Option.bind_none, Option.isSome_some, Option.isSome_none, px_0, px_1, px_2, px_3, px_4, px_5, px_6, px_7, px_8, forGo_n, forGo_c, forK_n, forK_c, forK_b, forK_r, bt_nm, bt_tup, bt_own, bt_lst, wipeM, wipeE, restore, plainAt, List.all_cons, List.all_nil, Option.getD_some, Option.getD_none, b_mod n1, m1, ix1_0, b_mulR k1, st1_0]
  obtain ⟨f1, f2⟩ := frzs_int hI
  refine ⟨c, ?_⟩
  rw [run_s t10]
  have np2 : ¬ (2 < 2) := by omega
  simp (config := { decide := true }) only [↓reduceIte, permute, quiet, still, isSem, tyIs, mtTy, D.list?, D.items, litsOnly, Sms.stores, Sm.stores, Hds.stores, Tg.slots, List.length_cons, List.length_nil, List.replicate_succ, List.replicate_zero, List.map_cons, List.map_nil, List.cons_append, List.nil_append, List.append_nil, List.getElem?_cons_zero, List.getElem?_cons_succ, List.getElem?_nil, List.set_cons_zero, List.set_cons_succ, List.set_nil, decide_true, decide_false, Bool.true_and, Bool.and_true, Bool.false_and, Bool.and_false, Bool.not_true, Bool.not_false, Bool.or_true, Bool.true_or, Bool.false_or, Bool.or_false, Option.map_some, Option.map_none, Option.bind_some, Option.bind_none, Option.isSome_some, Option.isSome_none, px_0, px_1, px_2, px_3, px_4, px_5, px_6, px_7, px_8, forGo_n, forGo_c, forK_n, forK_c, forK_b, forK_r, bt_nm, bt_tup, bt_own, bt_lst, wipeM, wipeE, restore, plainAt, List.all_cons, List.all_nil, Option.getD_some, Option.getD_none, d_law_cells, hs, sl_scr, items_own, f1, he]
theorem box_ok (t43 : T 43 = some d_law_box_v2) (c : Int) : ∃ d ds, run T wh (n + 1) 43 [.own [.int c], .int 0] = .ok d ds ∧ Tin 0 d := by
  have p18 : binSem .pow (.int 10) (.int 18) = some (.int 1000000000000000000) := by rfl
  have n1 : (2305843009213693951 : Int) ≠ 0 := by decide
  have k1 : ∀ b : Bool, (if b = true then (1 : Int) else 0).natAbs < 2 ^ 64 := fun b => by cases b <;> simp
  have k2 : (0 : Int).natAbs < 2 ^ 64 := by omega
  have g : ∀ a b c : D, decide (([a, b, c] : List D).length ≤ LIM) = true := fun a b c => decide_eq_true (lim_of (by simp))
  have z : (0 : Int) < ((0 + 1 : Nat) : Int) := by decide
  refine ⟨.own [.int ((if c < 0 then -c else c) * (if decide ((1000000000000000000 : Int) ≤ (if c < 0 then -c else c)) = true then 1 else 0)), .int (c.fmod 2305843009213693951 + 39373 * 0 + 26295001), .int 0], [.own [.int c], .int 0], ?_, _, _, _, rfl, ?_, ?_, ?_, Int.le_refl _, Int.le_refl _⟩
  · rw [run_s t43]
    simp (config := { decide := true }) only [↓reduceIte, permute, quiet, still, isSem, tyIs, mtTy, D.list?, D.items, litsOnly, Sms.stores, Sm.stores, Hds.stores, Tg.slots, List.length_cons, List.length_nil, List.replicate_succ, List.replicate_zero, List.map_cons, List.map_nil, List.cons_append, List.nil_append, List.append_nil, List.getElem?_cons_zero, List.getElem?_cons_succ, List.getElem?_nil, List.set_cons_zero, List.set_cons_succ, List.set_nil, decide_true, decide_false, Bool.true_and, Bool.and_true, Bool.false_and, Bool.and_false, Bool.not_true, Bool.not_false, Bool.or_true, Bool.true_or, Bool.false_or, Bool.or_false, Option.map_some, Option.map_none, Option.bind_some, Option.bind_none, Option.isSome_some, Option.isSome_none, px_0, px_1, px_2, px_3, px_4, px_5, px_6, px_7, px_8, forGo_n, forGo_c, forK_n, forK_c, forK_b, forK_r, bt_nm, bt_tup, bt_own, bt_lst, wipeM, wipeE, restore, plainAt, List.all_cons, List.all_nil, Option.getD_some, Option.getD_none, d_law_box_v2, z, ix1_0, p18, b_mulR (k1 _), b_mulR k2, b_mod n1, g]
  · apply Int.mul_nonneg
    · split <;> omega
    · split <;> omega
  · have := fmod_rng (a := c) (b := 2305843009213693951) (by decide)
    omega
  · have := fmod_rng (a := c) (b := 2305843009213693951) (by decide)
    omega
end Py.Q
end
section
namespace Py.Q
variable {T : Nat → Option Fn} {wh : M Bool → M Fl → M Fl} {n : Nat}
mutual
theorem pl_frz : ∀ d : D, d.frz.plain = true
  | .non => rfl
  | .bl _ => rfl
  | .int _ => rfl
  | .str _ => rfl
  | .tup ds => pls_frzs ds
  | .lst _ => rfl
  | .own _ => rfl
  | .fn _ => rfl
  | .scr _ => rfl
theorem pls_frzs : ∀ ds : List D, D.plains (D.frzs ds) = true
  | [] => rfl
  | d :: ds => by
    show (D.plain d.frz && D.plains (D.frzs ds)) = true
    rw [pl_frz d, pls_frzs ds]; rfl
end
mutual
theorem frz_pl : ∀ d : D, d.plain = true → d.frz = d
  | .non, _ => rfl
  | .bl _, _ => rfl
  | .int _, _ => rfl
  | .str _, _ => rfl
  | .tup ds, h => by show D.tup (D.frzs ds) = _; rw [frzs_pl ds h]
  | .lst _, _ => rfl
  | .fn _, _ => rfl
  | .scr _, _ => rfl
  | .own _, h => by cases h
theorem frzs_pl : ∀ ds : List D, D.plains ds = true → D.frzs ds = ds
  | [], _ => rfl
  | d :: ds, h => by
    have h : (D.plain d && D.plains ds) = true := h
    rw [Bool.and_eq_true] at h
    show d.frz :: D.frzs ds = _
    rw [frz_pl d h.1, frzs_pl ds h.2]
end
theorem frz_frz (d : D) : d.frz.frz = d.frz := frz_pl _ (pl_frz d)
theorem frzs_frzs (ds : List D) : D.frzs (D.frzs ds) = D.frzs ds := frzs_pl _ (pls_frzs ds)
theorem frzs_len : ∀ ds : List D, (D.frzs ds).length = ds.length
  | [] => rfl
  | d :: ds => by show (D.frzs ds).length + 1 = _; rw [frzs_len ds]; rfl
/-- alike, as the laws see it; k: how deep -/
inductive Same : Nat → D → D → Prop
  | non {k} : Same k .non .non
  | bl {k} (b : Bool) : Same k (.bl b) (.bl b)
  | int {k} (i : Int) : Same k (.int i) (.int i)
  | str {k} (s : List Nat) (h : (s.all fun c => decide (c < 1114112)) = true) : Same k (.str s) (.str s)
  | lst {k} {g d : D} {xs ys : List D} (hg : g.list? = some xs) (hd : d.list? = some ys) (hl : xs.length = ys.length) (hL : xs.length ≤ LIM) (h : ∀ (i : Nat) (x y : D), (D.frzs xs)[i]? = some x → (D.frzs ys)[i]? = some y → Same k x y) : Same (k + 1) g d
  | tup {k} {xs ys : List D} (hl : xs.length = ys.length) (hL : xs.length ≤ LIM) (h : ∀ (i : Nat) (x y : D), (D.frzs xs)[i]? = some x → (D.frzs ys)[i]? = some y → Same k x y) : Same (k + 1) (.tup xs) (.tup ys)
theorem same_eq_s {s : List Nat} (h : (s.all fun c => decide (c < 1114112)) = true) : eqSem (.str s) (.str s) = some true := by
  rw [eq_ss h h]; simp
theorem zip_get {xs ys : List D} {i : Nat} {d : D} (h : (zipD xs ys)[i]? = some d) : ∃ x y, xs[i]? = some x ∧ ys[i]? = some y ∧ d = .tup [x, y] := by
  unfold zipD at h
  rw [List.getElem?_zipWith] at h
  cases hx : xs[i]? with
  | none => rw [hx] at h; cases h
  | some x =>
    cases hy : ys[i]? with
    | none => rw [hx, hy] at h; cases h
    | some y => rw [hx, hy] at h; exact ⟨x, y, rfl, rfl, by simpa using h.symm⟩
theorem zip_len {xs ys : List D} (h : xs.length = ys.length) : (zipD xs ys).length = xs.length := by
  unfold zipD; rw [List.length_zipWith, h]; simp
theorem ty_l {ds : List D} : tyIs (.lst ds) .list = some true := nr rfl
theorem all_true {α : Type} {l : List α} : bi1 .all (.own (l.map fun _ => .bl true)) = some (.bl true) := by
  rw [all_o]; simp
theorem mem_pl : ∀ {L : List D} {x : D}, D.plains L = true → x ∈ L → x.plain = true
  | [], _, _, m => by cases m
  | a :: L, x, h, m => by
    have h : (D.plain a && D.plains L) = true := h
    rw [Bool.and_eq_true] at h
    rcases List.mem_cons.mp m with rfl | m
    · exact h.1
    · exact mem_pl h.2 m
theorem frz_n : D.frz .non = .non := nr rfl
theorem backArgs_np {d : D} {ds : List D} {k : Nat} {e : Env} (h : d.plain = false) : backArgs k (d :: ds) e = backO e[k]? (backArgs (k + 1) ds e) := by
  show (if d.plain then _ else match e[k]?, backArgs (k + 1) ds e with
    | some (some x), some r => some (x :: r)
    | _, _ => none) = _
  rw [h, if_neg Bool.false_ne_true]
  cases e[k]? with
  | none => rfl
  | some o => cases o <;> cases backArgs (k + 1) ds e <;> rfl
theorem same_comp {m : Nat} {xs ys : List D} {A B : Option D} (hl : xs.length = ys.length) (hL : xs.length ≤ LIM) (h : ∀ (i : Nat) (x y : D), (D.frzs xs)[i]? = some x → (D.frzs ys)[i]? = some y → run T wh m 13 [x, y] = .ok (.bl true) [x.frz, y.frz]) : compM (.tup [2, 3]) (evC (run T wh m) .none) (ev (run T wh m) (.call 13 (.cons (.var 2) (.cons (.var 3) .nil)))).o (zipD (D.frzs xs) (D.frzs ys)) [A, B, none, none] = .ok (.own ((zipD (D.frzs xs) (D.frzs ys)).map fun _ => .bl true)) [A, B, none, none] := by
  refine compM_map (fun e => ∃ o o', e = [A, B, o, o']) (fun d => match d with
    | .tup [x, y] => [A, B, some x, some y]
    | _ => []) _ ⟨none, none, rfl⟩ (fun d hd e' ⟨o, o', he⟩ => ?_) (fun d hd => ?_) (fun d hd => ?_) (by rw [zip_len (by rw [frzs_len, frzs_len, hl]), frzs_len]; exact hL) rfl fun e' ⟨o, o', he⟩ => by subst he; rfl
  · subst he
    obtain ⟨i, hi⟩ := List.mem_iff_getElem?.mp hd
    obtain ⟨x, y, _, _, rfl⟩ := zip_get hi
    rfl
  · obtain ⟨i, hi⟩ := List.mem_iff_getElem?.mp hd
    obtain ⟨x, y, _, _, rfl⟩ := zip_get hi
    exact ⟨_, _, rfl⟩
  · obtain ⟨i, hi⟩ := List.mem_iff_getElem?.mp hd
    obtain ⟨x, y, hx, hy, rfl⟩ := zip_get hi
    have p1 : x.plain = true := mem_pl (pls_frzs xs) (List.mem_of_getElem? hx)
    have p2 : y.plain = true := mem_pl (pls_frzs ys) (List.mem_of_getElem? hy)
    have r := h i x y hx hy
    simp (config := { decide := true }) only [↓reduceIte, permute, quiet, still, isSem, tyIs, mtTy, D.list?, D.items, litsOnly, Sms.stores, Sm.stores, Hds.stores, Tg.slots, List.length_cons, List.length_nil, List.replicate_succ, List.replicate_zero, List.map_cons, List.map_nil, List.cons_append, List.nil_append, List.append_nil, List.getElem?_cons_zero, List.getElem?_cons_succ, List.getElem?_nil, List.set_cons_zero, List.set_cons_succ, List.set_nil, decide_true, decide_false, Bool.true_and, Bool.and_true, Bool.false_and, Bool.and_false, Bool.not_true, Bool.not_false, Bool.or_true, Bool.true_or, Bool.false_or, Bool.or_false, Option.map_some, Option.map_none, Option.bind_some, Option.bind_none, Option.isSome_some, Option.isSome_none, px_0, px_1, px_2, px_3, px_4, px_5, px_6, px_7, px_8, forGo_n, forGo_c, forK_n, forK_c, forK_b, forK_r, bt_nm, bt_tup, bt_own, bt_lst, wipeM, wipeE, restore, plainAt, List.all_cons, List.all_nil, Option.getD_some, Option.getD_none, p1, p2, r]
theorem same_ok (t13 : T 13 = some d_law_same) : ∀ {k : Nat} {g d : D}, Same k g d → ∀ n, run T wh (n + k + 1) 13 [g, d] = .ok (.bl true) [g.frz, d.frz] := by
  intro k g d h
  induction h with
  | non => intro n; rw [run_s t13]; simp (config := { decide := true }) only [↓reduceIte, permute, quiet, still, isSem, tyIs, mtTy, D.list?, D.items, litsOnly, Sms.stores, Sm.stores, Hds.stores, Tg.slots, List.length_cons, List.length_nil, List.replicate_succ, List.replicate_zero, List.map_cons, List.map_nil, List.cons_append, List.nil_append, List.append_nil, List.getElem?_cons_zero, List.getElem?_cons_succ, List.getElem?_nil, List.set_cons_zero, List.set_cons_succ, List.set_nil, decide_true, decide_false, Bool.true_and, Bool.and_true, Bool.false_and, Bool.and_false, Bool.not_true, Bool.not_false, Bool.or_true, Bool.true_or, Bool.false_or, Bool.or_false, Option.map_some, Option.map_none, Option.bind_some, Option.bind_none, Option.isSome_some, Option.isSome_none, px_0, px_1, px_2, px_3, px_4, px_5, px_6, px_7, px_8, forGo_n, forGo_c, forK_n, forK_c, forK_b, forK_r, bt_nm, bt_tup, bt_own, bt_lst, wipeM, wipeE, restore, plainAt, List.all_cons, List.all_nil, Option.getD_some, Option.getD_none, d_law_same, frz_n]
  | bl b =>
    intro n; rw [run_s t13]
    have : (b == b) = true := beq_self_eq_true b
    simp (config := { decide := true }) only [↓reduceIte, permute, quiet, still, isSem, tyIs, mtTy, D.list?, D.items, litsOnly, Sms.stores, Sm.stores, Hds.stores, Tg.slots, List.length_cons, List.length_nil, List.replicate_succ, List.replicate_zero, List.map_cons, List.map_nil, List.cons_append, List.nil_append, List.append_nil, List.getElem?_cons_zero, List.getElem?_cons_succ, List.getElem?_nil, List.set_cons_zero, List.set_cons_succ, List.set_nil, decide_true, decide_false, Bool.true_and, Bool.and_true, Bool.false_and, Bool.and_false, Bool.not_true, Bool.not_false, Bool.or_true, Bool.true_or, Bool.false_or, Bool.or_false, Option.map_some, Option.map_none, Option.bind_some, Option.bind_none, Option.isSome_some, Option.isSome_none, px_0, px_1, px_2, px_3, px_4, px_5, px_6, px_7, px_8, forGo_n, forGo_c, forK_n, forK_c, forK_b, forK_r, bt_nm, bt_tup, bt_own, bt_lst, wipeM, wipeE, restore, plainAt, List.all_cons, List.all_nil, Option.getD_some, Option.getD_none, d_law_same, this]
  | int i =>
    intro n; rw [run_s t13]
    have : (i == i) = true := beq_self_eq_true i
    simp (config := { decide := true }) only [↓reduceIte, permute, quiet, still, isSem, tyIs, mtTy, D.list?, D.items, litsOnly, Sms.stores, Sm.stores, Hds.stores, Tg.slots, List.length_cons, List.length_nil, List.replicate_succ, List.replicate_zero, List.map_cons, List.map_nil, List.cons_append, List.nil_append, List.append_nil, List.getElem?_cons_zero, List.getElem?_cons_succ, List.getElem?_nil, List.set_cons_zero, List.set_cons_succ, List.set_nil, decide_true, decide_false, Bool.true_and, Bool.and_true, Bool.false_and, Bool.and_false, Bool.not_true, Bool.not_false, Bool.or_true, Bool.true_or, Bool.false_or, Bool.or_false, Option.map_some, Option.map_none, Option.bind_some, Option.bind_none, Option.isSome_some, Option.isSome_none, px_0, px_1, px_2, px_3, px_4, px_5, px_6, px_7, px_8, forGo_n, forGo_c, forK_n, forK_c, forK_b, forK_r, bt_nm, bt_tup, bt_own, bt_lst, wipeM, wipeE, restore, plainAt, List.all_cons, List.all_nil, Option.getD_some, Option.getD_none, d_law_same, this]
  | str s h =>
    intro n; rw [run_s t13]
    simp (config := { decide := true }) only [↓reduceIte, permute, quiet, still, isSem, tyIs, mtTy, D.list?, D.items, litsOnly, Sms.stores, Sm.stores, Hds.stores, Tg.slots, List.length_cons, List.length_nil, List.replicate_succ, List.replicate_zero, List.map_cons, List.map_nil, List.cons_append, List.nil_append, List.append_nil, List.getElem?_cons_zero, List.getElem?_cons_succ, List.getElem?_nil, List.set_cons_zero, List.set_cons_succ, List.set_nil, decide_true, decide_false, Bool.true_and, Bool.and_true, Bool.false_and, Bool.and_false, Bool.not_true, Bool.not_false, Bool.or_true, Bool.true_or, Bool.false_or, Bool.or_false, Option.map_some, Option.map_none, Option.bind_some, Option.bind_none, Option.isSome_some, Option.isSome_none, px_0, px_1, px_2, px_3, px_4, px_5, px_6, px_7, px_8, forGo_n, forGo_c, forK_n, forK_c, forK_b, forK_r, bt_nm, bt_tup, bt_own, bt_lst, wipeM, wipeE, restore, plainAt, List.all_cons, List.all_nil, Option.getD_some, Option.getD_none, d_law_same, same_eq_s h]
  | @lst k g d xs ys hg hd hl hL h ih =>
    intro n
    rw [run_s t13]
    have hc : ∀ A B, _ := fun A B => same_comp (T := T) (wh := wh) (m := n + (k + 1)) (A := A) (B := B) hl hL fun i x y hx hy => ih i x y hx hy n
    have le : ((xs.length : Int) == (ys.length : Int)) = true := by rw [hl]; exact beq_self_eq_true _
    cases g <;> first | (cases hg; done) | skip
    all_goals cases d <;> first | (cases hd; done) | skip
    all_goals (cases hg; cases hd)
    all_goals simp (config := { decide := true }) only [↓reduceIte, permute, quiet, still, isSem, tyIs, mtTy, D.list?, D.items, litsOnly, Sms.stores, Sm.stores, Hds.stores, Tg.slots, List.length_cons, List.length_nil, List.replicate_succ, List.replicate_zero, List.map_cons, List.map_nil, List.cons_append, List.nil_append, List.append_nil, List.getElem?_cons_zero, List.getElem?_cons_succ, List.getElem?_nil, List.set_cons_zero, List.set_cons_succ, List.set_nil, decide_true, decide_false, Bool.true_and, Bool.and_true, Bool.false_and, Bool.and_false, Bool.not_true, Bool.not_false, Bool.or_true, Bool.true_or, Bool.false_or, Bool.or_false, Option.map_some, Option.map_none, Option.bind_some, Option.bind_none, Option.isSome_some, Option.isSome_none, px_0, px_1, px_2, px_3, px_4, px_5, px_6, px_7, px_8, forGo_n, forGo_c, forK_n, forK_c, forK_b, forK_r, bt_nm, bt_tup, bt_own, bt_lst, wipeM, wipeE, restore, plainAt, List.all_cons, List.all_nil, Option.getD_some, Option.getD_none, d_law_same, le, items_lst, frzs_frzs, hc, all_true]
  | @tup k xs ys hl hL h ih =>
    intro n
    rw [run_s t13]
    have hc : ∀ A B, _ := fun A B => same_comp (T := T) (wh := wh) (m := n + (k + 1)) (A := A) (B := B) hl hL fun i x y hx hy => ih i x y hx hy n
    have le : ((xs.length : Int) == (ys.length : Int)) = true := by rw [hl]; exact beq_self_eq_true _
    by_cases p1 : D.plains xs = true
    · have f1 := frzs_pl _ p1
      by_cases p2 : D.plains ys = true
      · have f2 := frzs_pl _ p2
        simp only [f1, f2] at hc
        simp (config := { decide := true }) only [↓reduceIte, permute, quiet, still, isSem, tyIs, mtTy, D.list?, D.items, litsOnly, Sms.stores, Sm.stores, Hds.stores, Tg.slots, List.length_cons, List.length_nil, List.replicate_succ, List.replicate_zero, List.map_cons, List.map_nil, List.cons_append, List.nil_append, List.append_nil, List.getElem?_cons_zero, List.getElem?_cons_succ, List.getElem?_nil, List.set_cons_zero, List.set_cons_succ, List.set_nil, decide_true, decide_false, Bool.true_and, Bool.and_true, Bool.false_and, Bool.and_false, Bool.not_true, Bool.not_false, Bool.or_true, Bool.true_or, Bool.false_or, Bool.or_false, Option.map_some, Option.map_none, Option.bind_some, Option.bind_none, Option.isSome_some, Option.isSome_none, px_0, px_1, px_2, px_3, px_4, px_5, px_6, px_7, px_8, forGo_n, forGo_c, forK_n, forK_c, forK_b, forK_r, bt_nm, bt_tup, bt_own, bt_lst, wipeM, wipeE, restore, plainAt, List.all_cons, List.all_nil, Option.getD_some, Option.getD_none, d_law_same, le, items_tup, p1, p2, f1, f2, hc, all_true]
      · have p2 : D.plains ys = false := by simpa using p2
        have q2 : (D.tup ys).plain = false := p2
        simp only [f1] at hc
        simp (config := { decide := true }) only [↓reduceIte, permute, quiet, still, isSem, tyIs, mtTy, D.list?, D.items, litsOnly, Sms.stores, Sm.stores, Hds.stores, Tg.slots, List.length_cons, List.length_nil, List.replicate_succ, List.replicate_zero, List.map_cons, List.map_nil, List.cons_append, List.nil_append, List.append_nil, List.getElem?_cons_zero, List.getElem?_cons_succ, List.getElem?_nil, List.set_cons_zero, List.set_cons_succ, List.set_nil, decide_true, decide_false, Bool.true_and, Bool.and_true, Bool.false_and, Bool.and_false, Bool.not_true, Bool.not_false, Bool.or_true, Bool.true_or, Bool.false_or, Bool.or_false, Option.map_some, Option.map_none, Option.bind_some, Option.bind_none, Option.isSome_some, Option.isSome_none, px_0, px_1, px_2, px_3, px_4, px_5, px_6, px_7, px_8, forGo_n, forGo_c, forK_n, forK_c, forK_b, forK_r, bt_nm, bt_tup, bt_own, bt_lst, wipeM, wipeE, restore, plainAt, List.all_cons, List.all_nil, Option.getD_some, Option.getD_none, d_law_same, le, items_tup, p1, p2, f1, frzs_frzs, hc, all_true, backArgs_np q2]
    · have p1 : D.plains xs = false := by simpa using p1
      have q1 : (D.tup xs).plain = false := p1
      by_cases p2 : D.plains ys = true
      · have f2 := frzs_pl _ p2
        simp only [f2] at hc
        simp (config := { decide := true }) only [↓reduceIte, permute, quiet, still, isSem, tyIs, mtTy, D.list?, D.items, litsOnly, Sms.stores, Sm.stores, Hds.stores, Tg.slots, List.length_cons, List.length_nil, List.replicate_succ, List.replicate_zero, List.map_cons, List.map_nil, List.cons_append, List.nil_append, List.append_nil, List.getElem?_cons_zero, List.getElem?_cons_succ, List.getElem?_nil, List.set_cons_zero, List.set_cons_succ, List.set_nil, decide_true, decide_false, Bool.true_and, Bool.and_true, Bool.false_and, Bool.and_false, Bool.not_true, Bool.not_false, Bool.or_true, Bool.true_or, Bool.false_or, Bool.or_false, Option.map_some, Option.map_none, Option.bind_some, Option.bind_none, Option.isSome_some, Option.isSome_none, px_0, px_1, px_2, px_3, px_4, px_5, px_6, px_7, px_8, forGo_n, forGo_c, forK_n, forK_c, forK_b, forK_r, bt_nm, bt_tup, bt_own, bt_lst, wipeM, wipeE, restore, plainAt, List.all_cons, List.all_nil, Option.getD_some, Option.getD_none, d_law_same, le, items_tup, p1, p2, f2, frzs_frzs, hc, all_true, backArgs_np q1]
      · have p2 : D.plains ys = false := by simpa using p2
        have q2 : (D.tup ys).plain = false := p2
        simp (config := { decide := true }) only [↓reduceIte, permute, quiet, still, isSem, tyIs, mtTy, D.list?, D.items, litsOnly, Sms.stores, Sm.stores, Hds.stores, Tg.slots, List.length_cons, List.length_nil, List.replicate_succ, List.replicate_zero, List.map_cons, List.map_nil, List.cons_append, List.nil_append, List.append_nil, List.getElem?_cons_zero, List.getElem?_cons_succ, List.getElem?_nil, List.set_cons_zero, List.set_cons_succ, List.set_nil, decide_true, decide_false, Bool.true_and, Bool.and_true, Bool.false_and, Bool.and_false, Bool.not_true, Bool.not_false, Bool.or_true, Bool.true_or, Bool.false_or, Bool.or_false, Option.map_some, Option.map_none, Option.bind_some, Option.bind_none, Option.isSome_some, Option.isSome_none, px_0, px_1, px_2, px_3, px_4, px_5, px_6, px_7, px_8, forGo_n, forGo_c, forK_n, forK_c, forK_b, forK_r, bt_nm, bt_tup, bt_own, bt_lst, wipeM, wipeE, restore, plainAt, List.all_cons, List.all_nil, Option.getD_some, Option.getD_none, d_law_same, le, items_tup, p1, p2, frzs_frzs, hc, all_true, backArgs_np q1, backArgs_np q2]
/-! lists put together -/
theorem flat_ok (t44 : T 44 = some d_law_flat) {ls : List (List D)} (hl : ls.flatten.length ≤ LIM) (hp : ∀ l ∈ ls, D.plains l = true) (g : D) (hg : g = .own (ls.map .own) ∨ g = .own (ls.map .lst)) : ∃ ds, run T wh (n + 1) 44 [g] = .ok (.own ls.flatten) ds := by
  have fz : ∀ L : List (List D), (∀ l ∈ L, D.plains l = true) → D.frzs (L.map D.own) = L.map D.lst := by
    intro L
    induction L with
    | nil => exact fun _ => rfl
    | cons l L ih =>
      intro h
      show D.frz (.own l) :: D.frzs (L.map D.own) = _
      rw [ih fun x hx => h x (by simp [hx])]
      show D.lst (D.frzs l) :: _ = _
      rw [frzs_pl l (h l (by simp))]; rfl
  have fz2 : ∀ L : List (List D), D.frzs (L.map D.lst) = L.map D.lst := by
    intro L
    induction L with
    | nil => rfl
    | cons l L ih => show D.lst l :: D.frzs (L.map D.lst) = _; rw [ih]; rfl
  have key : ∀ (L : List (List D)) (A : Option D) (acc : List D) (o : Option D), acc.length + L.flatten.length ≤ LIM → ∃ o', forGo (.nm 2) (evSs (run T wh n) wh 1 (.cons (.extend 1 .nil (.var 2)) .nil)) (L.map D.lst) [A, some (.own acc), o] = .ok .nx [A, some (.own (acc ++ L.flatten)), o'] := by
    intro L
    induction L with
    | nil => exact fun A acc o _ => ⟨o, by show R.ok Fl.nx _ = _; simp⟩
    | cons l L ih =>
      intro A acc o h
      rw [List.flatten_cons, List.length_append] at h
      obtain ⟨o', h2⟩ := ih A (acc ++ l) (some (.lst l)) (by rw [List.length_append]; omega)
      refine ⟨o', ?_⟩
      have c : acc.length + l.length ≤ LIM := by omega
      simp (config := { decide := true }) only [↓reduceIte, permute, quiet, still, isSem, tyIs, mtTy, D.list?, D.items, litsOnly, Sms.stores, Sm.stores, Hds.stores, Tg.slots, List.length_cons, List.length_nil, List.replicate_succ, List.replicate_zero, List.map_cons, List.map_nil, List.cons_append, List.nil_append, List.append_nil, List.getElem?_cons_zero, List.getElem?_cons_succ, List.getElem?_nil, List.set_cons_zero, List.set_cons_succ, List.set_nil, decide_true, decide_false, Bool.true_and, Bool.and_true, Bool.false_and, Bool.and_false, Bool.not_true, Bool.not_false, Bool.or_true, Bool.true_or, Bool.false_or, Bool.or_false, Option.map_some, Option.map_none, Option.bind_some, Option.bind_none, Option.isSome_some, Option.isSome_none, px_0, px_1, px_2, px_3, px_4, px_5, px_6, px_7, px_8, forGo_n, forGo_c, forK_n, forK_c, forK_b, forK_r, bt_nm, bt_tup, bt_own, bt_lst, wipeM, wipeE, restore, plainAt, List.all_cons, List.all_nil, Option.getD_some, Option.getD_none, c, h2]
      rw [List.flatten_cons, List.append_assoc]
  have g0 : decide (([] : List D).length ≤ LIM) = true := decide_eq_true (lim_of (by simp))
  have hit : itemsOf (.lst (ls.map D.lst)) = some (ls.map D.lst) := by rw [items_lst, fz2]
  rcases hg with rfl | rfl
  · obtain ⟨o', hk⟩ := key ls (some (.lst (ls.map D.lst))) [] none (by simpa using hl)
    rw [List.nil_append] at hk
    refine ⟨[.lst (ls.map D.lst)], ?_⟩
    have np : ¬ (1 < 1) := by omega
    rw [run_s t44]
    simp (config := { decide := true }) only [↓reduceIte, permute, quiet, still, isSem, tyIs, mtTy, D.list?, D.items, litsOnly, Sms.stores, Sm.stores, Hds.stores, Tg.slots, List.length_cons, List.length_nil, List.replicate_succ, List.replicate_zero, List.map_cons, List.map_nil, List.cons_append, List.nil_append, List.append_nil, List.getElem?_cons_zero, List.getElem?_cons_succ, List.getElem?_nil, List.set_cons_zero, List.set_cons_succ, List.set_nil, decide_true, decide_false, Bool.true_and, Bool.and_true, Bool.false_and, Bool.and_false, Bool.not_true, Bool.not_false, Bool.or_true, Bool.true_or, Bool.false_or, Bool.or_false, Option.map_some, Option.map_none, Option.bind_some, Option.bind_none, Option.isSome_some, Option.isSome_none, px_0, px_1, px_2, px_3, px_4, px_5, px_6, px_7, px_8, forGo_n, forGo_c, forK_n, forK_c, forK_b, forK_r, bt_nm, bt_tup, bt_own, bt_lst, wipeM, wipeE, restore, plainAt, List.all_cons, List.all_nil, Option.getD_some, Option.getD_none, d_law_flat, g0, fz ls hp, hit, hk]
  · obtain ⟨o', hk⟩ := key ls (some (.lst (ls.map D.lst))) [] none (by simpa using hl)
    rw [List.nil_append] at hk
    refine ⟨[.lst (ls.map D.lst)], ?_⟩
    rw [run_s t44]
    simp (config := { decide := true }) only [↓reduceIte, permute, quiet, still, isSem, tyIs, mtTy, D.list?, D.items, litsOnly, Sms.stores, Sm.stores, Hds.stores, Tg.slots, List.length_cons, List.length_nil, List.replicate_succ, List.replicate_zero, List.map_cons, List.map_nil, List.cons_append, List.nil_append, List.append_nil, List.getElem?_cons_zero, List.getElem?_cons_succ, List.getElem?_nil, List.set_cons_zero, List.set_cons_succ, List.set_nil, decide_true, decide_false, Bool.true_and, Bool.and_true, Bool.false_and, Bool.and_false, Bool.not_true, Bool.not_false, Bool.or_true, Bool.true_or, Bool.false_or, Bool.or_false, Option.map_some, Option.map_none, Option.bind_some, Option.bind_none, Option.isSome_some, Option.isSome_none, px_0, px_1, px_2, px_3, px_4, px_5, px_6, px_7, px_8, forGo_n, forGo_c, forK_n, forK_c, forK_b, forK_r, bt_nm, bt_tup, bt_own, bt_lst, wipeM, wipeE, restore, plainAt, List.all_cons, List.all_nil, Option.getD_some, Option.getD_none, d_law_flat, g0, fz2 ls, hit, hk]
end Py.Q
end
section
namespace Py.Q
variable {T : Nat → Option Fn} {wh : M Bool → M Fl → M Fl} {n : Nat}
/-! Pascal's rows -/
theorem chs_0k (k : Nat) : ∀ j, k < j → chs k j = 0 := by
  induction k with
  | zero => intro j h; cases j with
    | zero => omega
    | succ j => rfl
  | succ k ih => intro j h; cases j with
    | zero => omega
    | succ j => show chs k j + chs k (j + 1) = 0; rw [ih j (by omega), ih (j + 1) (by omega)]
def pas (k : Nat) : List D := (List.range (k + 1)).map fun j => .int (chs k j)
theorem pas_0 (k : Nat) : D.int 0 :: pas k = (List.range (k + 2)).map fun i => .int (if i = 0 then 0 else chs k (i - 1)) := by
  rw [List.range_succ_eq_map, List.map_cons, List.map_map]
  rfl
theorem pas_1 (k : Nat) : pas k ++ [D.int 0] = (List.range (k + 2)).map fun i => .int (chs k i) := by
  rw [List.range_succ, List.map_append]
  show _ = pas k ++ [D.int (chs k (k + 1) : Nat)]
  rw [chs_0k k (k + 1) (by omega)]
  rfl
def addT : D → D
  | .tup [.int x, .int y] => .int (x + y)
  | _ => .non
theorem zip_maps {α : Type} (f g : α → D) : ∀ l : List α, zipD (l.map f) (l.map g) = l.map fun i => .tup [f i, g i]
  | [] => rfl
  | a :: l => by show D.tup [f a, g a] :: zipD (l.map f) (l.map g) = _; rw [zip_maps f g l]; rfl
theorem pas_zip (k : Nat) : (zipD (D.int 0 :: pas k) (pas k ++ [D.int 0])).map addT = pas (k + 1) := by
  rw [pas_0, pas_1, zip_maps, List.map_map]
  unfold pas
  refine List.map_congr_left fun i _ => ?_
  show D.int ((if i = 0 then 0 else (chs k (i - 1) : Int)) + (chs k i : Int)) = .int (chs (k + 1) i)
  congr 1
  cases i with
  | zero => rw [if_pos rfl, chs_0, chs_0]; rfl
  | succ i =>
    rw [if_neg (by omega), Nat.add_sub_cancel]
    show _ = ((chs k i + chs k (i + 1) : Nat) : Int)
    omega
theorem pas_int (k : Nat) : ∀ d ∈ pas k, ∃ b, d = .int b := fun d h => by
  obtain ⟨j, _, rfl⟩ := List.mem_map.mp h
  exact ⟨_, rfl⟩
theorem pas_len (k : Nat) : (pas k).length = k + 1 := by unfold pas; rw [List.length_map, List.length_range]
theorem ix_o {ds : List D} {j : Nat} {d : D} (h : ds[j]? = some d) : ixSem (.own ds) (.int (j : Nat)) = some d := by
  have hl := (List.getElem?_eq_some_iff.mp h).1
  simp only [ixSem, D.items, Option.bind_some]
  have : ixN ds.length ((j : Nat) : Int) = some j := by
    unfold ixN
    rw [if_pos (by omega), if_pos (by omega), Int.toNat_natCast]
  rw [this, Option.bind_some, h]
theorem ix_l {ds : List D} {j : Nat} {d : D} (h : ds[j]? = some d) : ixSem (.lst ds) (.int (j : Nat)) = some d := ix_o (ds := ds) h
theorem choose_ok (t47 : T 47 = some d_law_choose) (m l : Nat) (hm : m ≤ 20) : run T wh (n + 1) 47 [.int m, .int l] = .ok (.int (chsZ m l)) [.int m, .int l] := by
  obtain ⟨e', he, o3, rfl⟩ := for_range (tg := .nm 3) (b := evSs (run T wh n) wh 2 (.cons (.set 2 (.comp (.bin .add (.var 4) (.var 5)) (.tup [4, 5]) (.zip2 (.bin .add (.list (.cons (.lit (.int 0)) .nil)) (.var 2)) (.bin .add (.var 2) (.list (.cons (.lit (.int 0)) .nil)))) .none)) .nil)) (lo := 0) (n := m) (e := [some (.int m), some (.int l), some (.own (pas 0)), none, none, none])
    (fun k e => ∃ o3, e = [some (.int m), some (.int l), some (.own (pas k)), o3, none, none]) ⟨none, rfl⟩ fun j e hj ⟨o3, he⟩ => by
      subst he
      obtain ⟨f1, f2⟩ := frzs_int (pas_int j)
      have f3 := frzs_int (L := D.int 0 :: pas j) fun d hd => by
        rcases List.mem_cons.mp hd with rfl | hd
        · exact ⟨0, rfl⟩
        · exact pas_int j d hd
      have f4 := frzs_int (L := pas j ++ [D.int 0]) fun d hd => by
        rcases List.mem_append.mp hd with hd | hd
        · exact pas_int j d hd
        · exact ⟨0, by simpa using hd⟩
      have g0 : decide (([D.int 0] : List D).length ≤ LIM) = true := decide_eq_true (lim_of (by simp))
      have l1 : ([D.int 0] : List D).length + (pas j).length ≤ LIM := lim_of (by rw [pas_len]; simp; omega)
      have l2 : (pas j).length + ([D.int 0] : List D).length ≤ LIM := lim_of (by rw [pas_len]; simp; omega)
      have hc : compM (.tup [4, 5]) (evC (run T wh n) .none) (ev (run T wh n) (.bin .add (.var 4) (.var 5))).o (zipD (D.int 0 :: pas j) (pas j ++ [D.int 0])) [some (.int m), some (.int l), some (.lst (pas j)), some (.int (0 + (j : Int))), none, none] = .ok (.own ((zipD (D.int 0 :: pas j) (pas j ++ [D.int 0])).map addT)) [some (.int m), some (.int l), some (.lst (pas j)), some (.int (0 + (j : Int))), none, none] := by
        refine compM_map (fun e => ∃ o o', e = [some (.int m), some (.int l), some (.lst (pas j)), some (.int (0 + (j : Int))), o, o']) (fun d => match d with
          | .tup [x, y] => [some (.int m), some (.int l), some (.lst (pas j)), some (.int (0 + (j : Int))), some x, some y]
          | _ => []) _ ⟨none, none, rfl⟩ (fun d hd e' ⟨o, o', he⟩ => ?_) (fun d hd => ?_) (fun d hd => ?_) (by rw [zip_len (by simp), List.length_cons, pas_len]; exact lim_of (by omega)) rfl fun e' ⟨o, o', he⟩ => by subst he; rfl
        · subst he
          obtain ⟨i, hi⟩ := List.mem_iff_getElem?.mp hd
          obtain ⟨x, y, _, _, rfl⟩ := zip_get hi
          rfl
        · obtain ⟨i, hi⟩ := List.mem_iff_getElem?.mp hd
          obtain ⟨x, y, _, _, rfl⟩ := zip_get hi
          exact ⟨_, _, rfl⟩
        · obtain ⟨i, hi⟩ := List.mem_iff_getElem?.mp hd
          obtain ⟨x, y, hx, hy, rfl⟩ := zip_get hi
          obtain ⟨bx, rfl⟩ : ∃ b, x = .int b := by
            rcases List.mem_cons.mp (List.mem_of_getElem? hx) with rfl | h
            · exact ⟨0, rfl⟩
            · exact pas_int j x h
          obtain ⟨by', rfl⟩ : ∃ b, y = .int b := by
            rcases List.mem_append.mp (List.mem_of_getElem? hy) with h | h
            · exact pas_int j y h
            · exact ⟨0, by simpa using h⟩
          simp (config := { decide := true }) only [↓reduceIte, permute, quiet, still, isSem, tyIs, mtTy, D.list?, D.items, litsOnly, Sms.stores, Sm.stores, Hds.stores, Tg.slots, List.length_cons, List.length_nil, List.replicate_succ, List.replicate_zero, List.map_cons, List.map_nil, List.cons_append, List.nil_append, List.append_nil, List.getElem?_cons_zero, List.getElem?_cons_succ, List.getElem?_nil, List.set_cons_zero, List.set_cons_succ, List.set_nil, decide_true, decide_false, Bool.true_and, Bool.and_true, Bool.false_and, Bool.and_false, Bool.not_true, Bool.not_false, Bool.or_true, Bool.true_or, Bool.false_or, Bool.or_false, Option.map_some, Option.map_none, Option.bind_some, Option.bind_none, Option.isSome_some, Option.isSome_none, px_0, px_1, px_2, px_3, px_4, px_5, px_6, px_7, px_8, forGo_n, forGo_c, forK_n, forK_c, forK_b, forK_r, bt_nm, bt_tup, bt_own, bt_lst, wipeM, wipeE, restore, plainAt, List.all_cons, List.all_nil, Option.getD_some, Option.getD_none]
          rfl
      rw [pas_zip] at hc
      refine ⟨[some (.int m), some (.int l), some (.own (pas (j + 1))), some (.int (0 + (j : Int))), none, none], ?_, _, rfl⟩
      simp (config := { decide := true }) only [↓reduceIte, permute, quiet, still, isSem, tyIs, mtTy, D.list?, D.items, litsOnly, Sms.stores, Sm.stores, Hds.stores, Tg.slots, List.length_cons, List.length_nil, List.replicate_succ, List.replicate_zero, List.map_cons, List.map_nil, List.cons_append, List.nil_append, List.append_nil, List.getElem?_cons_zero, List.getElem?_cons_succ, List.getElem?_nil, List.set_cons_zero, List.set_cons_succ, List.set_nil, decide_true, decide_false, Bool.true_and, Bool.and_true, Bool.false_and, Bool.and_false, Bool.not_true, Bool.not_false, Bool.or_true, Bool.true_or, Bool.false_or, Bool.or_false, Option.map_some, Option.map_none, Option.bind_some, Option.bind_none, Option.isSome_some, Option.isSome_none, px_0, px_1, px_2, px_3, px_4, px_5, px_6, px_7, px_8, forGo_n, forGo_c, forK_n, forK_c, forK_b, forK_r, bt_nm, bt_tup, bt_own, bt_lst, wipeM, wipeE, restore, plainAt, List.all_cons, List.all_nil, Option.getD_some, Option.getD_none, g0, f1, f3.1, f4.1, b_addl l1, b_addl l2, items_own, hc]
  have s1 : small (m : Int) = true := small_nat (by omega)
  have e2 : ((m : Int)).toNat = m := toNat_nat m
  have g1 : decide (([D.int 1] : List D).length ≤ LIM) = true := decide_eq_true (lim_of (by simp))
  have p0 : [D.int 1] = pas 0 := rfl
  rw [run_s t47]
  have z : (0 : Int) ≤ (l : Int) := by omega
  by_cases c : (l : Int) ≤ (m : Int)
  · have hx : (pas m)[l]? = some (.int (chs m l)) := by
      unfold pas
      rw [List.getElem?_map, List.getElem?_range (by omega)]; rfl
    simp (config := { decide := true }) only [↓reduceIte, permute, quiet, still, isSem, tyIs, mtTy, D.list?, D.items, litsOnly, Sms.stores, Sm.stores, Hds.stores, Tg.slots, List.length_cons, List.length_nil, List.replicate_succ, List.replicate_zero, List.map_cons, List.map_nil, List.cons_append, List.nil_append, List.append_nil, List.getElem?_cons_zero, List.getElem?_cons_succ, List.getElem?_nil, List.set_cons_zero, List.set_cons_succ, List.set_nil, decide_true, decide_false, Bool.true_and, Bool.and_true, Bool.false_and, Bool.and_false, Bool.not_true, Bool.not_false, Bool.or_true, Bool.true_or, Bool.false_or, Bool.or_false, Option.map_some, Option.map_none, Option.bind_some, Option.bind_none, Option.isSome_some, Option.isSome_none, px_0, px_1, px_2, px_3, px_4, px_5, px_6, px_7, px_8, forGo_n, forGo_c, forK_n, forK_c, forK_b, forK_r, bt_nm, bt_tup, bt_own, bt_lst, wipeM, wipeE, restore, plainAt, List.all_cons, List.all_nil, Option.getD_some, Option.getD_none, d_law_choose, g1, p0, s1, e2, he, z, c, ix_o hx]
    rw [chsZ_nat]
  · simp (config := { decide := true }) only [↓reduceIte, permute, quiet, still, isSem, tyIs, mtTy, D.list?, D.items, litsOnly, Sms.stores, Sm.stores, Hds.stores, Tg.slots, List.length_cons, List.length_nil, List.replicate_succ, List.replicate_zero, List.map_cons, List.map_nil, List.cons_append, List.nil_append, List.append_nil, List.getElem?_cons_zero, List.getElem?_cons_succ, List.getElem?_nil, List.set_cons_zero, List.set_cons_succ, List.set_nil, decide_true, decide_false, Bool.true_and, Bool.and_true, Bool.false_and, Bool.and_false, Bool.not_true, Bool.not_false, Bool.or_true, Bool.true_or, Bool.false_or, Bool.or_false, Option.map_some, Option.map_none, Option.bind_some, Option.bind_none, Option.isSome_some, Option.isSome_none, px_0, px_1, px_2, px_3, px_4, px_5, px_6, px_7, px_8, forGo_n, forGo_c, forK_n, forK_c, forK_b, forK_r, bt_nm, bt_tup, bt_own, bt_lst, wipeM, wipeE, restore, plainAt, List.all_cons, List.all_nil, Option.getD_some, Option.getD_none, d_law_choose, g1, p0, s1, e2, he, z, c]
    rw [chsZ_nat, chs_0k _ _ (by omega)]
    rfl
/-! all throws -/
theorem rowsL_flat : ∀ k, (rowsL k).flatMap (fun s => [s ++ [104], s ++ [116]]) = rowsL (k + 1)
  | 0 => rfl
  | k + 1 => by
    show ((rowsL k).map (104 :: ·) ++ (rowsL k).map (116 :: ·)).flatMap _ = (rowsL (k + 1)).map (104 :: ·) ++ (rowsL (k + 1)).map (116 :: ·)
    rw [← rowsL_flat k, List.flatMap_append, List.flatMap_map, List.flatMap_map, List.map_flatMap, List.map_flatMap]
    rfl
theorem gb1 {d : D} {ds : List D} {e : Env} : giveBack [.val d] ds e = e := by
  cases ds with
  | nil => rfl
  | cons x r => exact giveBack_n (ds := r)
theorem law_heads_ok (t49 : T 49 = some d_law_heads) {s : List Nat} (h : chOk s) (hl : s.length ≤ 1000) : run T wh (n + 1) 49 [.str s] = .ok (.int (hd s)) [.str s] := by
  rw [run_s t49]
  have hc : compM (.nm 1) (evC (run T wh n) (.some (.cmp .eq (.var 1) (.lit (.str [104]))))) (ev (run T wh n) (.var 1)).o (s.map fun c => D.str [c]) [some (.str s), none] = .ok (.own (((s.map fun c => D.str [c]).filter (is1 104)).map id)) [some (.str s), none] := by
    refine compM_ok (fun e => ∃ o, e = [some (.str s), o]) (fun d => [some (.str s), some d]) (is1 104) id ⟨none, rfl⟩ (fun d hd e' ⟨o, he⟩ => by subst he; rfl) (fun d hd => ⟨_, rfl⟩) (fun d hd => ?_) (fun d hd _ => ?_) (by rw [List.length_map, filt_ch]; exact lim_of (Nat.le_trans (List.length_filter_le _ _) (by omega))) rfl fun e' ⟨o, he⟩ => by subst he; rfl
    · obtain ⟨c, hc, rfl⟩ := List.mem_map.mp hd
      have := eq_ch (c := c) (d := 104) (by rcases h c hc with rfl | rfl <;> decide) (by decide)
      simp (config := { decide := true }) only [↓reduceIte, permute, quiet, still, isSem, tyIs, mtTy, D.list?, D.items, litsOnly, Sms.stores, Sm.stores, Hds.stores, Tg.slots, List.length_cons, List.length_nil, List.replicate_succ, List.replicate_zero, List.map_cons, List.map_nil, List.cons_append, List.nil_append, List.append_nil, List.getElem?_cons_zero, List.getElem?_cons_succ, List.getElem?_nil, List.set_cons_zero, List.set_cons_succ, List.set_nil, decide_true, decide_false, Bool.true_and, Bool.and_true, Bool.false_and, Bool.and_false, Bool.not_true, Bool.not_false, Bool.or_true, Bool.true_or, Bool.false_or, Bool.or_false, Option.map_some, Option.map_none, Option.bind_some, Option.bind_none, Option.isSome_some, Option.isSome_none, px_0, px_1, px_2, px_3, px_4, px_5, px_6, px_7, px_8, forGo_n, forGo_c, forK_n, forK_c, forK_b, forK_r, bt_nm, bt_tup, bt_own, bt_lst, wipeM, wipeE, restore, plainAt, List.all_cons, List.all_nil, Option.getD_some, Option.getD_none, this]
      rfl
    · obtain ⟨c, hc, rfl⟩ := List.mem_map.mp hd
      simp (config := { decide := true }) only [↓reduceIte, permute, quiet, still, isSem, tyIs, mtTy, D.list?, D.items, litsOnly, Sms.stores, Sm.stores, Hds.stores, Tg.slots, List.length_cons, List.length_nil, List.replicate_succ, List.replicate_zero, List.map_cons, List.map_nil, List.cons_append, List.nil_append, List.append_nil, List.getElem?_cons_zero, List.getElem?_cons_succ, List.getElem?_nil, List.set_cons_zero, List.set_cons_succ, List.set_nil, decide_true, decide_false, Bool.true_and, Bool.and_true, Bool.false_and, Bool.and_false, Bool.not_true, Bool.not_false, Bool.or_true, Bool.true_or, Bool.false_or, Bool.or_false, Option.map_some, Option.map_none, Option.bind_some, Option.bind_none, Option.isSome_some, Option.isSome_none, px_0, px_1, px_2, px_3, px_4, px_5, px_6, px_7, px_8, forGo_n, forGo_c, forK_n, forK_c, forK_b, forK_r, bt_nm, bt_tup, bt_own, bt_lst, wipeM, wipeE, restore, plainAt, List.all_cons, List.all_nil, Option.getD_some, Option.getD_none]
      rfl
  simp (config := { decide := true }) only [↓reduceIte, permute, quiet, still, isSem, tyIs, mtTy, D.list?, D.items, litsOnly, Sms.stores, Sm.stores, Hds.stores, Tg.slots, List.length_cons, List.length_nil, List.replicate_succ, List.replicate_zero, List.map_cons, List.map_nil, List.cons_append, List.nil_append, List.append_nil, List.getElem?_cons_zero, List.getElem?_cons_succ, List.getElem?_nil, List.set_cons_zero, List.set_cons_succ, List.set_nil, decide_true, decide_false, Bool.true_and, Bool.and_true, Bool.false_and, Bool.and_false, Bool.not_true, Bool.not_false, Bool.or_true, Bool.true_or, Bool.false_or, Bool.or_false, Option.map_some, Option.map_none, Option.bind_some, Option.bind_none, Option.isSome_some, Option.isSome_none, px_0, px_1, px_2, px_3, px_4, px_5, px_6, px_7, px_8, forGo_n, forGo_c, forK_n, forK_c, forK_b, forK_r, bt_nm, bt_tup, bt_own, bt_lst, wipeM, wipeE, restore, plainAt, List.all_cons, List.all_nil, Option.getD_some, Option.getD_none, d_law_heads, items_s, hc]
  rw [List.length_map, filt_ch]
  rfl
theorem frzs_str : ∀ L : List (List Nat), D.frzs (L.map .str) = L.map .str
  | [] => rfl
  | s :: L => by show D.str s :: D.frzs (L.map .str) = _; rw [frzs_str L]; rfl
theorem plains_str : ∀ L : List (List Nat), D.plains (L.map .str) = true
  | [] => rfl
  | s :: L => by show (true && D.plains (L.map .str)) = true; rw [plains_str L]; rfl
theorem throws_ok (t48 : T 48 = some d_law_throws) (t44 : T 44 = some d_law_flat) (m : Nat) (hm : m ≤ 12) : run T wh (n + 2) 48 [.int m] = .ok (.own ((rowsL m).map .str)) [.int m] := by
  obtain ⟨e', he, o2, rfl⟩ := for_range (tg := .nm 2) (b := evSs (run T wh (n + 1)) wh 1 (.cons (.set 1 (.call 44 (.cons (.comp (.list (.cons (.bin .add (.var 3) (.lit (.str [104]))) (.cons (.bin .add (.var 3) (.lit (.str [116]))) .nil))) (.nm 3) (.plain (.var 1)) .none) .nil))) .nil)) (lo := 0) (n := m) (e := [some (.int m), some (.own ((rowsL 0).map .str)), none, none])
    (fun k e => ∃ o2, e = [some (.int m), some (.own ((rowsL k).map .str)), o2, none]) ⟨none, rfl⟩ fun j e hj ⟨o2, he⟩ => by
      subst he
      have pj : 2 ^ j ≤ 4096 := Nat.pow_le_pow_right (n := 2) (by decide) (by omega : j ≤ 12)
      have pj1 : 2 ^ (j + 1) ≤ 4096 := Nat.pow_le_pow_right (n := 2) (by decide) (by omega : j + 1 ≤ 12)
      have fl : (((rowsL j).map fun s => [D.str (s ++ [104]), D.str (s ++ [116])])).flatten = (rowsL (j + 1)).map .str := by
        rw [← rowsL_flat, List.map_flatMap, ← List.flatMap_def]
        rfl
      have hc : compM (.nm 3) (evC (run T wh (n + 1)) .none) (ev (run T wh (n + 1)) (.list (.cons (.bin .add (.var 3) (.lit (.str [104]))) (.cons (.bin .add (.var 3) (.lit (.str [116]))) .nil)))).o ((rowsL j).map D.str) [some (.int m), some (.lst ((rowsL j).map .str)), some (.int (0 + (j : Int))), none] = .ok (.own (((rowsL j).map D.str).map fun d => match d with
          | D.str s => .own [.str (s ++ [104]), .str (s ++ [116])]
          | _ => .non)) [some (.int m), some (.lst ((rowsL j).map .str)), some (.int (0 + (j : Int))), none] := by
        refine compM_map (fun e => ∃ o, e = [some (.int m), some (.lst ((rowsL j).map .str)), some (.int (0 + (j : Int))), o]) (fun d => [some (.int m), some (.lst ((rowsL j).map .str)), some (.int (0 + (j : Int))), some d]) _ ⟨none, rfl⟩ (fun d hd e' ⟨o, he⟩ => by subst he; rfl) (fun d hd => ⟨_, rfl⟩) (fun d hd => ?_) (by rw [List.length_map, rowsL_len]; exact lim_of (by omega)) rfl fun e' ⟨o, he⟩ => by subst he; rfl
        obtain ⟨s, hs, rfl⟩ := List.mem_map.mp hd
        have l1 := (rowsL_mem hs).1
        have e4 : ∀ c : Nat, s.length + ([c] : List Nat).length ≤ LIM := fun c => lim_of (by simp; omega)
        have g2 : ∀ a b : D, decide (([a, b] : List D).length ≤ LIM) = true := fun a b => decide_eq_true (lim_of (by simp))
        simp (config := { decide := true }) only [↓reduceIte, permute, quiet, still, isSem, tyIs, mtTy, D.list?, D.items, litsOnly, Sms.stores, Sm.stores, Hds.stores, Tg.slots, List.length_cons, List.length_nil, List.replicate_succ, List.replicate_zero, List.map_cons, List.map_nil, List.cons_append, List.nil_append, List.append_nil, List.getElem?_cons_zero, List.getElem?_cons_succ, List.getElem?_nil, List.set_cons_zero, List.set_cons_succ, List.set_nil, decide_true, decide_false, Bool.true_and, Bool.and_true, Bool.false_and, Bool.and_false, Bool.not_true, Bool.not_false, Bool.or_true, Bool.true_or, Bool.false_or, Bool.or_false, Option.map_some, Option.map_none, Option.bind_some, Option.bind_none, Option.isSome_some, Option.isSome_none, px_0, px_1, px_2, px_3, px_4, px_5, px_6, px_7, px_8, forGo_n, forGo_c, forK_n, forK_c, forK_b, forK_r, bt_nm, bt_tup, bt_own, bt_lst, wipeM, wipeE, restore, plainAt, List.all_cons, List.all_nil, Option.getD_some, Option.getD_none, b_adds (e4 104), b_adds (e4 116), g2]
      rw [List.map_map] at hc
      obtain ⟨ds, hf⟩ := flat_ok (wh := wh) (n := n) t44 (ls := (rowsL j).map fun s => [D.str (s ++ [104]), D.str (s ++ [116])]) (by rw [fl, List.length_map, rowsL_len]; exact lim_of (by omega)) (fun l hl => by obtain ⟨s, _, rfl⟩ := List.mem_map.mp hl; rfl) (.own ((rowsL j).map fun s => .own [D.str (s ++ [104]), D.str (s ++ [116])])) (.inl (by rw [List.map_map]; rfl))
      rw [fl] at hf
      have hc : compM _ _ _ _ _ = R.ok (.own ((rowsL j).map fun s => .own [D.str (s ++ [104]), D.str (s ++ [116])])) _ := hc
      refine ⟨[some (.int m), some (.own ((rowsL (j + 1)).map .str)), some (.int (0 + (j : Int))), none], ?_, _, rfl⟩
      simp (config := { decide := true }) only [↓reduceIte, permute, quiet, still, isSem, tyIs, mtTy, D.list?, D.items, litsOnly, Sms.stores, Sm.stores, Hds.stores, Tg.slots, List.length_cons, List.length_nil, List.replicate_succ, List.replicate_zero, List.map_cons, List.map_nil, List.cons_append, List.nil_append, List.append_nil, List.getElem?_cons_zero, List.getElem?_cons_succ, List.getElem?_nil, List.set_cons_zero, List.set_cons_succ, List.set_nil, decide_true, decide_false, Bool.true_and, Bool.and_true, Bool.false_and, Bool.and_false, Bool.not_true, Bool.not_false, Bool.or_true, Bool.true_or, Bool.false_or, Bool.or_false, Option.map_some, Option.map_none, Option.bind_some, Option.bind_none, Option.isSome_some, Option.isSome_none, px_0, px_1, px_2, px_3, px_4, px_5, px_6, px_7, px_8, forGo_n, forGo_c, forK_n, forK_c, forK_b, forK_r, bt_nm, bt_tup, bt_own, bt_lst, wipeM, wipeE, restore, plainAt, List.all_cons, List.all_nil, Option.getD_some, Option.getD_none, frzs_str, items_lst, hc, hf, gb1]
  have s1 : small (m : Int) = true := small_nat (by omega)
  have e2 : ((m : Int)).toNat = m := toNat_nat m
  have g1 : decide (([D.str []] : List D).length ≤ LIM) = true := decide_eq_true (lim_of (by simp))
  have p0 : [D.str []] = (rowsL 0).map .str := rfl
  rw [run_s t48]
  have np : ¬ (1 < 1) := by omega
  simp (config := { decide := true }) only [↓reduceIte, permute, quiet, still, isSem, tyIs, mtTy, D.list?, D.items, litsOnly, Sms.stores, Sm.stores, Hds.stores, Tg.slots, List.length_cons, List.length_nil, List.replicate_succ, List.replicate_zero, List.map_cons, List.map_nil, List.cons_append, List.nil_append, List.append_nil, List.getElem?_cons_zero, List.getElem?_cons_succ, List.getElem?_nil, List.set_cons_zero, List.set_cons_succ, List.set_nil, decide_true, decide_false, Bool.true_and, Bool.and_true, Bool.false_and, Bool.and_false, Bool.not_true, Bool.not_false, Bool.or_true, Bool.true_or, Bool.false_or, Bool.or_false, Option.map_some, Option.map_none, Option.bind_some, Option.bind_none, Option.isSome_some, Option.isSome_none, px_0, px_1, px_2, px_3, px_4, px_5, px_6, px_7, px_8, forGo_n, forGo_c, forK_n, forK_c, forK_b, forK_r, bt_nm, bt_tup, bt_own, bt_lst, wipeM, wipeE, restore, plainAt, List.all_cons, List.all_nil, Option.getD_some, Option.getD_none, d_law_throws, g1, p0, s1, e2, he]
end Py.Q
end
section
namespace Py.Q
variable {T : Nat → Option Fn} {wh : M Bool → M Fl → M Fl} {n : Nat}
structure TLaw (T : Nat → Option Fn) : Prop extends TRows T where
  law_take : T 9 = some d_law_take
  law_cells : T 10 = some d_law_cells
  law_box : T 43 = some d_law_box_v2
  law_same : T 13 = some d_law_same
  law_flat : T 44 = some d_law_flat
  law_call : T 45 = some d_law_call
  law_slip : T 46 = some d_law_slip
  law_choose : T 47 = some d_law_choose
  law_throws : T 48 = some d_law_throws
  law_heads : T 49 = some d_law_heads
  law_right : T 50 = some d_law_right_v2
  law : T 51 = some d_law_v2
theorem t2_0 {a b : D} : ixSem (.tup [a, b]) (.int 0) = some a := nr rfl
theorem t2_1 {a b : D} : ixSem (.tup [a, b]) (.int 1) = some b := nr rfl
theorem t3_0 {a b c : D} : ixSem (.tup [a, b, c]) (.int 0) = some a := nr rfl
theorem t3_1 {a b c : D} : ixSem (.tup [a, b, c]) (.int 1) = some b := nr rfl
theorem t3_2 {a b c : D} : ixSem (.tup [a, b, c]) (.int 2) = some c := nr rfl
theorem catch_ne {c c' : Xc} {ps : List D} {i : Nat} {l l' : Lit} {r : Hds} {e : Env} (h : c ≠ c') : catch_ c ps (.cons c' i none (.iteYes l l') r) e = catch_ c ps r e := by
  show (if c = c' then _ else _ : M Fl) e = _
  rw [if_neg h]
theorem catch_is {c : Xc} {ps : List D} {i : Nat} {l l' : Lit} {r : Hds} {e : Env} : catch_ c ps (.cons c i none (.iteYes l l') r) e = .ok (.rt l.d) (e.set i none) := by
  show (if c = c then _ else _ : M Fl) e = _
  rw [if_pos rfl]
  rfl
theorem slip2 (t : TLaw T) (f : Nat) (a b : Int) (h : ∀ n, run T wh (n + 4) f [.int a, .int b] = .exc .cannot [] [.int a, .int b]) : run T wh (n + 6) 46 [.fn f, .tup [.int a, .int b]] = .ok (.str [99, 97, 110, 32, 110, 111, 116]) [.fn f, .tup [.int a, .int b]] := by
  have c : ∀ n, run T wh (n + 5) 45 [.fn f, .tup [.int a, .int b]] = .exc .cannot [] [.fn f, .tup [.int a, .int b]] := fun n => by
    rw [run_s t.law_call]
    have z1 : (((0 + 1 + 1 : Nat) : Int) == 1) = false := rfl
    have z2 : (((0 + 1 + 1 : Nat) : Int) == 2) = true := rfl
    simp (config := { decide := true }) only [↓reduceIte, permute, quiet, still, isSem, tyIs, mtTy, D.list?, D.items, litsOnly, Sms.stores, Sm.stores, Hds.stores, Tg.slots, List.length_cons, List.length_nil, List.replicate_succ, List.replicate_zero, List.map_cons, List.map_nil, List.cons_append, List.nil_append, List.append_nil, List.getElem?_cons_zero, List.getElem?_cons_succ, List.getElem?_nil, List.set_cons_zero, List.set_cons_succ, List.set_nil, decide_true, decide_false, Bool.true_and, Bool.and_true, Bool.false_and, Bool.and_false, Bool.not_true, Bool.not_false, Bool.or_true, Bool.true_or, Bool.false_or, Bool.or_false, Option.map_some, Option.map_none, Option.bind_some, Option.bind_none, Option.isSome_some, Option.isSome_none, px_0, px_1, px_2, px_3, px_4, px_5, px_6, px_7, px_8, forGo_n, forGo_c, forK_n, forK_c, forK_b, forK_r, bt_nm, bt_tup, bt_own, bt_lst, wipeM, wipeE, restore, plainAt, List.all_cons, List.all_nil, Option.getD_some, Option.getD_none, d_law_call, z1, z2, t2_0, t2_1, h]
  rw [run_s t.law_slip]
  have n1 : Xc.cannot ≠ Xc.unfit := by decide
  simp (config := { decide := true }) only [↓reduceIte, permute, quiet, still, isSem, tyIs, mtTy, D.list?, D.items, litsOnly, Sms.stores, Sm.stores, Hds.stores, Tg.slots, List.length_cons, List.length_nil, List.replicate_succ, List.replicate_zero, List.map_cons, List.map_nil, List.cons_append, List.nil_append, List.append_nil, List.getElem?_cons_zero, List.getElem?_cons_succ, List.getElem?_nil, List.set_cons_zero, List.set_cons_succ, List.set_nil, decide_true, decide_false, Bool.true_and, Bool.and_true, Bool.false_and, Bool.and_false, Bool.not_true, Bool.not_false, Bool.or_true, Bool.true_or, Bool.false_or, Bool.or_false, Option.map_some, Option.map_none, Option.bind_some, Option.bind_none, Option.isSome_some, Option.isSome_none, px_0, px_1, px_2, px_3, px_4, px_5, px_6, px_7, px_8, forGo_n, forGo_c, forK_n, forK_c, forK_b, forK_r, bt_nm, bt_tup, bt_own, bt_lst, wipeM, wipeE, restore, plainAt, List.all_cons, List.all_nil, Option.getD_some, Option.getD_none, d_law_slip, c, catch_ne n1, catch_is]
theorem slip3 (t : TLaw T) (f : Nat) (a b c : Int) (h : ∀ n, run T wh (n + 4) f [.int a, .int b, .int c] = .exc .cannot [] [.int a, .int b, .int c]) : run T wh (n + 6) 46 [.fn f, .tup [.int a, .int b, .int c]] = .ok (.str [99, 97, 110, 32, 110, 111, 116]) [.fn f, .tup [.int a, .int b, .int c]] := by
  have cc : ∀ n, run T wh (n + 5) 45 [.fn f, .tup [.int a, .int b, .int c]] = .exc .cannot [] [.fn f, .tup [.int a, .int b, .int c]] := fun n => by
    rw [run_s t.law_call]
    have z1 : (((0 + 1 + 1 + 1 : Nat) : Int) == 1) = false := rfl
    have z2 : (((0 + 1 + 1 + 1 : Nat) : Int) == 2) = false := rfl
    have z3 : (((0 + 1 + 1 + 1 : Nat) : Int) == 3) = true := rfl
    simp (config := { decide := true }) only [↓reduceIte, permute, quiet, still, isSem, tyIs, mtTy, D.list?, D.items, litsOnly, Sms.stores, Sm.stores, Hds.stores, Tg.slots, List.length_cons, List.length_nil, List.replicate_succ, List.replicate_zero, List.map_cons, List.map_nil, List.cons_append, List.nil_append, List.append_nil, List.getElem?_cons_zero, List.getElem?_cons_succ, List.getElem?_nil, List.set_cons_zero, List.set_cons_succ, List.set_nil, decide_true, decide_false, Bool.true_and, Bool.and_true, Bool.false_and, Bool.and_false, Bool.not_true, Bool.not_false, Bool.or_true, Bool.true_or, Bool.false_or, Bool.or_false, Option.map_some, Option.map_none, Option.bind_some, Option.bind_none, Option.isSome_some, Option.isSome_none, px_0, px_1, px_2, px_3, px_4, px_5, px_6, px_7, px_8, forGo_n, forGo_c, forK_n, forK_c, forK_b, forK_r, bt_nm, bt_tup, bt_own, bt_lst, wipeM, wipeE, restore, plainAt, List.all_cons, List.all_nil, Option.getD_some, Option.getD_none, d_law_call, z1, z2, z3, t3_0, t3_1, t3_2, h]
  rw [run_s t.law_slip]
  have n1 : Xc.cannot ≠ Xc.unfit := by decide
  simp (config := { decide := true }) only [↓reduceIte, permute, quiet, still, isSem, tyIs, mtTy, D.list?, D.items, litsOnly, Sms.stores, Sm.stores, Hds.stores, Tg.slots, List.length_cons, List.length_nil, List.replicate_succ, List.replicate_zero, List.map_cons, List.map_nil, List.cons_append, List.nil_append, List.append_nil, List.getElem?_cons_zero, List.getElem?_cons_succ, List.getElem?_nil, List.set_cons_zero, List.set_cons_succ, List.set_nil, decide_true, decide_false, Bool.true_and, Bool.and_true, Bool.false_and, Bool.and_false, Bool.not_true, Bool.not_false, Bool.or_true, Bool.true_or, Bool.false_or, Bool.or_false, Option.map_some, Option.map_none, Option.bind_some, Option.bind_none, Option.isSome_some, Option.isSome_none, px_0, px_1, px_2, px_3, px_4, px_5, px_6, px_7, px_8, forGo_n, forGo_c, forK_n, forK_c, forK_b, forK_r, bt_nm, bt_tup, bt_own, bt_lst, wipeM, wipeE, restore, plainAt, List.all_cons, List.all_nil, Option.getD_some, Option.getD_none, d_law_slip, cc, catch_ne n1, catch_is]
/-! sorted rows -/
theorem ltStr_cons (x y : Nat) (a b : List Nat) : ltStr (x :: a) (y :: b) = if x = y then ltStr a b else decide (x < y) := by
  rw [ltStr]
theorem le_h {c : Nat} {a b : List Nat} (h : leStr a b = true) : leStr (c :: a) (c :: b) = true := by
  unfold leStr at *
  rw [ltStr_cons, if_pos rfl]; exact h
theorem rowsL_sorted : ∀ k, (rowsL k).Pairwise fun a b => leStr a b = true
  | 0 => by simp [rowsL]
  | k + 1 => by
    show ((rowsL k).map (104 :: ·) ++ (rowsL k).map (116 :: ·)).Pairwise _
    rw [List.pairwise_append]
    refine ⟨List.pairwise_map.mpr ((rowsL_sorted k).imp le_h), List.pairwise_map.mpr ((rowsL_sorted k).imp le_h), fun a ha b hb => ?_⟩
    obtain ⟨x, _, rfl⟩ := List.mem_map.mp ha
    obtain ⟨y, _, rfl⟩ := List.mem_map.mp hb
    unfold leStr
    rw [ltStr_cons, if_neg (by decide)]; rfl
theorem sortB_id {α : Type} {le : α → α → Bool} : ∀ {l : List α}, l.Pairwise (fun a b => le a b = true) → sortB le l = l
  | [], _ => rfl
  | x :: r, h => by
    rw [List.pairwise_cons] at h
    show insB le x (sortB le r) = _
    rw [sortB_id h.2]
    cases r with
    | nil => rfl
    | cons y r =>
      show (if le x y = true then _ else _) = _
      rw [if_pos (h.1 y (by simp))]
theorem strs_s : ∀ L : List (List Nat), D.strs (L.map .str) = some L
  | [] => rfl
  | s :: L => by show (D.strs (L.map .str)).map (s :: ·) = _; rw [strs_s L]; rfl
theorem sort_rows (m : Nat) : bi1 .sorted (.lst ((rowsL m).map .str)) = some (.own ((rowsL m).map .str)) := by
  show (sortSem ((rowsL m).map .str)).map D.own = _
  have hi : D.ints ((rowsL m).map .str) = none := by
    have : rowsL m ≠ [] := fun e => by
      have := rowsL_len m
      rw [e] at this
      have := Nat.two_pow_pos m
      simp at *
      omega
    cases h : rowsL m with
    | nil => exact absurd h this
    | cons a L => rfl
  unfold sortSem
  rw [hi]
  show ((D.strs ((rowsL m).map .str)).map fun ss => (sortB leStr ss).map .str).map D.own = _
  rw [strs_s]
  show some (D.own ((sortB leStr (rowsL m)).map .str)) = _
  rw [sortB_id (rowsL_sorted m)]
theorem eqvs_s : ∀ L : List (List Nat), D.eqvs (L.map .str) (L.map .str) = true
  | [] => rfl
  | s :: L => by
    show (D.eqv (.str s) (.str s) && D.eqvs (L.map .str) (L.map .str)) = true
    rw [eqvs_s L]
    have : D.eqv (.str s) (.str s) = true := beq_self_eq_true s
    rw [this]; rfl
theorem eq_rows {L : List (List Nat)} (h : ∀ s ∈ L, chOk s) : eqSem (.lst (L.map .str)) (.own (L.map .str)) = some true := by
  obtain ⟨d1, d2⟩ := datas_s h
  have a1 : D.data (.lst (L.map .str)) = true := d1
  have a2 : D.data (.own (L.map .str)) = true := d1
  have a3 : D.depth (.lst (L.map .str)) = 1 := by show D.depths (L.map .str) + 1 = 1; rw [d2]
  have a4 : D.depth (.own (L.map .str)) = 1 := by show D.depths (L.map .str) + 1 = 1; rw [d2]
  unfold eqSem
  rw [a1, a2, a3, a4]
  show some (D.eqvs (L.map .str) (L.map .str)) = _
  rw [eqvs_s]
/-! alike -/
theorem get_of3 {a b c x : D} {i : Nat} (h : [a, b, c][i]? = some x) : (i = 0 ∧ x = a) ∨ (i = 1 ∧ x = b) ∨ (i = 2 ∧ x = c) := by
  rcases i with _ | _ | _ | i
  · exact .inl ⟨rfl, by simpa using h.symm⟩
  · exact .inr (.inl ⟨rfl, by simpa using h.symm⟩)
  · exact .inr (.inr ⟨rfl, by simpa using h.symm⟩)
  · simp at h
theorem all_ch {s : List Nat} (h : chOk s) : (s.all fun c => decide (c < 1114112)) = true := data_s h
theorem same_rows {k : Nat} {L : List (List Nat)} (h : ∀ s ∈ L, chOk s) (hl : L.length ≤ LIM) {g d : D} (hg : g.list? = some (L.map .str)) (hd : d.list? = some (L.map .str)) : Same (k + 1) g d := by
  refine .lst hg hd rfl (by rw [List.length_map]; exact hl) fun i x y hx hy => ?_
  rw [frzs_str] at hx hy
  rw [hx] at hy
  cases hy
  obtain ⟨s, hs, rfl⟩ := List.mem_map.mp (List.mem_of_getElem? hx)
  exact .str s (all_ch (h s hs))
theorem rows_ch {m : Nat} : ∀ s ∈ rowsL m, chOk s := fun s h => (rowsL_mem h).2
theorem W_ch {m : Nat} {l : Int} : ∀ s ∈ W m l, chOk s := fun s h => (W_mem h).2
theorem rows_lim {m : Nat} (h : m ≤ 12) : (rowsL m).length ≤ LIM := by
  rw [rowsL_len]
  have : 2 ^ m ≤ 2 ^ 12 := Nat.pow_le_pow_right (n := 2) (by decide) h
  exact lim_of (by omega)
theorem W_lim {m : Nat} {l : Int} (h : m ≤ 12) : (W m l).length ≤ LIM := Nat.le_trans (List.length_filter_le _ _) (rows_lim h)
def isHd (l : Int) : D → Bool
  | .str s => ((hd s : Nat) : Int) == l
  | _ => false
theorem filt_W (m : Nat) (l : Int) : (((rowsL m).map D.str).filter (isHd l)).map id = (W m l).map D.str := by
  rw [List.map_id]
  unfold W
  generalize rowsL m = L
  induction L with
  | nil => rfl
  | cons s L ih =>
    rw [List.map_cons, List.filter_cons, List.filter_cons]
    show (if (((hd s : Nat) : Int) == l) = true then _ else _) = _
    split
    · rw [List.map_cons, ih]
    · exact ih
/-- lists written out -/
inductive All2 (R : D → D → Prop) : List D → List D → Prop
  | nil : All2 R [] []
  | cons {a b : D} {x y : List D} (h : R a b) (r : All2 R x y) : All2 R (a :: x) (b :: y)
theorem All2.len {R : D → D → Prop} {x y : List D} (h : All2 R x y) : x.length = y.length := by
  induction h with
  | nil => rfl
  | cons _ _ ih => rw [List.length_cons, List.length_cons, ih]
theorem same_l {k : Nat} {g d : D} {xs ys : List D} (hg : g.list? = some xs) (hd : d.list? = some ys) (hL : xs.length ≤ LIM) (h : All2 (Same k) (D.frzs xs) (D.frzs ys)) : Same (k + 1) g d := by
  have hl : xs.length = ys.length := by rw [← frzs_len xs, ← frzs_len ys]; exact h.len
  refine .lst hg hd hl hL ?_
  generalize D.frzs xs = X at *
  generalize D.frzs ys = Y at *
  clear hl hL hg hd
  induction h with
  | nil => intro i x y hx; simp at hx
  | cons a r ih =>
    intro i x y hx hy
    cases i with
    | zero => simp at hx hy; subst hx; subst hy; exact a
    | succ i => exact ih i x y (by simpa using hx) (by simpa using hy)
theorem right_ok (t : TLaw T) {d : D} {q : Nat} (h : Tin q d) (hq : q ≤ 1000) : ∃ d', run T wh (n + 7) 50 [d] = .ok (.bl true) [d'] ∧ Tin (q + 6) d' := by
  obtain ⟨r1, d1, ht1, r10, r11, hT1⟩ := take_ok (wh := wh) (n := n + 5) t.law_take h (by omega) (q := 10) (by decide) (by decide)
  obtain ⟨a, b, c, rfl, _⟩ := h
  obtain ⟨m, rfl⟩ : ∃ m : Nat, r1 = (m : Int) := ⟨r1.toNat, by omega⟩
  have hm : m ≤ 9 := by omega
  obtain ⟨r2, d2, ht2, r20, r21, hT2⟩ := take_ok (wh := wh) (n := n + 5) t.law_take hT1 (by omega) (q := (m : Int) + 2) (by omega) (by omega)
  obtain ⟨a1, b1, c1, rfl, _⟩ := hT1
  obtain ⟨l, rfl⟩ : ∃ l : Nat, r2 = (l : Int) := ⟨r2.toNat, by omega⟩
  have hl : l ≤ 12 := by omega
  obtain ⟨a2, b2, c2, rfl, hT2'⟩ := hT2
  have hT2 : Tin (q + 1 + 1) (.own [.int a2, .int b2, .int c2]) := ⟨a2, b2, c2, rfl, hT2'⟩
  clear hT2'
  have e_thr := throws_ok (wh := wh) (n := n + 4) t.law_throws t.law_flat m (by omega)
  have hc : ∀ (A B : Option D), compM (.nm 8) (evC (run T wh (n + 6)) (.some (.cmp .eq (.call 49 (.cons (.var 8) .nil)) (.var 6)))) (ev (run T wh (n + 6)) (.var 8)).o ((rowsL m).map D.str) [A, some (.int m), none, none, none, some (.lst ((rowsL m).map D.str)), some (.int l), none, none, none, none] = .ok (.own ((W m l).map D.str)) [A, some (.int m), none, none, none, some (.lst ((rowsL m).map D.str)), some (.int l), none, none, none, none] := fun A B => by
    have := compM_ok (tg := .nm 8) (c := evC (run T wh (n + 6)) (.some (.cmp .eq (.call 49 (.cons (.var 8) .nil)) (.var 6)))) (x := (ev (run T wh (n + 6)) (.var 8)).o) (items := (rowsL m).map D.str) (e := [A, some (.int m), none, none, none, some (.lst ((rowsL m).map D.str)), some (.int l), none, none, none, none])
      (fun e => ∃ o, e = [A, some (.int m), none, none, none, some (.lst ((rowsL m).map D.str)), some (.int l), none, o, none, none]) (fun d => [A, some (.int m), none, none, none, some (.lst ((rowsL m).map D.str)), some (.int l), none, some d, none, none]) (isHd l) id ⟨none, rfl⟩ (fun d hd e' ⟨o, he⟩ => by subst he; rfl) (fun d hd => ⟨_, rfl⟩) (fun d hd => ?_) (fun d hd _ => ?_) (by rw [filt_W, List.length_map]; exact W_lim (by omega)) rfl (fun e' ⟨o, he⟩ => by subst he; rfl)
    · rw [filt_W] at this; exact this
    · obtain ⟨s, hs, rfl⟩ := List.mem_map.mp hd
      have a1 := law_heads_ok (wh := wh) (n := n + 5) t.law_heads (rowsL_mem hs).2 (by rw [(rowsL_mem hs).1]; omega)
      simp (config := { decide := true }) only [↓reduceIte, permute, quiet, still, isSem, tyIs, mtTy, D.list?, D.items, litsOnly, Sms.stores, Sm.stores, Hds.stores, Tg.slots, List.length_cons, List.length_nil, List.replicate_succ, List.replicate_zero, List.map_cons, List.map_nil, List.cons_append, List.nil_append, List.append_nil, List.getElem?_cons_zero, List.getElem?_cons_succ, List.getElem?_nil, List.set_cons_zero, List.set_cons_succ, List.set_nil, decide_true, decide_false, Bool.true_and, Bool.and_true, Bool.false_and, Bool.and_false, Bool.not_true, Bool.not_false, Bool.or_true, Bool.true_or, Bool.false_or, Bool.or_false, Option.map_some, Option.map_none, Option.bind_some, Option.bind_none, Option.isSome_some, Option.isSome_none, px_0, px_1, px_2, px_3, px_4, px_5, px_6, px_7, px_8, forGo_n, forGo_c, forK_n, forK_c, forK_b, forK_r, bt_nm, bt_tup, bt_own, bt_lst, wipeM, wipeE, restore, plainAt, List.all_cons, List.all_nil, Option.getD_some, Option.getD_none, a1]
      rfl
    · obtain ⟨s, hs, rfl⟩ := List.mem_map.mp hd
      simp (config := { decide := true }) only [↓reduceIte, permute, quiet, still, isSem, tyIs, mtTy, D.list?, D.items, litsOnly, Sms.stores, Sm.stores, Hds.stores, Tg.slots, List.length_cons, List.length_nil, List.replicate_succ, List.replicate_zero, List.map_cons, List.map_nil, List.cons_append, List.nil_append, List.append_nil, List.getElem?_cons_zero, List.getElem?_cons_succ, List.getElem?_nil, List.set_cons_zero, List.set_cons_succ, List.set_nil, decide_true, decide_false, Bool.true_and, Bool.and_true, Bool.false_and, Bool.and_false, Bool.not_true, Bool.not_false, Bool.or_true, Bool.true_or, Bool.false_or, Bool.or_false, Option.map_some, Option.map_none, Option.bind_some, Option.bind_none, Option.isSome_some, Option.isSome_none, px_0, px_1, px_2, px_3, px_4, px_5, px_6, px_7, px_8, forGo_n, forGo_c, forK_n, forK_c, forK_b, forK_r, bt_nm, bt_tup, bt_own, bt_lst, wipeM, wipeE, restore, plainAt, List.all_cons, List.all_nil, Option.getD_some, Option.getD_none]
      rfl
  have k1 := all_rows_ok (wh := wh) (n := n + 2) t.toTRows m (by omega)
  have k2 := rows_with_ok (wh := wh) (n := n + 2) t.toTRows m l (by omega) (by omega)
  have k3 := how_many_rows_ok (wh := wh) (n := n + 2) t.toTRows m l (by omega) (by omega)
  have k4 := choose_ok (wh := wh) (n := n + 5) t.law_choose m l (by omega)
  have sm : run T wh (n + 6) 13 [.own [.own ((rowsL m).map D.str), .own ((W m l).map D.str), .int (chsZ m l)], .own [.lst ((rowsL m).map D.str), .lst ((W m l).map D.str), .int (chsZ m l)]] = .ok (.bl true) [.lst [.lst ((rowsL m).map D.str), .lst ((W m l).map D.str), .int (chsZ m l)], .lst [.lst ((rowsL m).map D.str), .lst ((W m l).map D.str), .int (chsZ m l)]] := by
    have := same_ok (wh := wh) t.law_same (k := 2) (g := .own [.own ((rowsL m).map D.str), .own ((W m l).map D.str), .int (chsZ m l)]) (d := .own [.lst ((rowsL m).map D.str), .lst ((W m l).map D.str), .int (chsZ m l)]) (same_l rfl rfl (lim_of (by simp)) (.cons (same_rows rows_ch (rows_lim (by omega)) (by show some (D.frzs _) = _; rw [frzs_str]) rfl) (.cons (same_rows W_ch (W_lim (by omega)) (by show some (D.frzs _) = _; rw [frzs_str]) rfl) (.cons (.int _) .nil)))) (n + 3)
    simp only [frz_o, frz_l, frzs_c, frzs_n, frzs_str, frz_i] at this
    exact this
  obtain ⟨e', he, d5, g5, o4, o7, o8, o9, hT5, rfl⟩ := for_range (tg := .nm 4) (b := evSs (run T wh (n + 6)) wh 1 (.cons (.set 7 (.call 9 (.cons (.var 0) (.cons (.bi .len (.cons (.var 5) .nil)) .nil)))) (.cons (.set 8 (.idx (.var 5) (.var 7))) (.cons (.set 9 (.comp (.var 10) (.nm 10) (.plain (.var 5)) (.some (.cmp .eq (.call 49 (.cons (.var 10) .nil)) (.call 49 (.cons (.var 8) .nil)))))) (.cons (.set 3 (.list (.cons (.callk 40 [0, 1] (.cons (.var 1) (.cons (.var 7) .nil))) (.cons (.callk 39 [0] (.cons (.var 8) .nil)) (.cons (.callk 41 [0] (.cons (.var 8) .nil)) (.cons (.callk 42 [0, 1, 2] (.cons (.var 1) (.cons (.call 49 (.cons (.var 8) .nil)) (.cons (.meth .index (.var 9) (.cons (.var 8) .nil)) .nil)))) (.cons (.callk 35 [0] (.cons (.var 8) .nil)) (.cons (.callk 34 [0] (.cons (.var 8) .nil)) .nil)))))))) (.cons (.ite (.not (.call 13 (.cons (.var 3) (.cons (.list (.cons (.var 8) (.cons (.var 7) (.cons (.meth .index (.var 9) (.cons (.var 8) .nil)) (.cons (.var 8) (.cons (.call 49 (.cons (.var 8) .nil)) (.cons (.lit (.bl true)) .nil))))))) .nil)))) (.cons (.ret (.lit (.bl false))) .nil) .nil) .nil)))))) (lo := 0) (n := 4) (e := [some (.own [.int a2, .int b2, .int c2]), some (.int m), some (.lst ((W m l).map D.str)), some (.lst [.lst ((rowsL m).map D.str), .lst ((W m l).map D.str), .int (chsZ m l)]), none, some (.lst ((rowsL m).map D.str)), some (.int l), none, none, none, none])
    (fun k e => ∃ d g o4 o7 o8 o9, Tin (q + 1 + 1 + k) d ∧ e = [some d, some (.int m), some (.lst ((W m l).map D.str)), some g, o4, some (.lst ((rowsL m).map D.str)), some (.int l), o7, o8, o9, none]) ⟨_, _, none, none, none, none, hT2, rfl⟩ fun j e hj ⟨d, g, o4, o7, o8, o9, hT, he⟩ => by
      subst he
      have p2 : 0 < 2 ^ m := Nat.two_pow_pos m
      have p3 : 2 ^ m ≤ 2 ^ 9 := Nat.pow_le_pow_right (n := 2) (by decide) hm
      obtain ⟨r3, d3, ht3, r30, r31, hT3⟩ := take_ok (wh := wh) (n := n + 5) t.law_take hT (by omega) (q := ((2 ^ m : Nat) : Int)) (by omega) (by omega)
      obtain ⟨a, b, c, rfl, _⟩ := hT
      obtain ⟨k, rfl⟩ : ∃ k : Nat, r3 = (k : Int) := ⟨r3.toNat, by omega⟩
      have hk : k < 2 ^ m := by omega
      obtain ⟨a3, b3, c3, rfl, hT3'⟩ := hT3
      have hT3 : Tin (q + 1 + 1 + j + 1) (.own [.int a3, .int b3, .int c3]) := ⟨a3, b3, c3, rfl, hT3'⟩
      clear hT3'
      have len : (((rowsL m).map D.str).length : Int) = ((2 ^ m : Nat) : Int) := by rw [List.length_map, rowsL_len]
      have hx : ((rowsL m).map D.str)[k]? = some (.str (rowQ m k)) := by rw [List.getElem?_map, rowsL_get hk]; rfl
      have ir : IsRow (rowQ m k) := rowQ_ok (by omega)
      obtain ⟨v1, v2, v3⟩ := rk_lt _ ir.2
      rw [rowQ_len] at v2 v3
      have hdl : hd (rowQ m k) ≤ 12 := by
        have : hd (rowQ m k) ≤ (rowQ m k).length := List.length_filter_le _ _
        rw [rowQ_len] at this
        omega
      have h9 := law_heads_ok (wh := wh) (n := n + 5) t.law_heads ir.2 (by rw [rowQ_len]; omega)
      have hc : ∀ (A B C : Option D), compM (.nm 10) (evC (run T wh (n + 6)) (.some (.cmp .eq (.call 49 (.cons (.var 10) .nil)) (.call 49 (.cons (.var 8) .nil))))) (ev (run T wh (n + 6)) (.var 10)).o ((rowsL m).map D.str) [A, some (.int m), some (.lst ((W m l).map D.str)), B, C, some (.lst ((rowsL m).map D.str)), some (.int l), some (.int k), some (.str (rowQ m k)), o9, none] = .ok (.own ((W m (hd (rowQ m k))).map D.str)) [A, some (.int m), some (.lst ((W m l).map D.str)), B, C, some (.lst ((rowsL m).map D.str)), some (.int l), some (.int k), some (.str (rowQ m k)), o9, none] := fun A B C => by
        have := compM_ok (tg := .nm 10) (c := evC (run T wh (n + 6)) (.some (.cmp .eq (.call 49 (.cons (.var 10) .nil)) (.call 49 (.cons (.var 8) .nil))))) (x := (ev (run T wh (n + 6)) (.var 10)).o) (items := (rowsL m).map D.str) (e := [A, some (.int m), some (.lst ((W m l).map D.str)), B, C, some (.lst ((rowsL m).map D.str)), some (.int l), some (.int k), some (.str (rowQ m k)), o9, none])
          (fun e => ∃ o, e = [A, some (.int m), some (.lst ((W m l).map D.str)), B, C, some (.lst ((rowsL m).map D.str)), some (.int l), some (.int k), some (.str (rowQ m k)), o9, o]) (fun d => [A, some (.int m), some (.lst ((W m l).map D.str)), B, C, some (.lst ((rowsL m).map D.str)), some (.int l), some (.int k), some (.str (rowQ m k)), o9, some d]) (isHd (hd (rowQ m k))) id ⟨none, rfl⟩ (fun d hd e' ⟨o, he⟩ => by subst he; rfl) (fun d hd => ⟨_, rfl⟩) (fun d hd => ?_) (fun d hd _ => ?_) (by rw [filt_W, List.length_map]; exact W_lim (by omega)) rfl (fun e' ⟨o, he⟩ => by subst he; rfl)
        · rw [filt_W] at this; exact this
        · obtain ⟨s, hs, rfl⟩ := List.mem_map.mp hd
          have a1 := law_heads_ok (wh := wh) (n := n + 5) t.law_heads (rowsL_mem hs).2 (by rw [(rowsL_mem hs).1]; omega)
          simp (config := { decide := true }) only [↓reduceIte, permute, quiet, still, isSem, tyIs, mtTy, D.list?, D.items, litsOnly, Sms.stores, Sm.stores, Hds.stores, Tg.slots, List.length_cons, List.length_nil, List.replicate_succ, List.replicate_zero, List.map_cons, List.map_nil, List.cons_append, List.nil_append, List.append_nil, List.getElem?_cons_zero, List.getElem?_cons_succ, List.getElem?_nil, List.set_cons_zero, List.set_cons_succ, List.set_nil, decide_true, decide_false, Bool.true_and, Bool.and_true, Bool.false_and, Bool.and_false, Bool.not_true, Bool.not_false, Bool.or_true, Bool.true_or, Bool.false_or, Bool.or_false, Option.map_some, Option.map_none, Option.bind_some, Option.bind_none, Option.isSome_some, Option.isSome_none, px_0, px_1, px_2, px_3, px_4, px_5, px_6, px_7, px_8, forGo_n, forGo_c, forK_n, forK_c, forK_b, forK_r, bt_nm, bt_tup, bt_own, bt_lst, wipeM, wipeE, restore, plainAt, List.all_cons, List.all_nil, Option.getD_some, Option.getD_none, a1, h9]
          rfl
        · obtain ⟨s, hs, rfl⟩ := List.mem_map.mp hd
          simp (config := { decide := true }) only [↓reduceIte, permute, quiet, still, isSem, tyIs, mtTy, D.list?, D.items, litsOnly, Sms.stores, Sm.stores, Hds.stores, Tg.slots, List.length_cons, List.length_nil, List.replicate_succ, List.replicate_zero, List.map_cons, List.map_nil, List.cons_append, List.nil_append, List.append_nil, List.getElem?_cons_zero, List.getElem?_cons_succ, List.getElem?_nil, List.set_cons_zero, List.set_cons_succ, List.set_nil, decide_true, decide_false, Bool.true_and, Bool.and_true, Bool.false_and, Bool.and_false, Bool.not_true, Bool.not_false, Bool.or_true, Bool.true_or, Bool.false_or, Bool.or_false, Option.map_some, Option.map_none, Option.bind_some, Option.bind_none, Option.isSome_some, Option.isSome_none, px_0, px_1, px_2, px_3, px_4, px_5, px_6, px_7, px_8, forGo_n, forGo_c, forK_n, forK_c, forK_b, forK_r, bt_nm, bt_tup, bt_own, bt_lst, wipeM, wipeE, restore, plainAt, List.all_cons, List.all_nil, Option.getD_some, Option.getD_none]
          rfl
      have k1 := row_at_ok (wh := wh) (n := n + 2) t.toTRows m k (by omega) hk
      have k2 := place_of_ok (wh := wh) (n := n + 3) t.toTRows ir
      rw [plc_rowQ m k hk] at k2
      have k3 := rank_of_ok (wh := wh) (n := n + 3) t.toTRows ir
      have k4 := row_by_rank_ok (wh := wh) (n := n + 2) t.toTRows m (hd (rowQ m k)) (rk (rowQ m k) (hd (rowQ m k))) (by omega) hdl v1 v2
      rw [v3] at k4
      have k5 := heads_ok (wh := wh) (n := n + 3) t.toTRows ir
      have k6 := is_row_ok (wh := wh) (n := n + 4) t.toTRows ir
      have ix := index_W ir.2
      rw [rowQ_len] at ix
      have sm := same_ok (wh := wh) t.law_same (k := 1) (g := .own [.str (rowQ m k), .int k, .int (rk (rowQ m k) (hd (rowQ m k))), .str (rowQ m k), .int (hd (rowQ m k)), .bl true]) (d := .own [.str (rowQ m k), .int k, .int (rk (rowQ m k) (hd (rowQ m k))), .str (rowQ m k), .int (hd (rowQ m k)), .bl true]) (same_l rfl rfl (lim_of (by simp)) (.cons (.str _ (all_ch ir.2)) (.cons (.int _) (.cons (.int _) (.cons (.str _ (all_ch ir.2)) (.cons (.int _) (.cons (.bl _) .nil))))))) (n + 4)
      simp only [frz_o, frzs_c, frzs_n, frz_s, frz_i, frz_b] at sm
      have sm : run T wh (n + 6) 13 _ = _ := sm
      have g6 : ∀ a b c d e f : D, decide (([a, b, c, d, e, f] : List D).length ≤ LIM) = true := fun a b c d e f => decide_eq_true (lim_of (by simp))
      have ht3 : run T wh (n + 6) _ _ = _ := ht3
      have h9 : run T wh (n + 6) _ _ = _ := h9
      have k1 : run T wh (n + 6) _ _ = _ := k1
      have k2 : run T wh (n + 6) _ _ = _ := k2
      have k3 : run T wh (n + 6) _ _ = _ := k3
      have k4 : run T wh (n + 6) _ _ = _ := k4
      have k5 : run T wh (n + 6) _ _ = _ := k5
      have k6 : run T wh (n + 6) _ _ = _ := k6
      refine ⟨[some (.own [.int a3, .int b3, .int c3]), some (.int m), some (.lst ((W m l).map D.str)), some (.lst [.str (rowQ m k), .int k, .int (rk (rowQ m k) (hd (rowQ m k))), .str (rowQ m k), .int (hd (rowQ m k)), .bl true]), some (.int (0 + (j : Int))), some (.lst ((rowsL m).map D.str)), some (.int l), some (.int k), some (.str (rowQ m k)), some (.lst ((W m (hd (rowQ m k))).map D.str)), none], ?_, _, _, _, _, _, _, hT3, rfl⟩
      simp (config := { decide := true }) only [↓reduceIte, permute, quiet, still, isSem, tyIs, mtTy, D.list?, D.items, litsOnly, Sms.stores, Sm.stores, Hds.stores, Tg.slots, List.length_cons, List.length_nil, List.replicate_succ, List.replicate_zero, List.map_cons, List.map_nil, List.cons_append, List.nil_append, List.append_nil, List.getElem?_cons_zero, List.getElem?_cons_succ, List.getElem?_nil, List.set_cons_zero, List.set_cons_succ, List.set_nil, decide_true, decide_false, Bool.true_and, Bool.and_true, Bool.false_and, Bool.and_false, Bool.not_true, Bool.not_false, Bool.or_true, Bool.true_or, Bool.false_or, Bool.or_false, Option.map_some, Option.map_none, Option.bind_some, Option.bind_none, Option.isSome_some, Option.isSome_none, px_0, px_1, px_2, px_3, px_4, px_5, px_6, px_7, px_8, forGo_n, forGo_c, forK_n, forK_c, forK_b, forK_r, bt_nm, bt_tup, bt_own, bt_lst, wipeM, wipeE, restore, plainAt, List.all_cons, List.all_nil, Option.getD_some, Option.getD_none, len, ht3, ix_l hx, items_lst, frzs_str, hc, k1, k2, k3, k4, k5, k6, h9, ix, g6, sm]
  have s4 : small 4 = true := rfl
  have t4 : (4 : Int).toNat = 4 := rfl
  have g3 : ∀ a b c : D, decide (([a, b, c] : List D).length ≤ LIM) = true := fun a b c => decide_eq_true (lim_of (by simp))
  have g2 : ∀ a b : D, decide (([a, b] : List D).length ≤ LIM) = true := fun a b => decide_eq_true (lim_of (by simp))
  have g5 : ∀ a b c : D, decide (([a, b, c] : List D).length ≤ LIM) = true := fun a b c => decide_eq_true (lim_of (by simp))
  have so := sort_rows m
  have er := eq_rows (L := rowsL m) rows_ch
  have p3 : 2 ^ m ≤ 2 ^ 9 := Nat.pow_le_pow_right (n := 2) (by decide) hm
  have len : (((rowsL m).map D.str).length : Int) = ((2 ^ m : Nat) : Int) := by rw [List.length_map, rowsL_len]
  have lenW : (((W m l).map D.str).length : Int) = chsZ m l := by rw [List.length_map, W_len]
  have w0 := chsZ_nn m l
  have w1 : chsZ m l ≤ 4096 := by
    have h1 := W_len m l
    have h2 : (W m l).length ≤ (rowsL m).length := List.length_filter_le _ _
    rw [rowsL_len] at h2
    omega
  have c1 := slip2 (wh := wh) (n := n) t 40 m ((2 ^ m : Nat) : Int) fun n => row_at_exc t.toTRows m (2 ^ m) (by omega) (Nat.le_refl _) (by omega)
  have c2' := slip3 (wh := wh) (n := n) t 42 m l (chsZ m l) fun n => row_by_rank_exc t.toTRows m l _ (by omega) hl (Int.le_refl _) w1
  have ht1 : run T wh (n + 6) _ _ = _ := ht1
  have ht2 : run T wh (n + 6) _ _ = _ := ht2
  have e_thr : run T wh (n + 6) _ _ = _ := e_thr
  have k1 : run T wh (n + 6) _ _ = _ := k1
  have k2 : run T wh (n + 6) _ _ = _ := k2
  have k3 : run T wh (n + 6) _ _ = _ := k3
  have k4 : run T wh (n + 6) _ _ = _ := k4
  have c1 : run T wh (n + 6) _ _ = _ := c1
  have c2' : run T wh (n + 6) _ _ = _ := c2'
  have eqc : eqSem (.own [.str [99, 97, 110, 32, 110, 111, 116], .str [99, 97, 110, 32, 110, 111, 116]]) (.own [.str [99, 97, 110, 32, 110, 111, 116], .str [99, 97, 110, 32, 110, 111, 116]]) = some true := by decide
  refine ⟨d5, ?_, hT5⟩
  obtain ⟨a5, b5, c5, rfl, _⟩ := hT5
  rw [run_s t.law_right]
  simp (config := { decide := true }) only [↓reduceIte, permute, quiet, still, isSem, tyIs, mtTy, D.list?, D.items, litsOnly, Sms.stores, Sm.stores, Hds.stores, Tg.slots, List.length_cons, List.length_nil, List.replicate_succ, List.replicate_zero, List.map_cons, List.map_nil, List.cons_append, List.nil_append, List.append_nil, List.getElem?_cons_zero, List.getElem?_cons_succ, List.getElem?_nil, List.set_cons_zero, List.set_cons_succ, List.set_nil, decide_true, decide_false, Bool.true_and, Bool.and_true, Bool.false_and, Bool.and_false, Bool.not_true, Bool.not_false, Bool.or_true, Bool.true_or, Bool.false_or, Bool.or_false, Option.map_some, Option.map_none, Option.bind_some, Option.bind_none, Option.isSome_some, Option.isSome_none, px_0, px_1, px_2, px_3, px_4, px_5, px_6, px_7, px_8, forGo_n, forGo_c, forK_n, forK_c, forK_b, forK_r, bt_nm, bt_tup, bt_own, bt_lst, wipeM, wipeE, restore, plainAt, List.all_cons, List.all_nil, Option.getD_some, Option.getD_none, d_law_right_v2, ht1, ht2, e_thr, items_lst, frzs_str, hc _ none, k1, k2, k3, k4, g3, g2, sm, so, er, s4, t4, he, len, lenW, c1, c2', eqc]
end Py.Q
end
section
namespace Py.Q
variable {T : Nat → Option Fn} {wh : M Bool → M Fl → M Fl} {n : Nat}
theorem compGo_n {tg : Tg} {c : M Bool} {x : M D} {e : Env} : compGo tg c x [] e = .ok [] e := nr rfl
theorem compGo_c {tg : Tg} {c : M Bool} {x : M D} {d : D} {r : List D} {e : Env} : compGo tg c x (d :: r) e = ((wipeM tg.slots >>= fun _ => bindTg tg d) e).bind fun _ => (c >>= fun k => if k then (x >>= fun y => (compGo tg c x r >>= fun ys => pure (y :: ys))) else compGo tg c x r) := by
  rw [compGo, bind_M, bind_M]
  show (bindTg tg d >>= fun _ => _ : M (List D)) (wipeE e tg.slots) = ((bindTg tg d (wipeE e tg.slots))).bind _
  rw [bind_M]
def compFin (tg : Tg) (e : Env) : R (List D) → R D
  | .ok xs e' => if xs.length ≤ LIM ∧ plainAt e tg.slots = true then .ok (.own xs) (restore e e' tg.slots) else .bad
  | _ => .bad
theorem compFin_ok {tg : Tg} {e e' : Env} {xs : List D} : compFin tg e (.ok xs e') = if xs.length ≤ LIM ∧ plainAt e tg.slots = true then .ok (.own xs) (restore e e' tg.slots) else .bad := nr rfl
theorem compM_eq {tg : Tg} {c : M Bool} {x : M D} {items : List D} {e : Env} : compM tg c x items e = compFin tg e (compGo tg c x items (wipeE e tg.slots)) := by
  unfold compM
  cases compGo tg c x items (wipeE e tg.slots) <;> rfl
theorem is_row_str (t : TRows T) {s : List Nat} (hl : s.length ≤ 1000) : run T wh (n + 1) 25 [.str s] = .ok (.bl (decide (s.length ≤ 12) && s.all fun c => decide (c ∈ [104, 116]))) [.str s] := by
  rw [run_s t.is_row_in]
  have hl : s.length ≤ LIM := lim_of (by omega)
  have hc : compM (.nm 1) (evC (run T wh n) .none) (ev (run T wh n) (.cmp .isIn (.var 1) (.con "SIDES" (.str [104, 116])))).o (s.map fun c => D.str [c]) [some (.str s), none] = .ok (.own ((s.map fun c => D.str [c]).map fun d => match d with
      | .str [c] => .bl (decide (c ∈ [104, 116]))
      | _ => .non)) [some (.str s), none] := by
    refine compM_map (fun e => ∃ o, e = [some (.str s), o]) (fun d => [some (.str s), some d]) _ ⟨none, rfl⟩ (fun d hd e' ⟨o, he⟩ => by subst he; rfl) (fun d hd => ⟨_, rfl⟩) (fun d hd => ?_) (by simpa using hl) rfl fun e' ⟨o, he⟩ => by subst he; rfl
    obtain ⟨c, hc, rfl⟩ := List.mem_map.mp hd
    simp (config := { decide := true }) only [↓reduceIte, permute, quiet, still, isSem, tyIs, mtTy, D.list?, D.items, litsOnly, Sms.stores, Sm.stores, Hds.stores, Tg.slots, List.length_cons, List.length_nil, List.replicate_succ, List.replicate_zero, List.map_cons, List.map_nil, List.cons_append, List.nil_append, List.append_nil, List.getElem?_cons_zero, List.getElem?_cons_succ, List.getElem?_nil, List.set_cons_zero, List.set_cons_succ, List.set_nil, decide_true, decide_false, Bool.true_and, Bool.and_true, Bool.false_and, Bool.and_false, Bool.not_true, Bool.not_false, Bool.or_true, Bool.true_or, Bool.false_or, Bool.or_false, Option.map_some, Option.map_none, Option.bind_some, Option.bind_none, Option.isSome_some, Option.isSome_none, px_0, px_1, px_2, px_3, px_4, px_5, px_6, px_7, px_8, forGo_n, forGo_c, forK_n, forK_c, forK_b, forK_r, bt_nm, bt_tup, bt_own, bt_lst, wipeM, wipeE, restore, plainAt, List.all_cons, List.all_nil, Option.getD_some, Option.getD_none, in_s]
  rw [List.map_map] at hc
  have hc : compM _ _ _ _ _ = R.ok (.own (s.map fun c => .bl (decide (c ∈ [104, 116])))) _ := hc
  have ha := all_o (l := s) fun c => decide (c ∈ [104, 116])
  by_cases h2 : (((s.length : Nat) : Int) ≤ 12)
  · have h3 : s.length ≤ 12 := by omega
    simp (config := { decide := true }) only [↓reduceIte, permute, quiet, still, isSem, tyIs, mtTy, D.list?, D.items, litsOnly, Sms.stores, Sm.stores, Hds.stores, Tg.slots, List.length_cons, List.length_nil, List.replicate_succ, List.replicate_zero, List.map_cons, List.map_nil, List.cons_append, List.nil_append, List.append_nil, List.getElem?_cons_zero, List.getElem?_cons_succ, List.getElem?_nil, List.set_cons_zero, List.set_cons_succ, List.set_nil, decide_true, decide_false, Bool.true_and, Bool.and_true, Bool.false_and, Bool.and_false, Bool.not_true, Bool.not_false, Bool.or_true, Bool.true_or, Bool.false_or, Bool.or_false, Option.map_some, Option.map_none, Option.bind_some, Option.bind_none, Option.isSome_some, Option.isSome_none, px_0, px_1, px_2, px_3, px_4, px_5, px_6, px_7, px_8, forGo_n, forGo_c, forK_n, forK_c, forK_b, forK_r, bt_nm, bt_tup, bt_own, bt_lst, wipeM, wipeE, restore, plainAt, List.all_cons, List.all_nil, Option.getD_some, Option.getD_none, d_is_row_in, len_s hl, h2, items_s, hc, ha, h3]
  · have h3 : ¬ s.length ≤ 12 := by omega
    simp (config := { decide := true }) only [↓reduceIte, permute, quiet, still, isSem, tyIs, mtTy, D.list?, D.items, litsOnly, Sms.stores, Sm.stores, Hds.stores, Tg.slots, List.length_cons, List.length_nil, List.replicate_succ, List.replicate_zero, List.map_cons, List.map_nil, List.cons_append, List.nil_append, List.append_nil, List.getElem?_cons_zero, List.getElem?_cons_succ, List.getElem?_nil, List.set_cons_zero, List.set_cons_succ, List.set_nil, decide_true, decide_false, Bool.true_and, Bool.and_true, Bool.false_and, Bool.and_false, Bool.not_true, Bool.not_false, Bool.or_true, Bool.true_or, Bool.false_or, Bool.or_false, Option.map_some, Option.map_none, Option.bind_some, Option.bind_none, Option.isSome_some, Option.isSome_none, px_0, px_1, px_2, px_3, px_4, px_5, px_6, px_7, px_8, forGo_n, forGo_c, forK_n, forK_c, forK_b, forK_r, bt_nm, bt_tup, bt_own, bt_lst, wipeM, wipeE, restore, plainAt, List.all_cons, List.all_nil, Option.getD_some, Option.getD_none, d_is_row_in, len_s hl, h2, h3]
theorem is_row_s (t : TRows T) {s : List Nat} (hl : s.length ≤ 1000) : run T wh (n + 2) 34 [.str s] = .ok (.bl (decide (s.length ≤ 12) && s.all fun c => decide (c ∈ [104, 116]))) [.str s] := by
  rw [run_s t.is_row]
  simp (config := { decide := true }) only [↓reduceIte, permute, quiet, still, isSem, tyIs, mtTy, D.list?, D.items, litsOnly, Sms.stores, Sm.stores, Hds.stores, Tg.slots, List.length_cons, List.length_nil, List.replicate_succ, List.replicate_zero, List.map_cons, List.map_nil, List.cons_append, List.nil_append, List.append_nil, List.getElem?_cons_zero, List.getElem?_cons_succ, List.getElem?_nil, List.set_cons_zero, List.set_cons_succ, List.set_nil, decide_true, decide_false, Bool.true_and, Bool.and_true, Bool.false_and, Bool.and_false, Bool.not_true, Bool.not_false, Bool.or_true, Bool.true_or, Bool.false_or, Bool.or_false, Option.map_some, Option.map_none, Option.bind_some, Option.bind_none, Option.isSome_some, Option.isSome_none, px_0, px_1, px_2, px_3, px_4, px_5, px_6, px_7, px_8, forGo_n, forGo_c, forK_n, forK_c, forK_b, forK_r, bt_nm, bt_tup, bt_own, bt_lst, wipeM, wipeE, restore, plainAt, List.all_cons, List.all_nil, Option.getD_some, Option.getD_none, d_is_row, is_row_str t hl]
theorem is_row_n (t : TRows T) : run T wh (n + 2) 34 [.non] = .ok (.bl false) [.non] := by
  rw [run_s t.is_row]
  have : ∀ n, run T wh (n + 1) 25 [.non] = .ok (.bl false) [.non] := fun n => by rw [run_s t.is_row_in]; simp (config := { decide := true }) only [↓reduceIte, permute, quiet, still, isSem, tyIs, mtTy, D.list?, D.items, litsOnly, Sms.stores, Sm.stores, Hds.stores, Tg.slots, List.length_cons, List.length_nil, List.replicate_succ, List.replicate_zero, List.map_cons, List.map_nil, List.cons_append, List.nil_append, List.append_nil, List.getElem?_cons_zero, List.getElem?_cons_succ, List.getElem?_nil, List.set_cons_zero, List.set_cons_succ, List.set_nil, decide_true, decide_false, Bool.true_and, Bool.and_true, Bool.false_and, Bool.and_false, Bool.not_true, Bool.not_false, Bool.or_true, Bool.true_or, Bool.false_or, Bool.or_false, Option.map_some, Option.map_none, Option.bind_some, Option.bind_none, Option.isSome_some, Option.isSome_none, px_0, px_1, px_2, px_3, px_4, px_5, px_6, px_7, px_8, forGo_n, forGo_c, forK_n, forK_c, forK_b, forK_r, bt_nm, bt_tup, bt_own, bt_lst, wipeM, wipeE, restore, plainAt, List.all_cons, List.all_nil, Option.getD_some, Option.getD_none, d_is_row_in]
  simp (config := { decide := true }) only [↓reduceIte, permute, quiet, still, isSem, tyIs, mtTy, D.list?, D.items, litsOnly, Sms.stores, Sm.stores, Hds.stores, Tg.slots, List.length_cons, List.length_nil, List.replicate_succ, List.replicate_zero, List.map_cons, List.map_nil, List.cons_append, List.nil_append, List.append_nil, List.getElem?_cons_zero, List.getElem?_cons_succ, List.getElem?_nil, List.set_cons_zero, List.set_cons_succ, List.set_nil, decide_true, decide_false, Bool.true_and, Bool.and_true, Bool.false_and, Bool.and_false, Bool.not_true, Bool.not_false, Bool.or_true, Bool.true_or, Bool.false_or, Bool.or_false, Option.map_some, Option.map_none, Option.bind_some, Option.bind_none, Option.isSome_some, Option.isSome_none, px_0, px_1, px_2, px_3, px_4, px_5, px_6, px_7, px_8, forGo_n, forGo_c, forK_n, forK_c, forK_b, forK_r, bt_nm, bt_tup, bt_own, bt_lst, wipeM, wipeE, restore, plainAt, List.all_cons, List.all_nil, Option.getD_some, Option.getD_none, d_is_row, this]
theorem is_row_i (t : TRows T) (i : Int) : run T wh (n + 2) 34 [.int i] = .ok (.bl false) [.int i] := by
  rw [run_s t.is_row]
  have : ∀ n, run T wh (n + 1) 25 [.int i] = .ok (.bl false) [.int i] := fun n => by rw [run_s t.is_row_in]; simp (config := { decide := true }) only [↓reduceIte, permute, quiet, still, isSem, tyIs, mtTy, D.list?, D.items, litsOnly, Sms.stores, Sm.stores, Hds.stores, Tg.slots, List.length_cons, List.length_nil, List.replicate_succ, List.replicate_zero, List.map_cons, List.map_nil, List.cons_append, List.nil_append, List.append_nil, List.getElem?_cons_zero, List.getElem?_cons_succ, List.getElem?_nil, List.set_cons_zero, List.set_cons_succ, List.set_nil, decide_true, decide_false, Bool.true_and, Bool.and_true, Bool.false_and, Bool.and_false, Bool.not_true, Bool.not_false, Bool.or_true, Bool.true_or, Bool.false_or, Bool.or_false, Option.map_some, Option.map_none, Option.bind_some, Option.bind_none, Option.isSome_some, Option.isSome_none, px_0, px_1, px_2, px_3, px_4, px_5, px_6, px_7, px_8, forGo_n, forGo_c, forK_n, forK_c, forK_b, forK_r, bt_nm, bt_tup, bt_own, bt_lst, wipeM, wipeE, restore, plainAt, List.all_cons, List.all_nil, Option.getD_some, Option.getD_none, d_is_row_in]
  simp (config := { decide := true }) only [↓reduceIte, permute, quiet, still, isSem, tyIs, mtTy, D.list?, D.items, litsOnly, Sms.stores, Sm.stores, Hds.stores, Tg.slots, List.length_cons, List.length_nil, List.replicate_succ, List.replicate_zero, List.map_cons, List.map_nil, List.cons_append, List.nil_append, List.append_nil, List.getElem?_cons_zero, List.getElem?_cons_succ, List.getElem?_nil, List.set_cons_zero, List.set_cons_succ, List.set_nil, decide_true, decide_false, Bool.true_and, Bool.and_true, Bool.false_and, Bool.and_false, Bool.not_true, Bool.not_false, Bool.or_true, Bool.true_or, Bool.false_or, Bool.or_false, Option.map_some, Option.map_none, Option.bind_some, Option.bind_none, Option.isSome_some, Option.isSome_none, px_0, px_1, px_2, px_3, px_4, px_5, px_6, px_7, px_8, forGo_n, forGo_c, forK_n, forK_c, forK_b, forK_r, bt_nm, bt_tup, bt_own, bt_lst, wipeM, wipeE, restore, plainAt, List.all_cons, List.all_nil, Option.getD_some, Option.getD_none, d_is_row, this]
theorem is_row_t (t : TRows T) (s : List Nat) : run T wh (n + 2) 34 [.tup [.str s]] = .ok (.bl false) [.tup [.str s]] := by
  rw [run_s t.is_row]
  have : ∀ n, run T wh (n + 1) 25 [.tup [.str s]] = .ok (.bl false) [.tup [.str s]] := fun n => by rw [run_s t.is_row_in]; simp (config := { decide := true }) only [↓reduceIte, permute, quiet, still, isSem, tyIs, mtTy, D.list?, D.items, litsOnly, Sms.stores, Sm.stores, Hds.stores, Tg.slots, List.length_cons, List.length_nil, List.replicate_succ, List.replicate_zero, List.map_cons, List.map_nil, List.cons_append, List.nil_append, List.append_nil, List.getElem?_cons_zero, List.getElem?_cons_succ, List.getElem?_nil, List.set_cons_zero, List.set_cons_succ, List.set_nil, decide_true, decide_false, Bool.true_and, Bool.and_true, Bool.false_and, Bool.and_false, Bool.not_true, Bool.not_false, Bool.or_true, Bool.true_or, Bool.false_or, Bool.or_false, Option.map_some, Option.map_none, Option.bind_some, Option.bind_none, Option.isSome_some, Option.isSome_none, px_0, px_1, px_2, px_3, px_4, px_5, px_6, px_7, px_8, forGo_n, forGo_c, forK_n, forK_c, forK_b, forK_r, bt_nm, bt_tup, bt_own, bt_lst, wipeM, wipeE, restore, plainAt, List.all_cons, List.all_nil, Option.getD_some, Option.getD_none, d_is_row_in]
  simp (config := { decide := true }) only [↓reduceIte, permute, quiet, still, isSem, tyIs, mtTy, D.list?, D.items, litsOnly, Sms.stores, Sm.stores, Hds.stores, Tg.slots, List.length_cons, List.length_nil, List.replicate_succ, List.replicate_zero, List.map_cons, List.map_nil, List.cons_append, List.nil_append, List.append_nil, List.getElem?_cons_zero, List.getElem?_cons_succ, List.getElem?_nil, List.set_cons_zero, List.set_cons_succ, List.set_nil, decide_true, decide_false, Bool.true_and, Bool.and_true, Bool.false_and, Bool.and_false, Bool.not_true, Bool.not_false, Bool.or_true, Bool.true_or, Bool.false_or, Bool.or_false, Option.map_some, Option.map_none, Option.bind_some, Option.bind_none, Option.isSome_some, Option.isSome_none, px_0, px_1, px_2, px_3, px_4, px_5, px_6, px_7, px_8, forGo_n, forGo_c, forK_n, forK_c, forK_b, forK_r, bt_nm, bt_tup, bt_own, bt_lst, wipeM, wipeE, restore, plainAt, List.all_cons, List.all_nil, Option.getD_some, Option.getD_none, d_is_row, this]
theorem is_row_l (t : TRows T) (ds : List D) : run T wh (n + 2) 34 [.lst ds] = .ok (.bl false) [.lst ds] := by
  rw [run_s t.is_row]
  have : ∀ n, run T wh (n + 1) 25 [.lst ds] = .ok (.bl false) [.lst ds] := fun n => by rw [run_s t.is_row_in]; simp (config := { decide := true }) only [↓reduceIte, permute, quiet, still, isSem, tyIs, mtTy, D.list?, D.items, litsOnly, Sms.stores, Sm.stores, Hds.stores, Tg.slots, List.length_cons, List.length_nil, List.replicate_succ, List.replicate_zero, List.map_cons, List.map_nil, List.cons_append, List.nil_append, List.append_nil, List.getElem?_cons_zero, List.getElem?_cons_succ, List.getElem?_nil, List.set_cons_zero, List.set_cons_succ, List.set_nil, decide_true, decide_false, Bool.true_and, Bool.and_true, Bool.false_and, Bool.and_false, Bool.not_true, Bool.not_false, Bool.or_true, Bool.true_or, Bool.false_or, Bool.or_false, Option.map_some, Option.map_none, Option.bind_some, Option.bind_none, Option.isSome_some, Option.isSome_none, px_0, px_1, px_2, px_3, px_4, px_5, px_6, px_7, px_8, forGo_n, forGo_c, forK_n, forK_c, forK_b, forK_r, bt_nm, bt_tup, bt_own, bt_lst, wipeM, wipeE, restore, plainAt, List.all_cons, List.all_nil, Option.getD_some, Option.getD_none, d_is_row_in]
  simp (config := { decide := true }) only [↓reduceIte, permute, quiet, still, isSem, tyIs, mtTy, D.list?, D.items, litsOnly, Sms.stores, Sm.stores, Hds.stores, Tg.slots, List.length_cons, List.length_nil, List.replicate_succ, List.replicate_zero, List.map_cons, List.map_nil, List.cons_append, List.nil_append, List.append_nil, List.getElem?_cons_zero, List.getElem?_cons_succ, List.getElem?_nil, List.set_cons_zero, List.set_cons_succ, List.set_nil, decide_true, decide_false, Bool.true_and, Bool.and_true, Bool.false_and, Bool.and_false, Bool.not_true, Bool.not_false, Bool.or_true, Bool.true_or, Bool.false_or, Bool.or_false, Option.map_some, Option.map_none, Option.bind_some, Option.bind_none, Option.isSome_some, Option.isSome_none, px_0, px_1, px_2, px_3, px_4, px_5, px_6, px_7, px_8, forGo_n, forGo_c, forK_n, forK_c, forK_b, forK_r, bt_nm, bt_tup, bt_own, bt_lst, wipeM, wipeE, restore, plainAt, List.all_cons, List.all_nil, Option.getD_some, Option.getD_none, d_is_row, this]
theorem law_ok (t : TLaw T) {ns : List Int} (hl : ns.length ≤ 63) : ∃ ds, run T wh (n + 9) 51 [.scr ns] = .ok (.bl true) ds := by
  obtain ⟨c, hcells⟩ := cells_ok (wh := wh) (n := n + 7) t.law_cells hl
  obtain ⟨d0, ds0, hbox, hT0⟩ := box_ok (wh := wh) (n := n + 7) t.law_box c
  obtain ⟨d1, hr1, hT1⟩ := right_ok (wh := wh) (n := n + 1) t hT0 (by omega)
  obtain ⟨d2, hr2, hT2⟩ := right_ok (wh := wh) (n := n + 1) t hT1 (by omega)
  obtain ⟨d3, hr3, hT3⟩ := right_ok (wh := wh) (n := n + 1) t hT2 (by omega)
  obtain ⟨a0, b0, c0, rfl, _⟩ := hT0
  obtain ⟨a1, b1, c1, rfl, _⟩ := hT1
  obtain ⟨a2, b2, c2, rfl, _⟩ := hT2
  have r3 : rangeD 0 1 3 = [.int 0, .int 1, .int 2] := rfl
  have s3 : small 3 = true := rfl
  have t3 : (3 : Int).toNat = 3 := rfl
  have s4 : small 4 = true := rfl
  have t4 : (4 : Int).toNat = 4 := rfl
  have l3 : ∀ a b c : D, ([a, b, c] : List D).length ≤ LIM := fun a b c => lim_of (by simp)
  have al3 : bi1 .all (.own [.bl true, .bl true, .bl true]) = some (.bl true) := by rfl
  have hgb : ∀ {x y : D} {ds : List D} {e : Env}, giveBack [.val x, .val y] ds e = e := fun {x y ds e} => by
    cases ds with
    | nil => rfl
    | cons a r => exact gb1
  obtain ⟨e', he, d4, o2, o5, o6, hT4, rfl, ho⟩ := for_range (tg := .nm 2) (b := evSs (run T wh (n + 8)) wh 1 (.cons (.set 5 (.call 9 (.cons (.var 1) (.cons (.lit (.int 4096)) .nil)))) (.cons (.set 6 (.call 40 (.cons (.lit (.int 12)) (.cons (.var 5) .nil)))) (.cons (.ite (.or (.not (.isi (.var 6) [.str])) (.or (.cmp .ne (.bi .len (.cons (.var 6) .nil)) (.lit (.int 12))) (.or (.cmp .ne (.call 39 (.cons (.var 6) .nil)) (.var 5)) (.or (.cmp .ne (.call 42 (.cons (.lit (.int 12)) (.cons (.call 35 (.cons (.var 6) .nil)) (.cons (.call 41 (.cons (.var 6) .nil)) .nil)))) (.var 6)) (.cmp .ge (.call 41 (.cons (.var 6) .nil)) (.call 47 (.cons (.lit (.int 12)) (.cons (.call 49 (.cons (.var 6) .nil)) .nil)))))))) (.cons (.ret (.lit (.bl false))) .nil) .nil) .nil)))) (lo := 0) (n := 4) (e := [some (.scr ns), some d3, none, none, none, none, none])
    (fun k e => ∃ d o2 o5 o6, Tin (0 + 6 + 6 + 6 + k) d ∧ e = [some (.scr ns), some d, o2, none, none, o5, o6] ∧ (k = 0 ∨ ∃ i s, o5 = some (.int i) ∧ o6 = some (.str s))) ⟨_, _, _, _, hT3, rfl, .inl rfl⟩ fun j e hj ⟨d, o2, o5, o6, hT, he, _⟩ => by
      subst he
      obtain ⟨r, d', ht, r0, r1, hT'⟩ := take_ok (wh := wh) (n := n + 7) t.law_take hT (by omega) (q := 4096) (by decide) (by decide)
      obtain ⟨a, b, c, rfl, _⟩ := hT
      obtain ⟨k, rfl⟩ : ∃ k : Nat, r = (k : Int) := ⟨r.toNat, by omega⟩
      have hk : k < 2 ^ 12 := by omega
      have ir : IsRow (rowQ 12 k) := rowQ_ok (by omega)
      obtain ⟨v1, v2, v3⟩ := rk_lt _ ir.2
      rw [rowQ_len] at v2 v3
      have hdl : hd (rowQ 12 k) ≤ 12 := by
        have : hd (rowQ 12 k) ≤ (rowQ 12 k).length := List.length_filter_le _ _
        rw [rowQ_len] at this
        omega
      have k1 := row_at_ok (wh := wh) (n := n + 4) t.toTRows 12 k (by omega) hk
      have k2 := place_of_ok (wh := wh) (n := n + 5) t.toTRows ir
      rw [plc_rowQ 12 k hk] at k2
      have k3 := rank_of_ok (wh := wh) (n := n + 5) t.toTRows ir
      have k4 := row_by_rank_ok (wh := wh) (n := n + 4) t.toTRows 12 (hd (rowQ 12 k)) (rk (rowQ 12 k) (hd (rowQ 12 k))) (by omega) hdl v1 v2
      rw [v3] at k4
      have k5 := heads_ok (wh := wh) (n := n + 5) t.toTRows ir
      have k6 := choose_ok (wh := wh) (n := n + 7) t.law_choose 12 (hd (rowQ 12 k)) (by omega)
      have k7 := law_heads_ok (wh := wh) (n := n + 7) t.law_heads ir.2 (by rw [rowQ_len]; omega)
      have k1 : run T wh (n + 8) 40 [.int 12, .int k] = _ := k1
      have k2 : run T wh (n + 8) _ _ = _ := k2
      have k3 : run T wh (n + 8) _ _ = _ := k3
      have k4 : run T wh (n + 8) 42 [.int 12, _, _] = _ := k4
      have k5 : run T wh (n + 8) _ _ = _ := k5
      have k6 : run T wh (n + 8) 47 [.int 12, _] = FR.ok (.int (chsZ 12 _)) _ := k6
      have k7 : run T wh (n + 8) _ _ = _ := k7
      have ht : run T wh (n + 8) _ _ = _ := ht
      have se := same_eq_s (all_ch ir.2)
      have ll : (rowQ 12 k).length ≤ LIM := lim_of (by rw [rowQ_len]; omega)
      have l12 : (((rowQ 12 k).length : Int) == 12) = true := by rw [rowQ_len]; rfl
      have kk : ((k : Int) == (k : Int)) = true := beq_self_eq_true _
      have lt : ¬ (chsZ 12 (hd (rowQ 12 k)) ≤ rk (rowQ 12 k) (hd (rowQ 12 k))) := by
        have : rk (rowQ 12 k) (hd (rowQ 12 k)) < chsZ 12 (hd (rowQ 12 k)) := v2
        omega
      obtain ⟨a', b', c', rfl, hT''⟩ := hT'
      refine ⟨[some (.scr ns), some (.own [.int a', .int b', .int c']), some (.int (0 + (j : Int))), none, none, some (.int k), some (.str (rowQ 12 k))], ?_, _, _, _, _, ⟨a', b', c', rfl, hT''⟩, rfl, .inr ⟨_, _, rfl, rfl⟩⟩
      simp (config := { decide := true }) only [↓reduceIte, permute, quiet, still, isSem, tyIs, mtTy, D.list?, D.items, litsOnly, Sms.stores, Sm.stores, Hds.stores, Tg.slots, List.length_cons, List.length_nil, List.replicate_succ, List.replicate_zero, List.map_cons, List.map_nil, List.cons_append, List.nil_append, List.append_nil, List.getElem?_cons_zero, List.getElem?_cons_succ, List.getElem?_nil, List.set_cons_zero, List.set_cons_succ, List.set_nil, decide_true, decide_false, Bool.true_and, Bool.and_true, Bool.false_and, Bool.and_false, Bool.not_true, Bool.not_false, Bool.or_true, Bool.true_or, Bool.false_or, Bool.or_false, Option.map_some, Option.map_none, Option.bind_some, Option.bind_none, Option.isSome_some, Option.isSome_none, px_0, px_1, px_2, px_3, px_4, px_5, px_6, px_7, px_8, forGo_n, forGo_c, forK_n, forK_c, forK_b, forK_r, bt_nm, bt_tup, bt_own, bt_lst, wipeM, wipeE, restore, plainAt, List.all_cons, List.all_nil, Option.getD_some, Option.getD_none, ht, k1, k2, k3, k4, k5, k6, k7, se, len_s ll, l12, kk, lt]
  -- the sums
  obtain ⟨i5, s6, rfl, rfl⟩ := ho.resolve_left (by decide)
  obtain ⟨a3, b3, c3, rfl, _⟩ := hT3
  obtain ⟨a4, b4, c4, rfl, _⟩ := hT4
  have h924 : run T wh (n + 8) 38 [.int 12, .int 6] = .ok (.int 924) [.int 12, .int 6] := how_many_rows_ok (wh := wh) (n := n + 4) t.toTRows 12 6 (by omega) (by omega)
  have hs : ∀ B : Option D, compM (.nm 5) (evC (run T wh (n + 8)) .none) (ev (run T wh (n + 8)) (.call 38 (.cons (.lit (.int 11)) (.cons (.var 5) .nil)))).o (rangeD 0 1 13) [some (.scr ns), some (.own [.int a4, .int b4, .int c4]), B, none, none, some (.int i5), some (.str s6)] = .ok (.own ((rangeD 0 1 13).map fun d => match d with
      | .int p => .int (chsZ 11 p)
      | _ => .non)) [some (.scr ns), some (.own [.int a4, .int b4, .int c4]), B, none, none, some (.int i5), some (.str s6)] := fun B => by
    refine compM_map (fun e => ∃ o, e = [some (.scr ns), some (.own [.int a4, .int b4, .int c4]), B, none, none, o, some (.str s6)]) (fun d => [some (.scr ns), some (.own [.int a4, .int b4, .int c4]), B, none, none, some d, some (.str s6)]) _ ⟨none, rfl⟩ (fun d hd e' ⟨o, he⟩ => by subst he; rfl) (fun d hd => ⟨_, rfl⟩) (fun d hd => ?_) (by rw [range_len]; exact lim_of (by decide)) rfl fun e' ⟨o, he⟩ => by subst he; rfl
    obtain ⟨j, hj⟩ := List.mem_iff_getElem?.mp hd
    obtain ⟨h1, rfl⟩ := range_get hj
    have e0 : (0 : Int) + (j : Int) = (j : Int) := by omega
    rw [e0]
    have k1 : run T wh (n + 8) 38 [.int 11, .int j] = .ok (.int (chsZ 11 j)) [.int 11, .int j] := how_many_rows_ok (wh := wh) (n := n + 4) t.toTRows 11 j (by omega) (by omega)
    simp (config := { decide := true }) only [↓reduceIte, permute, quiet, still, isSem, tyIs, mtTy, D.list?, D.items, litsOnly, Sms.stores, Sm.stores, Hds.stores, Tg.slots, List.length_cons, List.length_nil, List.replicate_succ, List.replicate_zero, List.map_cons, List.map_nil, List.cons_append, List.nil_append, List.append_nil, List.getElem?_cons_zero, List.getElem?_cons_succ, List.getElem?_nil, List.set_cons_zero, List.set_cons_succ, List.set_nil, decide_true, decide_false, Bool.true_and, Bool.and_true, Bool.false_and, Bool.and_false, Bool.not_true, Bool.not_false, Bool.or_true, Bool.true_or, Bool.false_or, Bool.or_false, Option.map_some, Option.map_none, Option.bind_some, Option.bind_none, Option.isSome_some, Option.isSome_none, px_0, px_1, px_2, px_3, px_4, px_5, px_6, px_7, px_8, forGo_n, forGo_c, forK_n, forK_c, forK_b, forK_r, bt_nm, bt_tup, bt_own, bt_lst, wipeM, wipeE, restore, plainAt, List.all_cons, List.all_nil, Option.getD_some, Option.getD_none, k1]
  have sums : bi1 .sum (.own ((rangeD 0 1 13).map fun d => match d with
      | .int p => .int (chsZ 11 p)
      | _ => .non)) = some (.int 2048) := by rfl
  have s13 : small 13 = true := rfl
  have t13 : (13 : Int).toNat = 13 := rfl
  have e924 : ((924 : Int) == 924) = true := rfl
  have e2048 : ((2048 : Int) == 2048) = true := rfl
  -- what is no row
  have m13 : binSem .mul (.str [104]) (.int 13) = some (.str [104, 104, 104, 104, 104, 104, 104, 104, 104, 104, 104, 104, 104]) := by rfl
  have m12 : binSem .mul (.str [104]) (.int 12) = some (.str [104, 104, 104, 104, 104, 104, 104, 104, 104, 104, 104, 104]) := by rfl
  have m8 : binSem .mul (.lst [.bl false]) (.int 8) = some (.own [.bl false, .bl false, .bl false, .bl false, .bl false, .bl false, .bl false, .bl false]) := by rfl
  have b1 : run T wh (n + 8) 34 [.non] = _ := is_row_n (n := n + 6) t.toTRows
  have b2 : run T wh (n + 8) 34 [.int 1] = _ := is_row_i (n := n + 6) t.toTRows 1
  have b3' : run T wh (n + 8) 34 [.str [104, 84]] = .ok (.bl false) [.str [104, 84]] := is_row_s (n := n + 6) t.toTRows (by decide)
  have b4' : run T wh (n + 8) 34 [.str [104, 32, 116]] = .ok (.bl false) [.str [104, 32, 116]] := is_row_s (n := n + 6) t.toTRows (by decide)
  have b5 : run T wh (n + 8) 34 [.str [120]] = .ok (.bl false) [.str [120]] := is_row_s (n := n + 6) t.toTRows (by decide)
  have b6 : run T wh (n + 8) 34 [.tup [.str [104]]] = _ := is_row_t (n := n + 6) t.toTRows [104]
  have b7 : run T wh (n + 8) 34 [.str [104, 104, 104, 104, 104, 104, 104, 104, 104, 104, 104, 104, 104]] = .ok (.bl false) [.str [104, 104, 104, 104, 104, 104, 104, 104, 104, 104, 104, 104, 104]] := is_row_s (n := n + 6) t.toTRows (by decide)
  have b8 : run T wh (n + 8) 34 [.lst [.str [104]]] = _ := is_row_l (n := n + 6) t.toTRows [.str [104]]
  have b9 : run T wh (n + 8) 34 [.str []] = .ok (.bl true) [.str []] := is_row_s (n := n + 6) t.toTRows (by decide)
  have b10 : run T wh (n + 8) 34 [.str [104, 104, 104, 104, 104, 104, 104, 104, 104, 104, 104, 104]] = .ok (.bl true) [.str [104, 104, 104, 104, 104, 104, 104, 104, 104, 104, 104, 104]] := is_row_s (n := n + 6) t.toTRows (by decide)
  have b11 : run T wh (n + 8) 36 [.int 2] = .ok (.own [.str [104, 104], .str [104, 116], .str [116, 104], .str [116, 116]]) [.int 2] := all_rows_ok (n := n + 4) t.toTRows 2 (by decide)
  have b12 : run T wh (n + 8) 37 [.int 3, .int 1] = .ok (.own [.str [104, 116, 116], .str [116, 104, 116], .str [116, 116, 104]]) [.int 3, .int 1] := rows_with_ok (n := n + 4) t.toTRows 3 1 (by decide) (by decide)
  have b13 : run T wh (n + 8) 39 [.str [116, 104]] = .ok (.int 2) [.str [116, 104]] := place_of_ok (n := n + 5) t.toTRows ⟨by decide, by decide⟩
  have b14 : run T wh (n + 8) 40 [.int 3, .int 6] = .ok (.str [116, 116, 104]) [.int 3, .int 6] := row_at_ok (n := n + 4) t.toTRows 3 6 (by decide) (by decide)
  have b15 : run T wh (n + 8) 41 [.str [116, 116, 104]] = .ok (.int 2) [.str [116, 116, 104]] := rank_of_ok (n := n + 5) t.toTRows ⟨by decide, by decide⟩
  have b16 : run T wh (n + 8) 42 [.int 4, .int 2, .int 3] = .ok (.str [116, 104, 104, 116]) [.int 4, .int 2, .int 3] := row_by_rank_ok (n := n + 4) t.toTRows 4 2 3 (by decide) (by decide) (by decide) (by decide)
  have glim : ∀ k : Nat, k ≤ 100 → k ≤ LIM := fun k h => lim_of (by omega)
  have l1 := decide_eq_true (glim 1 (by decide))
  have l3' := decide_eq_true (glim 3 (by decide))
  have l4 := decide_eq_true (glim 4 (by decide))
  have l8 := decide_eq_true (glim 8 (by decide))
  have l8' := glim 8 (by decide)
  have ad : binSem .add (.lst [.bl false, .bl false, .bl false, .bl false, .bl false, .bl false, .bl false, .bl false]) (.lst [.bl true, .bl true, .lst [.str [104, 104], .str [104, 116], .str [116, 104], .str [116, 116]], .lst [.str [104, 116, 116], .str [116, 104, 116], .str [116, 116, 104]], .int 2, .str [116, 116, 104], .int 2, .str [116, 104, 104, 116]]) = some (.own [.bl false, .bl false, .bl false, .bl false, .bl false, .bl false, .bl false, .bl false, .bl true, .bl true, .lst [.str [104, 104], .str [104, 116], .str [116, 104], .str [116, 116]], .lst [.str [104, 116, 116], .str [116, 104, 116], .str [116, 116, 104]], .int 2, .str [116, 116, 104], .int 2, .str [116, 104, 104, 116]]) := by rfl
  have sm := same_ok (wh := wh) t.law_same (k := 2) (g := .own [.bl false, .bl false, .bl false, .bl false, .bl false, .bl false, .bl false, .bl false, .bl true, .bl true, .lst [.str [104, 104], .str [104, 116], .str [116, 104], .str [116, 116]], .lst [.str [104, 116, 116], .str [116, 104, 116], .str [116, 116, 104]], .int 2, .str [116, 116, 104], .int 2, .str [116, 104, 104, 116]]) (d := .own [.bl false, .bl false, .bl false, .bl false, .bl false, .bl false, .bl false, .bl false, .bl true, .bl true, .lst [.str [104, 104], .str [104, 116], .str [116, 104], .str [116, 116]], .lst [.str [104, 116, 116], .str [116, 104, 116], .str [116, 116, 104]], .int 2, .str [116, 116, 104], .int 2, .str [116, 104, 104, 116]])
    (same_l rfl rfl (lim_of (by simp)) (.cons (.bl _) (.cons (.bl _) (.cons (.bl _) (.cons (.bl _) (.cons (.bl _) (.cons (.bl _) (.cons (.bl _) (.cons (.bl _) (.cons (.bl _) (.cons (.bl _)
      (.cons (same_l rfl rfl (lim_of (by simp)) (.cons (.str _ (by decide)) (.cons (.str _ (by decide)) (.cons (.str _ (by decide)) (.cons (.str _ (by decide)) .nil)))))
      (.cons (same_l rfl rfl (lim_of (by simp)) (.cons (.str _ (by decide)) (.cons (.str _ (by decide)) (.cons (.str _ (by decide)) .nil))))
      (.cons (.int _) (.cons (.str _ (by decide)) (.cons (.int _) (.cons (.str _ (by decide)) .nil))))))))))))))))) (n + 5)
  have sm : run T wh (n + 8) 13 _ = _ := sm
  refine ⟨[.scr ns], ?_⟩
  have hcells : run T wh (n + 8) _ _ = _ := hcells
  have hbox : run T wh (n + 8) _ _ = _ := hbox
  have hr1 : run T wh (n + 8) _ _ = _ := hr1
  have hr2 : run T wh (n + 8) _ _ = _ := hr2
  have hr3 : run T wh (n + 8) _ _ = _ := hr3
  rw [run_s t.law]
  simp (config := { decide := true }) only [↓reduceIte, permute, quiet, still, isSem, tyIs, mtTy, D.list?, D.items, litsOnly, Sms.stores, Sm.stores, Hds.stores, Tg.slots, List.length_cons, List.length_nil, List.replicate_succ, List.replicate_zero, List.map_cons, List.map_nil, List.cons_append, List.nil_append, List.append_nil, List.getElem?_cons_zero, List.getElem?_cons_succ, List.getElem?_nil, List.set_cons_zero, List.set_cons_succ, List.set_nil, decide_true, decide_false, Bool.true_and, Bool.and_true, Bool.false_and, Bool.and_false, Bool.not_true, Bool.not_false, Bool.or_true, Bool.true_or, Bool.false_or, Bool.or_false, Option.map_some, Option.map_none, Option.bind_some, Option.bind_none, Option.isSome_some, Option.isSome_none, px_0, px_1, px_2, px_3, px_4, px_5, px_6, px_7, px_8, forGo_n, forGo_c, forK_n, forK_c, forK_b, forK_r, bt_nm, bt_tup, bt_own, bt_lst, wipeM, wipeE, restore, plainAt, List.all_cons, List.all_nil, Option.getD_some, Option.getD_none, d_law_v2, hcells, hbox, hgb, s3, t3, r3, compM_eq, compGo_c, compGo_n, compFin_ok, hr1, hr2, hr3, l3, al3, s4, t4, he]
  simp (config := { decide := true }) only [↓reduceIte, permute, quiet, still, isSem, tyIs, mtTy, D.list?, D.items, litsOnly, Sms.stores, Sm.stores, Hds.stores, Tg.slots, List.length_cons, List.length_nil, List.replicate_succ, List.replicate_zero, List.map_cons, List.map_nil, List.cons_append, List.nil_append, List.append_nil, List.getElem?_cons_zero, List.getElem?_cons_succ, List.getElem?_nil, List.set_cons_zero, List.set_cons_succ, List.set_nil, decide_true, decide_false, Bool.true_and, Bool.and_true, Bool.false_and, Bool.and_false, Bool.not_true, Bool.not_false, Bool.or_true, Bool.true_or, Bool.false_or, Bool.or_false, Option.map_some, Option.map_none, Option.bind_some, Option.bind_none, Option.isSome_some, Option.isSome_none, px_0, px_1, px_2, px_3, px_4, px_5, px_6, px_7, px_8, forGo_n, forGo_c, forK_n, forK_c, forK_b, forK_r, bt_nm, bt_tup, bt_own, bt_lst, wipeM, wipeE, restore, plainAt, List.all_cons, List.all_nil, Option.getD_some, Option.getD_none, h924, e924, s13, t13, hs, sums, e2048]
  simp (config := { decide := true }) only [↓reduceIte, permute, quiet, still, isSem, tyIs, mtTy, D.list?, D.items, litsOnly, Sms.stores, Sm.stores, Hds.stores, Tg.slots, List.length_cons, List.length_nil, List.replicate_succ, List.replicate_zero, List.map_cons, List.map_nil, List.cons_append, List.nil_append, List.append_nil, List.getElem?_cons_zero, List.getElem?_cons_succ, List.getElem?_nil, List.set_cons_zero, List.set_cons_succ, List.set_nil, decide_true, decide_false, Bool.true_and, Bool.and_true, Bool.false_and, Bool.and_false, Bool.not_true, Bool.not_false, Bool.or_true, Bool.true_or, Bool.false_or, Bool.or_false, Option.map_some, Option.map_none, Option.bind_some, Option.bind_none, Option.isSome_some, Option.isSome_none, px_0, px_1, px_2, px_3, px_4, px_5, px_6, px_7, px_8, forGo_n, forGo_c, forK_n, forK_c, forK_b, forK_r, bt_nm, bt_tup, bt_own, bt_lst, wipeM, wipeE, restore, plainAt, List.all_cons, List.all_nil, Option.getD_some, Option.getD_none, m13, m12, m8, l8, l8', l1, l3', l4, glim, items_own, items_lst, compM_eq, compGo_c, compGo_n, compFin_ok, b1, b2, b3', b4', b5, b6, b7, b8, b9, b10, b11, b12, b13, b14, b15, b16, ad, sm, frz_n]
end Py.Q
end
namespace Py.Q
def top (i : Nat) : PySem.Stmt := PySem.Challenge.pw_coinsmade_k01_main_rows_in_order.main.body.getD i (.Pass ⟨0, 0, 0, 0⟩)
def cons : List (PySem.Str × D) := [("MOST_THROWS", (.int 12)), ("MOST_PLACE", (.int 4096)), ("SIDES", (.str [104, 116]))]
def xcs : List Xc := [.cannot, .toomany, .unfit]
def rows : List Row := [⟨21, "is_number", d_is_number, top 5⟩, ⟨22, "is_within", d_is_within, top 6⟩, ⟨23, "sure_within", d_sure_within, top 7⟩, ⟨24, "choices", d_choices, top 8⟩, ⟨25, "is_row_in", d_is_row_in, top 13⟩, ⟨26, "sure_row", d_sure_row, top 14⟩, ⟨27, "size_of", d_size_of, top 15⟩, ⟨28, "row_in", d_row_in, top 16⟩, ⟨29, "all_in", d_all_in, top 17⟩, ⟨30, "heads_in", d_heads_in, top 18⟩, ⟨31, "place_in", d_place_in, top 19⟩, ⟨32, "rank_in", d_rank_in, top 20⟩, ⟨33, "ranked_in", d_ranked_in, top 21⟩, ⟨34, "is_row", d_is_row, top 22⟩, ⟨35, "heads", d_heads, top 23⟩, ⟨36, "all_rows", d_all_rows, top 24⟩, ⟨37, "rows_with", d_rows_with, top 25⟩, ⟨38, "how_many_rows", d_how_many_rows, top 26⟩, ⟨39, "place_of", d_place_of, top 27⟩, ⟨40, "row_at", d_row_at, top 28⟩, ⟨41, "rank_of", d_rank_of, top 29⟩, ⟨42, "row_by_rank", d_row_by_rank, top 30⟩, ⟨43, "_law_box", d_law_box_v2, top 32⟩, ⟨9, "_law_take", d_law_take, top 33⟩, ⟨10, "_law_cells", d_law_cells, top 34⟩, ⟨13, "_law_same", d_law_same, top 35⟩, ⟨44, "_law_flat", d_law_flat, top 36⟩, ⟨45, "_law_call", d_law_call, top 37⟩, ⟨46, "_law_slip", d_law_slip, top 38⟩, ⟨47, "_law_choose", d_law_choose, top 39⟩, ⟨48, "_law_throws", d_law_throws, top 40⟩, ⟨49, "_law_heads", d_law_heads, top 41⟩, ⟨50, "_law_right", d_law_right_v2, top 42⟩, ⟨51, "law", d_law_v2, top 43⟩]
def tb : Tb := tbOf rows cons xcs
theorem rows_ok : (rows.all fun r => r.ok tb) = true := by decide +kernel
abbrev RO : PySem.W.OpenRow := PySem.W.OpenLaw.row PySem.Challenge.rw_coinsmade_k01_main_rows_in_order
abbrev hk : PySem.W.Hook := hookY 5 (fasOf rows) (rows.map Row.defD) (exOf cons xcs)
def ob (s : PySem.W.SharedT) : AlY := obsY 5 (fasOf rows) (rows.map Row.defD) (exOf cons xcs) (HandSHeadRun.getT s)
theorem ob_eq (s : PySem.W.SharedT) : ob s = hk.obs s.abs := obsY_eq (HandSHeadRun.getT_eq s)
def loose : List PySem.Str := ((rows.map (·.name)).filter fun x => !(x == ("law" : PySem.Str))) ++ cons.map (·.1) ++ xcs.map xcName
set_option maxHeartbeats 0 in
theorem run_ok (w : PySem.World) : HandSHeadRun.RunEq RO (PySem.W.view RO.prog [43]) hk ob 4000 loose w := by
  intro os
  kernel_rfl
theorem tlaw : TLaw (tabT rows) := by
  constructor <;> first | rfl | (constructor <;> first | rfl | (constructor <;> first | rfl | (constructor <;> rfl)))
theorem pure_ok (ns : List Int) (h : ns.length ≤ 63) (hb : ∀ z ∈ ns, PySem.Builtin.Int.intBits z ≤ 1048576) : ∃ ds, run (tabT rows) whileS 40 51 [.scr ns] = .ok (.bl true) ds := law_ok (n := 31) tlaw h
end Py.Q
set_option maxHeartbeats 0 in
open PySem PySem.W PySem.Calls PyProof.Rows in
theorem PySem.Challenge.cw_coinsmade_k01_main_rows_in_order_holds : PySem.Challenge.rw_coinsmade_k01_main_rows_in_order.Holds := by
  w_on; o_law
  refine HandSHeadRun.head_any (r := OpenLaw.row PySem.Challenge.rw_coinsmade_k01_main_rows_in_order) (q := view (OpenLaw.row PySem.Challenge.rw_coinsmade_k01_main_rows_in_order).prog [43]) (H := Py.Q.hk) (ob := Py.Q.ob) (M := 4000) (loose := Py.Q.loose) (d := HandSHeadRun.topDef (OpenLaw.row PySem.Challenge.rw_coinsmade_k01_main_rows_in_order).prog 43) (kwd := []) Py.Q.ob_eq
    (by kernel_rfl) (fun s => by kernel_rfl) Py.Q.run_ok (by kernel_rfl) (by kernel_rfl) (by kernel_rfl) (by rfl) (by first | assumption | decide +kernel) (by decide +kernel) ⟨rfl, rfl, rfl, rfl, rfl, by decide +kernel⟩ ?hw ?hc
  case hw => w_witness2
  case hc =>
    exact Py.law_end (f := 51) (r := ⟨51, "law", Py.Q.d_law_v2, Py.Q.top 43⟩) (x := "script") (n := 63) (k := 40) rfl (by decide) (by kernel_rfl) ⟨rfl, by decide, by decide⟩ (by kernel_rfl) rfl (by decide +kernel) rfl Py.Q.rows_ok (fun K r hr h => by
      exfalso
      revert h
      have e : (Py.Q.rows.all fun r => r.fn.dfl.isEmpty) = true := by decide +kernel
      have e := List.all_eq_true.mp e r hr
      rw [List.isEmpty_iff.mp e]
      exact fun z => z rfl) Py.Q.pure_ok

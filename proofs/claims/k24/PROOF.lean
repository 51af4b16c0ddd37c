import PyProof.Rows.All
import HandS.ForMost
import HandS.Deep
import HandS.IsInst
import HandS.TupAny
import HandS.TupMul
import HandS.Zip
import HandS.SortInts
import HandS.Wide
import KE.SortData
import PyProof.Rows.NestShow
import HandS.Defaults
import HandS.Codes
import HandS.HeadEnd
import HandS.Ends
import HandS.RaiseMore
import KE.KRevSl
import HandS.Conv
import HandS.SetFor
import HandS.Strs
import KE.GoesEnum
import HandS.Iter
import HandS.Head0
import HandS.Head1
import HandS.Head2
import HandS.HeadHook1
import HandS.HeadHook2
import PyProof.ReprLen
import Lean
import HandS.More
import HandS.Words
import HandS.WordsExc
import KE.KStateDown
import PySem.Challenge.RW_roadkeepers_k24_whole_ranks_of_lots
section
set_option Elab.async false
set_option linter.all false
set_option maxRecDepth 100000
/-! EmA: a small language of our own, its values and its evaluator, in plain Lean. -/
namespace Em
open PySem
abbrev D := PyData
/-- values of a running def: data that nobody changes; a list (a dict) of the store; a list of such lists -/
inductive Val where
  | d (p : D)
  | fl (i : Nat)
  | ne (i : Nat)
  | sc (l : List Int)
  deriving Inhabited
inductive Cell where
  | li (l : List D)
  | di (kvs : List (L2.Key × D))
  deriving Inhabited
structure Sto where
  F : List Cell
  N : List (List Val)
  deriving Inhabited
inductive R (α : Type) where
  | ok (a : α) (s : Sto)
  | ex (c : Nat) (args : List D) (s : Sto)
  | bad
  deriving Inhabited
def R.bd {α β : Type} (r : R α) (f : α → Sto → R β) : R β :=
  match r with
  | .ok a s => f a s
  | .ex c l s => .ex c l s
  | .bad => .bad
@[simp] theorem R.bd_ok {α β : Type} (a : α) (s : Sto) (f : α → Sto → R β) : (R.ok a s).bd f = f a s := rfl
@[simp] theorem R.bd_bad {α β : Type} (f : α → Sto → R β) : (R.bad : R α).bd f = .bad := rfl
theorem R.bd_eq {α β : Type} {r : R α} {f : α → Sto → R β} {b : β} {s' : Sto} (h : r.bd f = .ok b s') : ∃ a s, r = .ok a s ∧ f a s = .ok b s' := by
  cases r with
  | ok a s => exact ⟨a, s, rfl, h⟩
  | ex c l s => cases h
  | bad => cases h
def opt {α : Type} (o : Option α) (s : Sto) : R α := match o with
  | some a => .ok a s
  | none => .bad
@[simp] theorem opt_some {α : Type} (a : α) (s : Sto) : opt (some a) s = .ok a s := rfl
theorem opt_eq {α : Type} {o : Option α} {s s' : Sto} {a : α} (h : opt o s = .ok a s') : o = some a ∧ s' = s := by
  cases o with
  | some b => injection h with h1 h2; exact ⟨congrArg some h1, h2.symm⟩
  | none => cases h
/-- how a new list is held -/
inductive Mode where
  | fr | fl | ne
  deriving DecidableEq
inductive Op2 where
  | add | sub | mul | fdiv | mod | eq | ne | lt | le | gt | ge | isIn | notIn | is | isNot
  deriving DecidableEq
/-- built-ins called by name; those of the second row stand where a for or a comprehension walks -/
inductive Bi where
  | len | all | any | tuple | list | sorted | sum | abs | int | divmod | repr | min2 | max2
  | range1 | range2 | zip | enum | sset | plain
  deriving DecidableEq
inductive Mt where
  | append | extend | pop | index
  deriving DecidableEq
/-- targets: a slot; a tuple of slots; a tuple of slots the second of which is such a tuple -/
inductive Tg where
  | slot (i : Nat)
  | tup (is : List Tg)
inductive E where
  | v (i : Nat)
  | k (p : D)
  | g (i : Nat)
  | pow (a b : Nat)
  | op (o : Op2) (m : Mode) (a b : E)
  | not (a : E)
  | neg (a : E)
  | and (a b : E)
  | or (a b : E)
  | chain (o1 o2 : Op2) (a b c : E)
  | ite (t a b : E)
  | call (f : Nat) (m : Mode) (es : List E) (kws : List (Nat × E))
  | bi (b : Bi) (m : Mode) (es : List E)
  | isi (a : E) (ts : List String)
  | mt (b : Mt) (o : E) (es : List E)
  | ix (a i : E)
  | sl (m : Mode) (a : E) (lo hi : Option E)
  | rev (m : Mode) (a : E)
  | dct
  | str (a : E)
  | tup (es : List E)
  | lst (m : Mode) (es : List E)
  | lc (m : Mode) (elt : E) (tg : Tg) (it : E) (cond : Option E) (own : List Nat)
  | dsp (k v : E)                           -- {k: v}, a dict of the store
  | din (n : Bool) (k o : E)                -- k in o, k not in o
  | dix (o k : E)                           -- o[k], o a dict of the store
  | dgt (o k z : E)                         -- o.get(k, z)
/-- what stands on the left of an =: a slot, an item -/
inductive Tx where
  | slot (i : Nat)
  | sub (o i : E)
inductive S where
  | asg (tg : Tg) (e : E)
  | asgs (is : List Nat) (es : List E)      -- a, b = x, y with lists of the store among them
  | asgx (o i e : E)                        -- o[i] = e
  | dput (o k e : E)                        -- o[k] = e, o a dict of the store
  | asgt (ts : List Tx) (e : E)             -- o[i], name = e, a tuple
  | expr (e : E)
  | ret (e : E)
  | retn
  | rets (es : List E)                      -- return a, b with lists of the store among them
  | ite (c : E) (a b : List S)
  | for_ (tg : Tg) (it : E) (body : List S)
  | while_ (c : E) (body : List S)
  | pass
  | brk
  | cont
  | raise (c : Nat) (es : List E)
abbrev Env := List (Option Val)
/-! ### data -/
def sizeMax : Nat := 16777216
def Sto.snapF (s : Sto) : Val → Option D
  | .d p => some p
  | .fl i => match s.F[i]? with
    | some (.li l) => some (.list l)
    | _ => none
  | .ne _ => none
  | .sc l => some (.list (l.map .int))
def Sto.snap (s : Sto) : Val → Option D
  | .ne i => match s.N[i]? with
    | some vs => (vs.mapM s.snapF).map .list
    | none => none
  | v => s.snapF v
/-- a new list, held as m tells -/
def mkL (m : Mode) (l : List D) (s : Sto) : R Val := match m with
  | .fr => .ok (.d (.list l)) s
  | .fl => .ok (.fl s.F.length) { s with F := s.F ++ [.li l] }
  | .ne => .bad
def valD : Val → Option D
  | .d p => some p
  | _ => none
def mkV (m : Mode) (l : List Val) (s : Sto) : R Val := match m with
  | .ne => .ok (.ne s.N.length) { s with N := s.N ++ [l] }
  | _ => match l.mapM valD with
    | some ds => mkL m ds s
    | none => .bad
def isB : D → Option Bool
  | .bool b => some b
  | _ => none
def mulOk (i j : Int) : Bool := decide (-(2 ^ 64) < i ∧ i < 2 ^ 64) || decide (-(2 ^ 64) < j ∧ j < 2 ^ 64)
def intsOf : List D → Option (List Int)
  | [] => some []
  | .int i :: r => (intsOf r).map (i :: ·)
  | _ => none
def isNone : D → Bool
  | .none => true
  | _ => false
def okEq (a b : D) : Bool := SeqAt.shaped a && SeqAt.shaped b
/-- two-place operations whose answer is no list -/
def op2V (o : Op2) (a b : D) : Option D := match o, a, b with
  | .add, .int i, .int j => some (.int (i + j))
  | .add, .tuple x, .tuple y => if x.length + y.length ≤ sizeMax then some (.tuple (x ++ y)) else none
  | .sub, .int i, .int j => some (.int (i - j))
  | .mul, .int i, .int j => if mulOk i j then some (.int (i * j)) else none
  | .mul, .tuple x, .int k => if x ≠ [] ∧ 2 ≤ k ∧ k ≤ 1000 ∧ x.length ≤ 1000 then some (.tuple (List.replicate k.toNat x).flatten) else none
  | .fdiv, .int i, .int j => if 0 < j ∧ j < 1073741824 then some (.int (i / j)) else none
  | .mod, .int i, .int j => if 0 < j then some (.int (i % j)) else none
  | .eq, a, b => if okEq a b then some (.bool (PyData.eqv a b)) else none
  | .ne, a, b => if okEq a b then some (.bool (!PyData.eqv a b)) else none
  | .lt, .int i, .int j => some (.bool (decide (i < j)))
  | .lt, .tuple x, .tuple y => if PySem.W.alikeAll x y && decide (PyData.depth (.tuple x) ≤ 64) && !PyData.hasDict (.tuple x) && !PyData.hasDict (.tuple y) then some (.bool (PySem.W.dataLt (.tuple x) (.tuple y))) else none
  | .le, .int i, .int j => some (.bool (decide (i ≤ j)))
  | .gt, .int i, .int j => some (.bool (decide (j < i)))
  | .ge, .int i, .int j => some (.bool (decide (j ≤ i)))
  | .isIn, a, .list l => if okEq a (.list l) then some (.bool (l.any fun z => PyData.eqv z a)) else none
  | .isIn, a, .tuple l => if okEq a (.tuple l) then some (.bool (l.any fun z => PyData.eqv z a)) else none
  | .notIn, a, .list l => if okEq a (.list l) then some (.bool (!l.any fun z => PyData.eqv z a)) else none
  | .notIn, a, .tuple l => if okEq a (.tuple l) then some (.bool (!l.any fun z => PyData.eqv z a)) else none
  | .is, a, .none => some (.bool (isNone a))
  | .isNot, a, .none => some (.bool (!isNone a))
  | _, _, _ => none
/-- .. and those that make a list -/
def op2L (o : Op2) (a b : D) : Option (List D) := match o, a, b with
  | .add, .list x, .list y => if x.length + y.length ≤ sizeMax then some (x ++ y) else none
  | .mul, .list x, .int k => if -(2 ^ 63) ≤ k ∧ k < 2 ^ 63 ∧ x.length * k.toNat ≤ sizeMax then some (List.replicate k.toNat x).flatten else none
  | _, _, _ => none
def op2 (o : Op2) (m : Mode) (a b : D) (s : Sto) : R Val := match op2L o a b with
  | some l => mkL m l s
  | none => match op2V o a b with
    | some p => .ok (.d p) s
    | none => .bad
/-- the place of an index -/
abbrev place (n : Nat) (i : Int) : Option Nat := L2.ixN n i
def atD (l : List D) (i : Int) : Option D := (place l.length i).bind fun j => l[j]?
def cut (l : List D) (lo hi : Option Int) : List D := (l.drop (HT.sIx l.length 0 lo)).take (HT.sIx l.length l.length hi - HT.sIx l.length 0 lo)
def typeName : D → String
  | .none => "NoneType" | .bool _ => "bool" | .int _ => "int" | .str _ => "str" | .list _ => "list" | .tuple _ => "tuple" | .dict _ => "dict"
def tyNames : List String := ["NoneType", "bool", "int", "str", "list", "tuple", "dict"]
def isiB (t u : String) : Bool := t == u || (t == "bool" && u == "int")
/-! ### order, as the library has it for alike data -/
def isNE : D → Bool
  | .tuple (_ :: _) => true
  | _ => false
def isOth : D → Bool
  | .none => false
  | .tuple _ => false
  | _ => true
def sortOk (l : List D) : Bool := l.all (fun a => l.all (PySem.W.alike a)) && (l.all isNE || l.all isOth) && l.all (fun d => decide (d.depth ≤ 64)) && decide (l.length ≤ sizeMax) && l.all (fun d => !d.hasDict)
/-- sorted(l) -/
def isort (l : List D) : List D := l.mergeSort (PySem.W.dataLe false id)
def boolsOf : List D → Option (List Bool)
  | [] => some []
  | .bool b :: r => (boolsOf r).map (b :: ·)
  | _ => none
/-- built-ins of one argument, of two, whose answer is no list; whose answer is one -/
def biV1 (b : Bi) (p : D) : Option D := match b with
  | .len => match p with
    | .list l => some (.int l.length)
    | .tuple l => some (.int l.length)
    | .str x => if x.length ≤ sizeMax then some (.int x.length) else none
    | _ => none
  | .all => match p with
    | .list l => (boolsOf l).map fun bs => .bool (bs.all id)
    | _ => none
  | .any => match p with
    | .list l => (boolsOf l).map fun bs => .bool (bs.any id)
    | _ => none
  | .tuple => match p with
    | .list l => some (.tuple l)
    | .tuple l => some (.tuple l)
    | _ => none
  | .sum => match p with
    | .list l => (intsOf l).map fun ns => .int ns.sum
    | _ => none
  | .abs => match p with
    | .int i => some (.int (if i < 0 then -i else i))
    | _ => none
  | .int => match p with
    | .int i => some (.int i)
    | .bool k => some (.int (if k then 1 else 0))
    | _ => none
  | .repr => if p.showable && decide (p.depth ≤ 64) && decide (p.shown.length ≤ sizeMax) then some (.str p.shown) else none
  | _ => none
def biV2 (b : Bi) (p q : D) : Option D := match b with
  | .divmod => match p, q with
    | .int i, .int j => if 0 < j ∧ j < 1073741824 then some (.tuple [.int (i / j), .int (i % j)]) else none
    | _, _ => none
  | .min2 => match p, q with
    | .int i, .int j => some (.int (if j < i then j else i))
    | _, _ => none
  | .max2 => match p, q with
    | .int i, .int j => some (.int (if j > i then j else i))
    | _, _ => none
  | _ => none
def itemsOf : D → Option (List D)
  | .list l => some l
  | .tuple l => some l
  | _ => none
/-- sorted(set(l)), of ints -/
def insI (x : Int) : List Int → List Int
  | [] => [x]
  | y :: r => if x < y then x :: y :: r else if x = y then y :: r else y :: insI x r
def ssetI (ns : List Int) : List Int := ns.foldr insI []
def biL1 (b : Bi) (p : D) : Option (List D) := match b with
  | .list => itemsOf p
  | .range1 => match p with
    | .int n => if -(2 ^ 62) ≤ n ∧ n < 2 ^ 62 ∧ n ≤ sizeMax then some ((List.range n.toNat).map fun (i : Nat) => .int (0 + (i : Int))) else none
    | _ => none
  | .sorted => match itemsOf p with
    | some l => if sortOk l then some (isort l) else none
    | none => none
  | .sset => match p with
    | .list l => match intsOf l with
      | some ns => if ns.length ≤ 60 then some ((ssetI ns).map .int) else none
      | none => none
    | .tuple l => match intsOf l with
      | some ns => if ns.length ≤ 60 then some ((ssetI ns).map .int) else none
      | none => none
    | _ => none
  | .enum => (itemsOf p).map fun x => (x.zipIdx 0).map fun p => .tuple [.int p.2, p.1]
  | _ => none
def biL2 (b : Bi) (p q : D) : Option (List D) := match b with
  | .range2 => match p, q with
    | .int a, .int n => if -(2 ^ 62) ≤ a ∧ a < 2 ^ 62 ∧ -(2 ^ 62) ≤ n ∧ n < 2 ^ 62 ∧ n - a ≤ sizeMax then some ((List.range (n - a).toNat).map fun (i : Nat) => .int (a + i)) else none
    | _, _ => none
  | .zip => match p, q with
    | .list x, .list y => some (List.zipWith (fun p q => .tuple [p, q]) x y)
    | .tuple x, .tuple y => some (List.zipWith (fun p q => .tuple [p, q]) x y)
    | _, _ => none
  | _ => none
def biV (b : Bi) (as : List D) : Option D := match as with
  | [p] => biV1 b p
  | [p, q] => biV2 b p q
  | _ => none
def biL (b : Bi) (as : List D) : Option (List D) := match as with
  | [p] => biL1 b p
  | [p, q] => biL2 b p q
  | _ => none
def bi (b : Bi) (m : Mode) (as : List D) (s : Sto) : R Val := match biL b as with
  | some l => mkL m l s
  | none => match biV b as with
    | some p => .ok (.d p) s
    | none => .bad
/-! ### targets -/
mutual
def Tg.put : Tg → D → Env → Option Env
  | .slot i, p, σ => if i < σ.length then some (σ.set i (some (.d p))) else none
  | .tup ts, .tuple l, σ => Tg.puts ts l σ
  | .tup ts, .list l, σ => Tg.puts ts l σ
  | .tup _, _, _ => none
def Tg.puts : List Tg → List D → Env → Option Env
  | [], [], σ => some σ
  | t :: ts, p :: ps, σ => (t.put p σ).bind (Tg.puts ts ps)
  | _, _, _ => none
end
def putVal (t : Tg) (x : Val) (σ : Env) : Option Env := match x with
  | .d p => t.put p σ
  | x => match t with
    | .slot i => if i < σ.length then some (σ.set i (some x)) else none
    | .tup _ => none
def wipe (σ : Env) : List Nat → Env
  | [] => σ
  | v :: vs => (wipe σ vs).set v none
/-- what a call is -/
structure Ctx where
  call : Nat → List Val → List (Nat × Val) → List Cell → R Val
  glob : Nat → Option D
  fuel : Nat
/-- the parameters' values: the positional ones, then those by keywords -/
def order (n : Nat) (vs : List Val) (kws : List (Nat × Val)) : Option (List Val) :=
  if vs.length + kws.length = n then (List.range (n - vs.length)).mapM (fun j => kws.lookup (vs.length + j)) |>.map (vs ++ ·) else none
/-- items of a list of the store, one by one, as it stands then -/
def nth (s : Sto) (v : Val) (i : Nat) : Option (Option Val) := match v with
  | .d (.list l) => some ((l[i]?).map .d)
  | .d (.tuple l) => some ((l[i]?).map .d)
  | .fl j => match s.F[j]? with
    | some (.li l) => some ((l[i]?).map .d)
    | _ => none
  | .ne j => match s.N[j]? with
    | some vs => some vs[i]?
    | none => none
  | .d _ => none
  | .sc _ => none
/-- a comprehension's turns -/
def loopC (f : Val → Sto → R (Option Val)) (v : Val) : Nat → Nat → Sto → List Val → R (List Val)
  | 0, _, _, _ => .bad
  | n + 1, i, s, acc => match nth s v i with
    | none => .bad
    | some none => .ok acc s
    | some (some x) => (f x s).bd fun y s' => match y with
      | some y => if acc.length < sizeMax then loopC f v n (i + 1) s' (acc ++ [y]) else .bad
      | none => loopC f v n (i + 1) s' acc
/-- what a def hands back, as its caller sees it: data, a list of the store that was there before; a new list of the store -/
inductive Rv where
  | val (v : Val)
  | new (c : Cell)
inductive Fl where
  | nx
  | rt (v : Rv)
  | bk
  | ct
def loopS (f : Env → Val → Sto → R (Fl × Env)) (v : Val) : Nat → Nat → Env → Sto → R (Fl × Env)
  | 0, _, _, _ => .bad
  | n + 1, i, σ, s => match nth s v i with
    | none => .bad
    | some none => .ok (.nx, σ) s
    | some (some x) => (f σ x s).bd fun y s' => match y.1 with
      | .nx => loopS f v n (i + 1) y.2 s'
      | .ct => loopS f v n (i + 1) y.2 s'
      | .bk => .ok (.nx, y.2) s'
      | .rt w => .ok (.rt w, y.2) s'
def loopW (c : Env → Sto → R Bool) (f : Env → Sto → R (Fl × Env)) : Nat → Env → Sto → R (Fl × Env)
  | 0, _, _ => .bad
  | n + 1, σ, s => (c σ s).bd fun b s1 => if b = true then (f σ s1).bd fun y s' => match y.1 with
      | .nx => loopW c f n y.2 s'
      | .ct => loopW c f n y.2 s'
      | .bk => .ok (.nx, y.2) s'
      | .rt w => .ok (.rt w, y.2) s'
    else .ok (.nx, σ) s1
/-- a test's value -/
def tst (r : R Val) : R Bool := r.bd fun v s => match v with
  | .d (.bool b) => .ok b s
  | _ => .bad
/-- the arguments of a call are data or lists of the store -/
def argOk : Val → Bool
  | .ne _ => false
  | _ => true
/-- behind a call -/
def called (m : Mode) (s : Sto) (r : R Val) : R Val := match r with
  | .ok v s' => match v with
    | .d p => .ok (.d p) { s with F := s'.F }
    | .fl i => if i < s.F.length then .ok (.fl i) { s with F := s'.F } else match m with
      | .fl => .ok (.fl i) { s with F := s'.F }
      | .fr => match s'.F[i]? with
        | some (.li l) => .ok (.d (.list l)) { s with F := s'.F.take s.F.length }
        | _ => .bad
      | .ne => .bad
    | _ => .bad
  | .ex c l s' => .ex c l { s with F := s'.F }
  | .bad => .bad
def ixV (a : Val) (i : Val) (s : Sto) : R Val := match i with
  | .d (.int i) => match a with
    | .ne j => match s.N[j]? with
      | some vs => match (place vs.length i).bind fun j => vs[j]? with
        | some v => .ok v s
        | none => .bad
      | none => .bad
    | a => match s.snapF a with
      | some (.list l) => match atD l i with
        | some p => .ok (.d p) s
        | none => .bad
      | some (.tuple l) => match atD l i with
        | some p => .ok (.d p) s
        | none => .bad
      | _ => .bad
  | _ => .bad
def part : Option Val → Option (Option Int)
  | none => some none
  | some (.d (.int i)) => some (some i)
  | _ => none
def slV (m : Mode) (a : Val) (lo hi : Option Val) (s : Sto) : R Val := match part lo, part hi with
  | some lo, some hi => match s.snapF a with
    | some (.list l) => mkL m (cut l lo hi) s
    | some (.tuple l) => .ok (.d (.tuple (cut l lo hi))) s
    | _ => .bad
  | _, _ => .bad
def revV (m : Mode) (a : Val) (s : Sto) : R Val := match s.snapF a with
  | some (.list l) => mkL m l.reverse s
  | some (.tuple l) => .ok (.d (.tuple l.reverse)) s
  | _ => .bad
def mtV (b : Mt) (o : Val) (as : List Val) (s : Sto) : R Val := match b, o, as with
  | .append, .fl j, [.d p] => match s.F[j]? with
    | some (.li l) => if l.length < sizeMax then .ok (.d .none) { s with F := s.F.set j (.li (l ++ [p])) } else .bad
    | _ => .bad
  | .append, .ne j, [v] => match s.N[j]? with
    | some l => if l.length < sizeMax ∧ argOk v then .ok (.d .none) { s with N := s.N.set j (l ++ [v]) } else .bad
    | none => .bad
  | .extend, .fl j, [.d (.list z)] => match s.F[j]? with
    | some (.li l) => if l.length + z.length ≤ sizeMax then .ok (.d .none) { s with F := s.F.set j (.li (l ++ z)) } else .bad
    | _ => .bad
  | .pop, .fl j, [] => match s.F[j]? with
    | some (.li l) => match l.getLast? with
      | some p => .ok (.d p) { s with F := s.F.set j (.li l.dropLast) }
      | none => .bad
    | _ => .bad
  | .pop, .fl j, [.d (.int i)] => match s.F[j]? with
    | some (.li l) => match place l.length i with
      | some k => match l[k]? with
        | some p => .ok (.d p) { s with F := s.F.set j (.li (l.eraseIdx k)) }
        | none => .bad
      | none => .bad
    | _ => .bad
  | .index, o, [.d x] => match s.snapF o with
    | some (.list l) => if okEq x (.list l) then match l.findIdx? (fun z => PyData.eqv z x) with
        | some j => .ok (.d (.int j)) s
        | none => .bad
      else .bad
    | _ => .bad
  | _, _, _ => .bad
def setV (o i : Val) (p : D) (s : Sto) : R Unit := match o, i with
  | .fl j, .d (.int i) => match s.F[j]? with
    | some (.li l) => match place l.length i with
      | some k => .ok () { s with F := s.F.set j (.li (l.set k p)) }
      | none => .bad
    | _ => .bad
  | _, _ => .bad
/-! dicts of the store -/
def keyD : D → Option L2.Key
  | .int i => some (.inl i)
  | .str x => some (.inr x)
  | _ => none
def getK (kvs : List (L2.Key × D)) (k : L2.Key) : Option D := (kvs.find? fun kv => decide (kv.1 = k)).map (·.2)
def setK (kvs : List (L2.Key × D)) (k : L2.Key) (v : D) : List (L2.Key × D) :=
  if (kvs.any fun kv => decide (kv.1 = k)) = true then kvs.map (fun kv => if kv.1 = k then (kv.1, v) else kv) else kvs ++ [(k, v)]
/-- a dict of the store beside a key -/
def dkV (s : Sto) (o k : Val) : Option (List (L2.Key × D) × L2.Key) := match o, k with
  | .fl j, .d a => match s.F[j]?, keyD a with
    | some (.di kvs), some q => some (kvs, q)
    | _, _ => none
  | _, _ => none
def dspV (k v : Val) (s : Sto) : R Val := match k, v with
  | .d a, .d b => match keyD a with
    | some q => .ok (.fl s.F.length) { s with F := s.F ++ [.di [(q, b)]] }
    | none => .bad
  | _, _ => .bad
def dinV (n : Bool) (k o : Val) (s : Sto) : R Val := match dkV s o k with
  | some (kvs, q) => .ok (.d (.bool (if n = true then !(getK kvs q).isSome else (getK kvs q).isSome))) s
  | none => .bad
def dixV (o k : Val) (s : Sto) : R Val := match dkV s o k with
  | some (kvs, q) => match getK kvs q with
    | some p => .ok (.d p) s
    | none => .bad
  | none => .bad
def dgtV (o k z : Val) (s : Sto) : R Val := match dkV s o k with
  | some (kvs, q) => match z with
    | .d p => .ok (.d ((getK kvs q).getD p)) s
    | _ => .bad
  | none => .bad
def dputV (o k : Val) (p : D) (s : Sto) : R Unit := match dkV s o k with
  | some (kvs, q) => match o with
    | .fl j => if kvs.length < sizeMax then .ok () { s with F := s.F.set j (.di (setK kvs q p)) } else .bad
    | _ => .bad
  | none => .bad
/-- what may be read only, what may be captured -/
def Sto.capt (s : Sto) : Val → Option D
  | .sc _ => none
  | v => s.snapF v
def Sto.see (s : Sto) (deep : Bool) (v : Val) : Option D := if deep = true then s.snap v else s.capt v
def snaps (s : Sto) (deep : Bool) : List Val → Option (List D)
  | [] => some []
  | v :: r => match s.see deep v, snaps s deep r with
    | some p, some q => some (p :: q)
    | _, _ => none
def deepO : Op2 → Bool
  | .eq => true
  | .ne => true
  | _ => false
def deepB : Bi → Bool
  | .len => true
  | .repr => true
  | _ => false
def op2S (o : Op2) (m : Mode) (x y : Val) (s : Sto) : R Val := match s.see (deepO o) x, s.see (deepO o) y with
  | some p, some q => op2 o m p q s
  | _, _ => .bad
/-- a walk over two lists at once takes lists that nobody changes -/
def stillB : Bi → Bool
  | .zip => true
  | .enum => true
  | _ => false
def biS (b : Bi) (m : Mode) (vs : List Val) (s : Sto) : R Val := match (if stillB b = true then vs.mapM valD else snaps s (deepB b) vs) with
  | some as => bi b m as s
  | none => .bad
/-- a dict of the store -/
def isDi (s : Sto) (x : Val) : Bool := match x with
  | .fl j => match s.F[j]? with
    | some (.di _) => true
    | _ => false
  | _ => false
def isiV (a : Val) (ts : List String) (s : Sto) : R Val := match s.snap a with
  | some p => .ok (.d (.bool (ts.any (isiB (typeName p))))) s
  | none => .bad
mutual
def evE (c : Ctx) : E → Env → Sto → R Val
  | .v i, σ, s => match σ[i]? with
    | some (some v) => .ok v s
    | _ => .bad
  | .k p, _, s => .ok (.d p) s
  | .g i, _, s => match c.glob i with
    | some p => .ok (.d p) s
    | none => .bad
  | .pow a b, _, s => .ok (.d (.int ((a : Int) ^ b))) s
  | .op o m a b, σ, s => (evE c a σ s).bd fun x s1 => (evE c b σ s1).bd fun y s2 => op2S o m x y s2
  | .not a, σ, s => (tst (evE c a σ s)).bd fun b s1 => .ok (.d (.bool (!b))) s1
  | .neg a, σ, s => (evE c a σ s).bd fun x s1 => match x with
    | .d (.int i) => .ok (.d (.int (-i))) s1
    | _ => .bad
  | .and a b, σ, s => (tst (evE c a σ s)).bd fun x s1 => if x = true then evE c b σ s1 else .ok (.d (.bool false)) s1
  | .or a b, σ, s => (tst (evE c a σ s)).bd fun x s1 => if x = true then .ok (.d (.bool true)) s1 else evE c b σ s1
  | .chain o1 o2 a b e, σ, s => (evE c a σ s).bd fun x s1 => (evE c b σ s1).bd fun y s2 => match x, y with
    | .d p, .d q => match op2V o1 p q with
      | some (.bool true) => (evE c e σ s2).bd fun z s3 => match z with
        | .d r => match op2V o2 q r with
          | some t => .ok (.d t) s3
          | none => .bad
        | _ => .bad
      | some (.bool false) => .ok (.d (.bool false)) s2
      | _ => .bad
    | _, _ => .bad
  | .ite t a b, σ, s => (tst (evE c t σ s)).bd fun x s1 => if x = true then evE c a σ s1 else evE c b σ s1
  | .call f m es kws, σ, s => (evEs c es σ s).bd fun vs s1 => (evKs c kws σ s1).bd fun ks s2 =>
      if vs.all argOk && ks.all (fun p => argOk p.2) then called m s2 (c.call f vs ks s2.F) else .bad
  | .bi b m es, σ, s => (evEs c es σ s).bd fun vs s1 => biS b m vs s1
  | .isi a ts, σ, s => (evE c a σ s).bd fun x s1 => isiV x ts s1
  | .mt b o es, σ, s => (evE c o σ s).bd fun x s1 => if isDi s1 x = true then .bad else (evEs c es σ s1).bd fun vs s2 => mtV b x vs s2
  | .ix a i, σ, s => (evE c a σ s).bd fun x s1 => (evE c i σ s1).bd fun y s2 => ixV x y s2
  | .sl m a lo hi, σ, s => (evE c a σ s).bd fun x s1 => (evO c lo σ s1).bd fun y s2 => (evO c hi σ s2).bd fun z s3 => slV m x y z s3
  | .rev m a, σ, s => (evE c a σ s).bd fun x s1 => revV m x s1
  | .dct, _, s => .ok (.d (.dict [])) s
  | .str a, σ, s => (evE c a σ s).bd fun x s1 => match x with
    | .d (.int i) => if i.natAbs.log2 < 1920 then .ok (.d (.str (Str.ofString (toString i)))) s1 else .bad
    | .d (.str z) => .ok (.d (.str z)) s1
    | _ => .bad
  | .tup es, σ, s => (evEs c es σ s).bd fun vs s1 => match vs.mapM valD with
    | some ps => .ok (.d (.tuple ps)) s1
    | none => .bad
  | .lst m es, σ, s => (evEs c es σ s).bd fun vs s1 => mkV m vs s1
  | .lc m elt tg it cond own, σ, s => (evE c it σ s).bd fun v s1 =>
      (loopC (fun x s2 => match putVal tg x (wipe σ own) with
        | none => .bad
        | some σ2 => (match cond with
          | none => R.ok true s2
          | some t => tst (evE c t σ2 s2)).bd fun b s3 => if b = true then (evE c elt σ2 s3).bd fun y s4 => .ok (some y) s4 else .ok none s3) v c.fuel 0 s1 []).bd fun vs s5 => mkV m vs s5
  | .dsp k v, σ, s => (evE c k σ s).bd fun x s1 => (evE c v σ s1).bd fun y s2 => dspV x y s2
  | .din n k o, σ, s => (evE c k σ s).bd fun x s1 => (evE c o σ s1).bd fun y s2 => dinV n x y s2
  | .dix o k, σ, s => (evE c o σ s).bd fun x s1 => (evE c k σ s1).bd fun y s2 => dixV x y s2
  | .dgt o k z, σ, s => (evE c o σ s).bd fun x s1 => if isDi s1 x = true then (evE c k σ s1).bd fun y s2 => (evE c z σ s2).bd fun t s3 => dgtV x y t s3 else .bad
def evEs (c : Ctx) : List E → Env → Sto → R (List Val)
  | [], _, s => .ok [] s
  | e :: es, σ, s => (evE c e σ s).bd fun v s1 => (evEs c es σ s1).bd fun vs s2 => .ok (v :: vs) s2
def evKs (c : Ctx) : List (Nat × E) → Env → Sto → R (List (Nat × Val))
  | [], _, s => .ok [] s
  | (n, e) :: es, σ, s => (evE c e σ s).bd fun v s1 => (evKs c es σ s1).bd fun vs s2 => .ok ((n, v) :: vs) s2
def evO (c : Ctx) : Option E → Env → Sto → R (Option Val)
  | none, _, s => .ok none s
  | some e, σ, s => (evE c e σ s).bd fun v s1 => .ok (some v) s1
end
/-- a value of a frame that ends: its own lists are nobody's from then on -/
def own1 (n0 : Nat) (s : Sto) : Val → Option D
  | .fl i => if n0 ≤ i then s.snapF (.fl i) else none
  | .d p => some p
  | _ => none
def ownS (n0 : Nat) (s : Sto) : Val → Option D
  | .ne j => match s.N[j]? with
    | some vs => (vs.mapM (own1 n0 s)).map .list
    | none => none
  | v => own1 n0 s v
def finR (n0 : Nat) (v : Val) (s : Sto) : Option Rv := match v with
  | .d p => some (.val (.d p))
  | .fl i => if i < n0 then some (.val (.fl i)) else (s.F[i]?).map .new
  | .ne j => match ownS n0 s (.ne j) with
    | some (.list l) => if l.length ≤ sizeMax then some (.new (.li l)) else none
    | _ => none
  | .sc _ => none
def putTx (c : Ctx) : List Tx → List D → Env → Sto → R Env
  | [], [], σ, s => .ok σ s
  | .slot i :: ts, p :: ps, σ, s => if i < σ.length then putTx c ts ps (σ.set i (some (.d p))) s else .bad
  | .sub o i :: ts, p :: ps, σ, s => (evE c o σ s).bd fun x s1 => (evE c i σ s1).bd fun y s2 => (setV x y p s2).bd fun _ s3 => putTx c ts ps σ s3
  | _, _, _, _ => .bad
def putSlots : List Nat → List Val → Env → Option Env
  | [], [], σ => some σ
  | i :: is, v :: vs, σ => if i < σ.length then putSlots is vs (σ.set i (some v)) else none
  | _, _, _ => none
mutual
def evS (c : Ctx) (n0 : Nat) : S → Env → Sto → R (Fl × Env)
  | .asg tg e, σ, s => (evE c e σ s).bd fun v s1 => match putVal tg v σ with
    | some σ' => .ok (.nx, σ') s1
    | none => .bad
  | .asgs is es, σ, s => (evEs c es σ s).bd fun vs s1 => match putSlots is vs σ with
    | some σ' => .ok (.nx, σ') s1
    | none => .bad
  | .asgx o i e, σ, s => (evE c e σ s).bd fun v s1 => match v with
    | .d p => (evE c o σ s1).bd fun x s2 => (evE c i σ s2).bd fun y s3 => (setV x y p s3).bd fun _ s4 => .ok (.nx, σ) s4
    | _ => .bad
  | .dput o k e, σ, s => (evE c e σ s).bd fun v s1 => match v with
    | .d p => (evE c o σ s1).bd fun x s2 => (evE c k σ s2).bd fun y s3 => (dputV x y p s3).bd fun _ s4 => .ok (.nx, σ) s4
    | _ => .bad
  | .asgt ts e, σ, s => (evE c e σ s).bd fun v s1 => match v with
    | .d (.tuple ps) => (putTx c ts ps σ s1).bd fun σ' s2 => .ok (.nx, σ') s2
    | _ => .bad
  | .expr e, σ, s => (evE c e σ s).bd fun _ s1 => .ok (.nx, σ) s1
  | .ret e, σ, s => (evE c e σ s).bd fun v s1 => match finR n0 v s1 with
    | some r => .ok (.rt r, σ) s1
    | none => .bad
  | .retn, σ, s => .ok (.rt (.val (.d .none)), σ) s
  | .rets es, σ, s => (evEs c es σ s).bd fun vs s1 => match vs.mapM (ownS n0 s1) with
    | some ps => .ok (.rt (.val (.d (.tuple ps))), σ) s1
    | none => .bad
  | .ite t a b, σ, s => (tst (evE c t σ s)).bd fun x s1 => if x = true then evSs c n0 a σ s1 else evSs c n0 b σ s1
  | .for_ tg it body, σ, s => (evE c it σ s).bd fun v s1 => loopS (fun σ1 x s2 => match putVal tg x σ1 with
      | some σ2 => evSs c n0 body σ2 s2
      | none => .bad) v c.fuel 0 σ s1
  | .while_ t body, σ, s => loopW (fun σ1 s1 => tst (evE c t σ1 s1)) (fun σ1 s1 => evSs c n0 body σ1 s1) c.fuel σ s
  | .pass, σ, s => .ok (.nx, σ) s
  | .brk, σ, s => .ok (.bk, σ) s
  | .cont, σ, s => .ok (.ct, σ) s
  | .raise _ _, _, _ => .bad
def evSs (c : Ctx) (n0 : Nat) : List S → Env → Sto → R (Fl × Env)
  | [], σ, s => .ok (.nx, σ) s
  | st :: r, σ, s => (evS c n0 st σ s).bd fun y s1 => match y.1 with
    | .nx => evSs c n0 r y.2 s1
    | _ => .ok y s1
end
structure Def where
  name : Str
  npar : Nat
  names : List Str
  body : List S
structure Prog where
  fn : Nat → Option Def
  glob : Nat → Option D
  fuel : Nat
def finish (n0 : Nat) (r : Rv) (s : Sto) : R Val := match r with
  | .val v => .ok v ⟨s.F.take n0, []⟩
  | .new c => .ok (.fl n0) ⟨s.F.take n0 ++ [c], []⟩
def start (d : Def) (us : List Val) : Env := us.map some ++ List.replicate (d.names.length - us.length) none
/-- a def called: n calls deep at most -/
def evF (P : Prog) : Nat → Nat → List Val → List (Nat × Val) → List Cell → R Val
  | 0, _, _, _, _ => .bad
  | n + 1, f, vs, kws, F => match P.fn f with
    | none => .bad
    | some d => match order d.npar vs kws with
      | none => .bad
      | some us => (evSs ⟨evF P n, P.glob, P.fuel⟩ F.length d.body (start d us) ⟨F, []⟩).bd fun y s => match y.1 with
        | .nx => finish F.length (.val (.d .none)) s
        | .rt v => finish F.length v s
        | _ => .bad
end Em
end

section
set_option Elab.async false
set_option linter.all false
set_option maxRecDepth 100000
set_option maxHeartbeats 800000
/-! EmB: how the small language's states stand for the layer's states. -/
namespace Em
open PySem PySem.Spec PyProof.Rows L2
mutual
/-- v stands for the data p; no list in it is at an address of M -/
inductive Dq (K : PySem.W.Frag) (M : Addr → Prop) (H : Hp) : V → D → Prop
  | non : Dq K M H .non .none
  | bl (b : Bool) : Dq K M H (.bl b) (.bool b)
  | int (i : Int) : Dq K M H (.int i) (.int i)
  | str (x : Str) : Dq K M H (.str x) (.str x)
  | lst {a : Addr} {xs : List V} {ds : List D} : H a = some (.lst xs) → ¬ M a → DqA K M H xs ds → Dq K M H (.ref a) (.list ds)
  | tup {a : Addr} {xs : List V} {ds : List D} : SqT K H a xs → DqA K M H xs ds → Dq K M H (.ref a) (.tuple ds)
  | dct {a : Addr} : H a = some (.dK []) → ¬ M a → Dq K M H (.ref a) (.dict [])
inductive DqA (K : PySem.W.Frag) (M : Addr → Prop) (H : Hp) : List V → List D → Prop
  | nil : DqA K M H [] []
  | cons {v : V} {vs : List V} {d : D} {ds : List D} : Dq K M H v d → DqA K M H vs ds → DqA K M H (v :: vs) (d :: ds)
end
mutual
/-- .. as far as reading goes -/
inductive Dw (K : PySem.W.Frag) (H : Hp) : V → D → Prop
  | non : Dw K H .non .none
  | bl (b : Bool) : Dw K H (.bl b) (.bool b)
  | int (i : Int) : Dw K H (.int i) (.int i)
  | str (x : Str) : Dw K H (.str x) (.str x)
  | lst {a : Addr} {xs : List V} {ds : List D} : SqL K H a xs → DwA K H xs ds → Dw K H (.ref a) (.list ds)
  | tup {a : Addr} {xs : List V} {ds : List D} : SqT K H a xs → DwA K H xs ds → Dw K H (.ref a) (.tuple ds)
  | dct {a : Addr} : H a = some (.dK []) → Dw K H (.ref a) (.dict [])
inductive DwA (K : PySem.W.Frag) (H : Hp) : List V → List D → Prop
  | nil : DwA K H [] []
  | cons {v : V} {vs : List V} {d : D} {ds : List D} : Dw K H v d → DwA K H vs ds → DwA K H (v :: vs) (d :: ds)
end
mutual
theorem nd_lay : ∀ p : D, p.canLay0 = true → p.hasDict = false
  | .none, _ => rfl
  | .bool _, _ => rfl
  | .int _, _ => rfl
  | .str _, _ => rfl
  | .list l, h => by rw [PyData.hasDict]; rw [PyData.canLay0] at h; exact nd_layA l h
  | .tuple l, h => by rw [PyData.hasDict]; rw [PyData.canLay0] at h; exact nd_layA l h
  | .dict _, h => by rw [PyData.canLay0] at h; cases h
theorem nd_layA : ∀ l : List D, PyData.canLayAll0 l = true → PyData.hasDictAll l = false
  | [], _ => rfl
  | p :: r, h => by
    rw [PyData.canLayAll0, Bool.and_eq_true] at h
    rw [PyData.hasDictAll, nd_lay p h.1, nd_layA r h.2]
    rfl
end
theorem nd_shaped {p : D} (h : SeqAt.shaped p = true) : p.hasDict = false := nd_lay p (SeqAt.canLay_of_shaped h)
section
variable {K : PySem.W.Frag} {H : Hp}
mutual
theorem Dw.dp : ∀ {v : V} (p : D), p.hasDict = false → Dw K H v p → Dp K H v p
  | _, .none, _, .non => .non
  | _, .bool b, _, .bl _ => .bl b
  | _, .int i, _, .int _ => .int i
  | _, .str x, _, .str _ => .str x
  | _, .list ds, n, .lst h a => .lst h (DwA.dp ds (by rw [PyData.hasDict] at n; exact n) a)
  | _, .tuple ds, n, .tup h a => .tup h (DwA.dp ds (by rw [PyData.hasDict] at n; exact n) a)
  | _, .dict _, n, _ => by rw [PyData.hasDict] at n; cases n
theorem DwA.dp : ∀ {vs : List V} (ps : List D), PyData.hasDictAll ps = false → DwA K H vs ps → DpAll K H vs ps
  | _, [], _, .nil => .nil
  | _, p :: ps, n, .cons h t => by
    rw [PyData.hasDictAll, Bool.or_eq_false_iff] at n
    exact .cons (Dw.dp p n.1 h) (DwA.dp ps n.2 t)
end
end
section
variable {K : PySem.W.Frag} {M M' : Addr → Prop} {H H' : Hp}
mutual
theorem Dq.dw : ∀ {v : V} (p : D), Dq K M H v p → Dw K H v p
  | _, .none, .non => .non
  | _, .bool b, .bl _ => .bl b
  | _, .int i, .int _ => .int i
  | _, .str x, .str _ => .str x
  | _, .list ds, .lst h _ a => .lst (.inl (.inl h)) (DqA.dw ds a)
  | _, .tuple ds, .tup h a => .tup h (DqA.dw ds a)
  | _, .dict _, .dct h _ => .dct h
theorem DqA.dw : ∀ {vs : List V} (ps : List D), DqA K M H vs ps → DwA K H vs ps
  | _, [], .nil => .nil
  | _, p :: ps, .cons h t => .cons (Dq.dw p h) (DqA.dw ps t)
end
mutual
theorem Dq.mono : ∀ {v : V} (p : D), Dq K M H v p → (∀ a xs, H a = some (.lst xs) → ¬ M a → H' a = some (.lst xs) ∧ ¬ M' a) → (∀ a xs, SqT K H a xs → SqT K H' a xs) → (∀ a, H a = some (.dK []) → ¬ M a → H' a = some (.dK []) ∧ ¬ M' a) → Dq K M' H' v p
  | _, .none, .non, _, _, _ => .non
  | _, .bool b, .bl _, _, _, _ => .bl b
  | _, .int i, .int _, _, _, _ => .int i
  | _, .str x, .str _, _, _, _ => .str x
  | _, .list ds, .lst h n a, k1, k2, k3 => .lst (k1 _ _ h n).1 (k1 _ _ h n).2 (DqA.mono ds a k1 k2 k3)
  | _, .tuple ds, .tup h a, k1, k2, k3 => .tup (k2 _ _ h) (DqA.mono ds a k1 k2 k3)
  | _, .dict _, .dct h n, _, _, k3 => .dct (k3 _ h n).1 (k3 _ h n).2
theorem DqA.mono : ∀ {vs : List V} (ps : List D), DqA K M H vs ps → (∀ a xs, H a = some (.lst xs) → ¬ M a → H' a = some (.lst xs) ∧ ¬ M' a) → (∀ a xs, SqT K H a xs → SqT K H' a xs) → (∀ a, H a = some (.dK []) → ¬ M a → H' a = some (.dK []) ∧ ¬ M' a) → DqA K M' H' vs ps
  | _, [], .nil, _, _, _ => .nil
  | _, p :: ps, .cons h t, k1, k2, k3 => .cons (Dq.mono p h k1 k2 k3) (DqA.mono ps t k1 k2 k3)
end
theorem DqA.length : ∀ {vs : List V} {ps : List D}, DqA K M H vs ps → vs.length = ps.length
  | _, _, .nil => rfl
  | _, _, .cons _ t => congrArg (· + 1) (DqA.length t)
theorem DqA.get : ∀ {vs : List V} {ps : List D} {i : Nat} {p : D}, DqA K M H vs ps → ps[i]? = some p → ∃ v, vs[i]? = some v ∧ Dq K M H v p
  | _, _, _, _, .nil, e => by simp at e
  | _, _, 0, _, .cons h _, e => by simp at e; subst e; exact ⟨_, rfl, h⟩
  | _, _, i + 1, p, .cons _ t, e => by
    obtain ⟨v, h1, h2⟩ := DqA.get (i := i) (p := p) t (by simpa using e)
    exact ⟨v, by simpa using h1, h2⟩
theorem DqA.get' : ∀ {vs : List V} {ps : List D} {i : Nat} {v : V}, DqA K M H vs ps → vs[i]? = some v → ∃ p, ps[i]? = some p ∧ Dq K M H v p
  | _, _, _, _, .nil, e => by simp at e
  | _, _, 0, _, .cons h _, e => by simp at e; subst e; exact ⟨_, rfl, h⟩
  | _, _, i + 1, p, .cons _ t, e => by
    obtain ⟨v, h1, h2⟩ := DqA.get' (i := i) (v := p) t (by simpa using e)
    exact ⟨v, by simpa using h1, h2⟩
theorem DqA.append : ∀ {vs ws : List V} {ps qs : List D}, DqA K M H vs ps → DqA K M H ws qs → DqA K M H (vs ++ ws) (ps ++ qs)
  | _, _, _, _, .nil, s => s
  | _, _, _, _, .cons h t, s => .cons h (DqA.append t s)
theorem DqA.take : ∀ {vs : List V} {ps : List D} (n : Nat), DqA K M H vs ps → DqA K M H (vs.take n) (ps.take n)
  | _, _, 0, _ => .nil
  | _, _, _ + 1, .nil => .nil
  | _, _, n + 1, .cons h t => .cons h (DqA.take n t)
theorem DqA.drop : ∀ {vs : List V} {ps : List D} (n : Nat), DqA K M H vs ps → DqA K M H (vs.drop n) (ps.drop n)
  | _, _, 0, h => h
  | _, _, _ + 1, .nil => .nil
  | _, _, n + 1, .cons _ t => DqA.drop n t
theorem DqA.set {v : V} {p : D} (h : Dq K M H v p) : ∀ {vs : List V} {ps : List D} (i : Nat), DqA K M H vs ps → DqA K M H (vs.set i v) (ps.set i p)
  | _, _, _, .nil => .nil
  | _, _, 0, .cons _ t => .cons h t
  | _, _, i + 1, .cons q t => .cons q (DqA.set h i t)
theorem DqA.ints : ∀ (l : List Int), DqA K M H (l.map V.int) (l.map PyData.int)
  | [] => .nil
  | i :: r => .cons (.int i) (DqA.ints r)
theorem DqA.ofInts : ∀ {vs : List V} {ps : List D} {ns : List Int}, DqA K M H vs ps → intsOf ps = some ns → vs = ns.map V.int ∧ ps = ns.map PyData.int
  | _, _, ns, .nil, e => by
    have e' : ([] : List Int) = ns := Option.some.inj e
    subst e'; exact ⟨rfl, rfl⟩
  | _, _, ns, .cons (d := d) (ds := ds) h t, e => by
    cases h with
    | int i =>
      have e' : (intsOf ds).map (i :: ·) = some ns := e
      cases q : intsOf ds with
      | none => rw [q] at e'; cases e'
      | some m =>
        rw [q] at e'
        have e2 : i :: m = ns := Option.some.inj e'
        subst e2
        obtain ⟨h1, h2⟩ := DqA.ofInts t q
        subst h1
        rw [h2]
        exact ⟨rfl, rfl⟩
    | _ => cases e
theorem DqA.ofBools : ∀ {vs : List V} {ps : List D} {bs : List Bool}, DqA K M H vs ps → boolsOf ps = some bs → vs = bs.map V.bl
  | _, _, ns, .nil, e => by
    have e' : ([] : List Bool) = ns := Option.some.inj e
    subst e'; rfl
  | _, _, ns, .cons (d := d) (ds := ds) h t, e => by
    cases h with
    | bl i =>
      have e' : (boolsOf ds).map (i :: ·) = some ns := e
      cases q : boolsOf ds with
      | none => rw [q] at e'; cases e'
      | some m =>
        rw [q] at e'
        have e2 : i :: m = ns := Option.some.inj e'
        subst e2
        rw [DqA.ofBools t q]
        rfl
    | _ => cases e
end
/-! ### the writable lists of a frame -/
structure Wd where
  mu : List Addr
  nu : List Addr
def Wd.W (g : Wd) (a : Addr) : Prop := a ∈ g.mu ∨ a ∈ g.nu
def Ms (Pr : Addr → Prop) (g : Wd) (a : Addr) : Prop := g.W a ∨ Pr a
/-- .. a list that is handed in whole (the script) -/
def KLst (K : PySem.W.Frag) (a : Addr) (xs : List V) : Prop := ∃ (o : Obj) (its : Array Value) (n : Nat), K.lookup a = some o ∧ o.cls = .type "list" ∧ o.dict = none ∧ o.data = .seq its n ∧ its.size ≤ sizeLine ∧ Vals xs its.toList
def VR (K : PySem.W.Frag) (Pr : Addr → Prop) (g : Wd) (H : Hp) : Val → V → Prop
  | .d p, v => Dq K (Ms Pr g) H v p
  | .fl i, v => ∃ a, g.mu[i]? = some a ∧ v = .ref a
  | .ne i, v => ∃ a, g.nu[i]? = some a ∧ v = .ref a
  | .sc l, v => ∃ a, v = .ref a ∧ ((Rd H a (.lst (l.map V.int)) ∧ ¬ Ms Pr g a) ∨ KLst K a (l.map V.int))
inductive VRs (K : PySem.W.Frag) (Pr : Addr → Prop) (g : Wd) (H : Hp) : List Val → List V → Prop
  | nil : VRs K Pr g H [] []
  | cons {u : Val} {us : List Val} {v : V} {vs : List V} : VR K Pr g H u v → VRs K Pr g H us vs → VRs K Pr g H (u :: us) (v :: vs)
/-- the entries of a dict -/
inductive KqA (K : PySem.W.Frag) (M : Addr → Prop) (H : Hp) : List (Key × V) → List (Key × D) → Prop
  | nil : KqA K M H [] []
  | cons {k : Key} {v : V} {d : D} {es : List (Key × V)} {kvs : List (Key × D)} : Dq K M H v d → KqA K M H es kvs → KqA K M H ((k, v) :: es) ((k, d) :: kvs)
section
variable {K : PySem.W.Frag} {M M' : Addr → Prop} {H H' : Hp}
theorem KqA.mono : ∀ {es : List (Key × V)} {kvs : List (Key × D)}, KqA K M H es kvs → (∀ (v : V) (p : D), Dq K M H v p → Dq K M' H' v p) → KqA K M' H' es kvs
  | _, _, .nil, _ => .nil
  | _, _, .cons h t, f => .cons (f _ _ h) (KqA.mono t f)
theorem KqA.length : ∀ {es : List (Key × V)} {kvs : List (Key × D)}, KqA K M H es kvs → es.length = kvs.length
  | _, _, .nil => rfl
  | _, _, .cons _ t => congrArg (· + 1) (KqA.length t)
theorem KqA.get (q : Key) : ∀ {es : List (Key × V)} {kvs : List (Key × D)}, KqA K M H es kvs → (getK kvs q = none ∧ valV es q = none) ∨ ∃ p v, getK kvs q = some p ∧ valV es q = some v ∧ Dq K M H v p
  | _, _, .nil => .inl ⟨rfl, rfl⟩
  | _, _, .cons (k := k) (v := v) (d := d) (es := es) (kvs := kvs) h t => by
    unfold getK valV
    rw [List.find?_cons, List.find?_cons]
    by_cases e : k = q
    · simp only [e, decide_true]
      exact .inr ⟨d, v, rfl, rfl, h⟩
    · simp only [e, decide_false]
      exact KqA.get q t
theorem KqA.any (q : Key) : ∀ {es : List (Key × V)} {kvs : List (Key × D)}, KqA K M H es kvs → (es.any fun kv => decide (kv.1 = q)) = kvs.any fun kv => decide (kv.1 = q)
  | _, _, .nil => rfl
  | _, _, .cons _ t => by rw [List.any_cons, List.any_cons, KqA.any q t]
theorem KqA.mapSet (q : Key) {w : V} {p : D} (hw : Dq K M H w p) : ∀ {es : List (Key × V)} {kvs : List (Key × D)}, KqA K M H es kvs → KqA K M H (es.map fun kv => if kv.1 = q then (kv.1, w) else kv) (kvs.map fun kv => if kv.1 = q then (kv.1, p) else kv)
  | _, _, .nil => .nil
  | _, _, .cons (k := k) h t => by
    rw [List.map_cons, List.map_cons]
    by_cases e : k = q
    · simp only [e, if_true]
      exact .cons hw (KqA.mapSet q hw t)
    · simp only [e, if_false]
      exact .cons h (KqA.mapSet q hw t)
theorem KqA.snoc (q : Key) {w : V} {p : D} (hw : Dq K M H w p) : ∀ {es : List (Key × V)} {kvs : List (Key × D)}, KqA K M H es kvs → KqA K M H (es ++ [(q, w)]) (kvs ++ [(q, p)])
  | _, _, .nil => .cons hw .nil
  | _, _, .cons h t => .cons h (KqA.snoc q hw t)
theorem KqA.set (q : Key) {w : V} {p : D} (hw : Dq K M H w p) {es : List (Key × V)} {kvs : List (Key × D)} (h : KqA K M H es kvs) : KqA K M H (putK es q w) (setK kvs q p) := by
  unfold putK setK
  rw [h.any q]
  split
  · exact h.mapSet q hw
  · exact h.snoc q hw
end
theorem len_setK (kvs : List (Key × D)) (k : Key) (v : D) : (setK kvs k v).length ≤ kvs.length + 1 := by
  unfold setK
  split
  · rw [List.length_map]; omega
  · rw [List.length_append]; simp
def CR (K : PySem.W.Frag) (M : Addr → Prop) (H : Hp) : Cell → Addr → Prop
  | .li l, a => l.length ≤ sizeLine ∧ ∃ xs, H a = some (.lst xs) ∧ DqA K M H xs l
  | .di kvs, a => kvs.length ≤ sizeLine ∧ ∃ es, H a = some (.dK es) ∧ KqA K M H es kvs
/-- a list, a dict -/
def HL : List V ⊕ List (Key × V) → HO := Sum.elim HO.lst HO.dK
theorem HL_lst (xs : List V) : HL (.inl xs) = .lst xs := rfl
theorem HL_dK (es : List (Key × V)) : HL (.inr es) = .dK es := rfl
structure Rl (K : PySem.W.Frag) (Pr : Addr → Prop) (g : Wd) (s : Sto) (H : Hp) : Prop where
  lf : g.mu.length = s.F.length
  ln : g.nu.length = s.N.length
  nd : (g.mu ++ g.nu).Nodup
  np : ∀ a, g.W a → ¬ Pr a
  pr : ∀ a, Pr a → ∃ xs, H a = some (HL xs)
  f : ∀ (i : Nat) (a : Addr) (c : Cell), g.mu[i]? = some a → s.F[i]? = some c → CR K (Ms Pr g) H c a
  n : ∀ (i : Nat) (a : Addr) (vs : List Val), g.nu[i]? = some a → s.N[i]? = some vs → ∃ xs, H a = some (.lst xs) ∧ VRs K Pr g H vs xs
structure Ext (g : Wd) (H : Hp) (g' : Wd) (H' : Hp) : Prop where
  pm : g.mu <+: g'.mu
  pn : g.nu <+: g'.nu
  keep : ∀ a o, H a = some o → ¬ g.W a → H' a = some o
  new : ∀ a, g'.W a → ¬ g.W a → H a = none
theorem Wd.sub {g g' : Wd} (pm : g.mu <+: g'.mu) (pn : g.nu <+: g'.nu) {a : Addr} (h : g.W a) : g'.W a := h.elim (fun h => .inl (pm.subset h)) fun h => .inr (pn.subset h)
theorem Ext.refl {g : Wd} {H : Hp} : Ext g H g H := ⟨List.prefix_rfl, List.prefix_rfl, fun _ _ e _ => e, fun _ h n => absurd h n⟩
theorem Ext.trans {g g1 g2 : Wd} {H H1 H2 : Hp} (x : Ext g H g1 H1) (y : Ext g1 H1 g2 H2) : Ext g H g2 H2 where
  pm := x.pm.trans y.pm
  pn := x.pn.trans y.pn
  keep := fun a o e n => y.keep a o (x.keep a o e n) fun w => by rw [x.new a w n] at e; cases e
  new := fun a w n => by
    by_cases h : g1.W a
    · exact x.new a h n
    · cases q : H a with
      | none => rfl
      | some o =>
        have e := x.keep a o q n
        rw [y.new a w h] at e; cases e
theorem pre_get {α : Type} {l l' : List α} (h : l <+: l') {i : Nat} {a : α} (e : l[i]? = some a) : l'[i]? = some a := by
  obtain ⟨r, rfl⟩ := h
  obtain ⟨hi, _⟩ := List.getElem?_eq_some_iff.mp e
  rw [List.getElem?_append_left hi]
  exact e
section
variable {K : PySem.W.Frag} {Pr : Addr → Prop} {g g' : Wd} {H H' : Hp} {s : Sto}
theorem Rl.lt_mu (r : Rl K Pr g s H) {i : Nat} {a : Addr} (e : g.mu[i]? = some a) : ∃ c, s.F[i]? = some c := by
  obtain ⟨h, _⟩ := List.getElem?_eq_some_iff.mp e
  exact ⟨s.F[i]'(by rw [← r.lf]; exact h), List.getElem?_eq_getElem _⟩
theorem Rl.lt_nu (r : Rl K Pr g s H) {i : Nat} {a : Addr} (e : g.nu[i]? = some a) : ∃ c, s.N[i]? = some c := by
  obtain ⟨h, _⟩ := List.getElem?_eq_some_iff.mp e
  exact ⟨s.N[i]'(by rw [← r.ln]; exact h), List.getElem?_eq_getElem _⟩
/-- what is writable is a list -/
theorem Rl.wl (r : Rl K Pr g s H) {a : Addr} (h : g.W a) : ∃ xs, H a = some (HL xs) := by
  rcases h with h | h
  · obtain ⟨i, e⟩ := List.mem_iff_getElem?.mp h
    obtain ⟨c, hc⟩ := r.lt_mu e
    have q := r.f i a c e hc
    cases c with
    | li l => obtain ⟨_, xs, q, _⟩ := q; exact ⟨.inl xs, q⟩
    | di _ => obtain ⟨_, xs, q, _⟩ := q; exact ⟨.inr xs, q⟩
  · obtain ⟨i, e⟩ := List.mem_iff_getElem?.mp h
    obtain ⟨c, hc⟩ := r.lt_nu e
    obtain ⟨xs, q, _⟩ := r.n i a c e hc
    exact ⟨.inl xs, q⟩
theorem Rl.ml (r : Rl K Pr g s H) {a : Addr} (h : Ms Pr g a) : ∃ xs, H a = some (HL xs) := h.elim r.wl (r.pr a)
theorem sqt_ext (r : Rl K Pr g s H) (x : Ext g H g' H') {a : Addr} {xs : List V} (h : SqT K H a xs) : SqT K H' a xs := by
  rcases h with (h | ⟨o, h⟩) | h
  · refine .inl (.inl (x.keep a _ h fun w => ?_))
    obtain ⟨ys, q⟩ := r.wl w
    rw [h] at q; cases ys <;> cases q
  · refine .inl (.inr ⟨o, x.keep a _ h fun w => ?_⟩)
    obtain ⟨ys, q⟩ := r.wl w
    rw [h] at q; cases ys <;> cases q
  · exact .inr h
theorem dK_ext (x : Ext g H g' H') {a : Addr} (h : H a = some (.dK [])) (n : ¬ Ms Pr g a) : H' a = some (.dK []) ∧ ¬ Ms Pr g' a := by
  refine ⟨x.keep a _ h fun w => n (.inl w), fun m => ?_⟩
  rcases m with m | m
  · have := x.new a m fun w => n (.inl w)
    rw [this] at h; cases h
  · exact n (.inr m)
theorem lst_ext (x : Ext g H g' H') {a : Addr} {xs : List V} (h : H a = some (.lst xs)) (n : ¬ Ms Pr g a) : H' a = some (.lst xs) ∧ ¬ Ms Pr g' a := by
  refine ⟨x.keep a _ h fun w => n (.inl w), fun m => ?_⟩
  rcases m with m | m
  · have := x.new a m fun w => n (.inl w)
    rw [this] at h; cases h
  · exact n (.inr m)
theorem Dq.ext (r : Rl K Pr g s H) (x : Ext g H g' H') {v : V} {p : D} (h : Dq K (Ms Pr g) H v p) : Dq K (Ms Pr g') H' v p := Dq.mono p h (fun _ _ e n => lst_ext x e n) (fun _ _ e => sqt_ext r x e) fun _ e n => dK_ext x e n
theorem DqA.ext (r : Rl K Pr g s H) (x : Ext g H g' H') {v : List V} {p : List D} (h : DqA K (Ms Pr g) H v p) : DqA K (Ms Pr g') H' v p := DqA.mono p h (fun _ _ e n => lst_ext x e n) (fun _ _ e => sqt_ext r x e) fun _ e n => dK_ext x e n
theorem KqA.ext (r : Rl K Pr g s H) (x : Ext g H g' H') {es : List (Key × V)} {kvs : List (Key × D)} (h : KqA K (Ms Pr g) H es kvs) : KqA K (Ms Pr g') H' es kvs := h.mono fun _ _ h => h.ext r x
theorem VR.ext (r : Rl K Pr g s H) (x : Ext g H g' H') : ∀ {u : Val} {v : V}, VR K Pr g H u v → VR K Pr g' H' u v
  | .d p, v, h => Dq.ext r x (show Dq K (Ms Pr g) H v p from h)
  | .fl i, v, ⟨a, e, q⟩ => ⟨a, pre_get x.pm e, q⟩
  | .ne i, v, ⟨a, e, q⟩ => ⟨a, pre_get x.pn e, q⟩
  | .sc l, v, ⟨a, e, h⟩ => by
    refine ⟨a, e, h.elim (fun ⟨h, n⟩ => .inl ?_) .inr⟩
    rcases h with h | ⟨o, h⟩
    · obtain ⟨h1, h2⟩ := lst_ext x h n
      exact ⟨.inl h1, h2⟩
    · refine ⟨.inr ⟨o, x.keep a _ h fun w => n (.inl w)⟩, fun m => ?_⟩
      rcases m with m | m
      · have := x.new a m fun w => n (.inl w)
        rw [this] at h; cases h
      · exact n (.inr m)
theorem VRs.ext (r : Rl K Pr g s H) (x : Ext g H g' H') : ∀ {u : List Val} {v : List V}, VRs K Pr g H u v → VRs K Pr g' H' u v
  | _, _, .nil => .nil
  | _, _, .cons h t => .cons (h.ext r x) (VRs.ext r x t)
theorem VRs.length : ∀ {u : List Val} {v : List V}, VRs K Pr g H u v → u.length = v.length
  | _, _, .nil => rfl
  | _, _, .cons _ t => congrArg (· + 1) (VRs.length t)
theorem VRs.get : ∀ {us : List Val} {vs : List V} {i : Nat} {u : Val}, VRs K Pr g H us vs → us[i]? = some u → ∃ v, vs[i]? = some v ∧ VR K Pr g H u v
  | _, _, _, _, .nil, e => by simp at e
  | _, _, 0, _, .cons h _, e => by simp at e; subst e; exact ⟨_, rfl, h⟩
  | _, _, i + 1, p, .cons _ t, e => by
    obtain ⟨v, h1, h2⟩ := VRs.get (i := i) (u := p) t (by simpa using e)
    exact ⟨v, by simpa using h1, h2⟩
theorem VRs.append : ∀ {us ws : List Val} {vs xs : List V}, VRs K Pr g H us vs → VRs K Pr g H ws xs → VRs K Pr g H (us ++ ws) (vs ++ xs)
  | _, _, _, _, .nil, s => s
  | _, _, _, _, .cons h t, s => .cons h (VRs.append t s)
/-- slots -/
def SR (K : PySem.W.Frag) (Pr : Addr → Prop) (g : Wd) (H : Hp) (σa : Env) (σ : L2.St) : Prop :=
  σa.length = σ.length ∧ ∀ (i : Nat) (u : Val), σa[i]? = some (some u) → ∃ v, σ[i]? = some (some v) ∧ VR K Pr g H u v
theorem SR.ext (r : Rl K Pr g s H) (x : Ext g H g' H') {σa : Env} {σ : L2.St} (h : SR K Pr g H σa σ) : SR K Pr g' H' σa σ :=
  ⟨h.1, fun i u e => let ⟨v, e1, e2⟩ := h.2 i u e; ⟨v, e1, e2.ext r x⟩⟩
theorem SR.set {σa : Env} {σ : L2.St} (h : SR K Pr g H σa σ) {i : Nat} {u : Val} {v : V} (hv : VR K Pr g H u v) : SR K Pr g H (σa.set i (some u)) (σ.set i (some v)) := by
  refine ⟨by rw [List.length_set, List.length_set]; exact h.1, fun j w e => ?_⟩
  by_cases hj : i = j
  · subst hj
    by_cases hl : i < σa.length
    · rw [List.getElem?_set_self hl] at e
      cases e
      exact ⟨v, by rw [List.getElem?_set_self (by rw [← h.1]; exact hl)], hv⟩
    · rw [List.getElem?_eq_none (by rw [List.length_set]; omega)] at e; cases e
  · rw [List.getElem?_set_ne hj] at e
    rw [List.getElem?_set_ne hj]
    exact h.2 j w e
theorem SR.unset {σa : Env} {σ : L2.St} (h : SR K Pr g H σa σ) {i : Nat} {x : Option V} : SR K Pr g H (σa.set i none) (σ.set i x) := by
  refine ⟨by rw [List.length_set, List.length_set]; exact h.1, fun j w e => ?_⟩
  by_cases hj : i = j
  · subst hj
    by_cases hl : i < σa.length
    · rw [List.getElem?_set_self hl] at e; cases e
    · rw [List.getElem?_eq_none (by rw [List.length_set]; omega)] at e; cases e
  · rw [List.getElem?_set_ne hj] at e
    rw [List.getElem?_set_ne hj]
    exact h.2 j w e
theorem SR.wipe {σa : Env} {σ : L2.St} (h : SR K Pr g H σa σ) : ∀ vs : List Nat, SR K Pr g H (Em.wipe σa vs) (L2.wipe σ vs)
  | [] => h
  | v :: vs => SR.unset (SR.wipe h vs)
/-- a value that can be read as data -/
theorem VR.dp (r : Rl K Pr g s H) {u : Val} {v : V} {p : D} (h : VR K Pr g H u v) (e : s.snapF u = some p) : Dw K H v p := by
  cases u with
  | d q =>
    have e' : q = p := Option.some.inj e
    subst e'
    exact Dq.dw q h
  | fl i =>
    obtain ⟨a, ea, rfl⟩ := h
    obtain ⟨c, hc⟩ := r.lt_mu ea
    have q := r.f i a c ea hc
    unfold Sto.snapF at e
    simp only [hc] at e
    cases c with
    | li l =>
      have e' : PyData.list l = p := Option.some.inj e
      subst e'
      obtain ⟨_, xs, h1, h2⟩ := q
      exact .lst (.inl (.inl h1)) (DqA.dw l h2)
    | di _ => cases e
  | ne i => cases e
  | sc l =>
    have e' : PyData.list (l.map .int) = p := Option.some.inj e
    subst e'
    obtain ⟨a, rfl, h⟩ := h
    exact .lst (h.elim (fun h => .inl h.1) .inr) (DqA.dw _ (DqA.ints (M := fun _ => False) l))
theorem VRs.dp (r : Rl K Pr g s H) : ∀ {us : List Val} {vs : List V} {ps : List D}, VRs K Pr g H us vs → us.mapM s.snapF = some ps → DwA K H vs ps
  | _, _, ps, .nil, e => by
    have e' : ([] : List D) = ps := by simpa using e
    subst e'; exact .nil
  | _, _, ps, .cons (u := u) (us := us) h t, e => by
    rw [List.mapM_cons] at e
    cases q : s.snapF u with
    | none => rw [q] at e; cases e
    | some p =>
      cases q2 : us.mapM s.snapF with
      | none => rw [q, q2] at e; cases e
      | some qs =>
        rw [q, q2] at e
        have e' : p :: qs = ps := Option.some.inj e
        subst e'
        exact .cons (h.dp r q) (VRs.dp r t q2)
theorem VR.dps (r : Rl K Pr g s H) {u : Val} {v : V} {p : D} (h : VR K Pr g H u v) (e : s.snap u = some p) : Dw K H v p := by
  cases u with
  | ne i =>
    obtain ⟨a, ea, rfl⟩ := h
    obtain ⟨c, hc⟩ := r.lt_nu ea
    obtain ⟨xs, h1, h2⟩ := r.n i a c ea hc
    unfold Sto.snap at e
    simp only [hc] at e
    cases q : c.mapM s.snapF with
    | none => rw [q] at e; cases e
    | some ps =>
      rw [q] at e
      have e' : PyData.list ps = p := Option.some.inj e
      subst e'
      exact .lst (.inl (.inl h1)) (VRs.dp r h2 q)
  | d q => exact VR.dp r h e
  | fl i => exact VR.dp r h e
  | sc l => exact VR.dp r h e
end
end Em
end

section
set_option Elab.async false
set_option linter.all false
set_option maxRecDepth 100000
set_option maxHeartbeats 800000
/-! EmC: readings of the small language; new lists; two-place operations. -/
namespace Em
open PySem PySem.Spec PyProof.Rows L2
section
variable {K : PySem.W.Frag} {Pr : Addr → Prop} {g g' : Wd} {H H' : Hp} {s : Sto}
/-- what is wanted behind an evaluation that ends well -/
def tR (K : PySem.W.Frag) (f : Env → Sto → R Val) : TE := fun σ H Q => ∃ (Pr : Addr → Prop) (g : Wd) (s : Sto) (σa : Env) (u : Val) (s' : Sto), Rl K Pr g s H ∧ SR K Pr g H σa σ ∧ f σa s = .ok u s' ∧
  ∀ v H' g', Ext g H g' H' → Rl K Pr g' s' H' → VR K Pr g' H' u v → Q v H'
def tT (K : PySem.W.Frag) (f : Env → Sto → R Bool) : TT := fun σ H Q => ∃ (Pr : Addr → Prop) (g : Wd) (s : Sto) (σa : Env) (b : Bool) (s' : Sto), Rl K Pr g s H ∧ SR K Pr g H σa σ ∧ f σa s = .ok b s' ∧
  ∀ H' g', Ext g H g' H' → Rl K Pr g' s' H' → Q b H'
def tA (K : PySem.W.Frag) (f : Env → Sto → R (List Val)) : TA := fun σ H Q => ∃ (Pr : Addr → Prop) (g : Wd) (s : Sto) (σa : Env) (us : List Val) (s' : Sto), Rl K Pr g s H ∧ SR K Pr g H σa σ ∧ f σa s = .ok us s' ∧
  ∀ vs H' g', Ext g H g' H' → Rl K Pr g' s' H' → VRs K Pr g' H' us vs → Q vs H'
/-- by values -/
def r1 (K : PySem.W.Frag) (f : Val → Sto → R Val) : V → Hp → VK → Prop := fun vx H Q => ∃ (Pr : Addr → Prop) (g : Wd) (s : Sto) (x u : Val) (s' : Sto), Rl K Pr g s H ∧ VR K Pr g H x vx ∧ f x s = .ok u s' ∧
  ∀ v H' g', Ext g H g' H' → Rl K Pr g' s' H' → VR K Pr g' H' u v → Q v H'
def r2 (K : PySem.W.Frag) (f : Val → Val → Sto → R Val) : R2 := fun vx vy H Q => ∃ (Pr : Addr → Prop) (g : Wd) (s : Sto) (x y u : Val) (s' : Sto), Rl K Pr g s H ∧ VR K Pr g H x vx ∧ VR K Pr g H y vy ∧ f x y s = .ok u s' ∧
  ∀ v H' g', Ext g H g' H' → Rl K Pr g' s' H' → VR K Pr g' H' u v → Q v H'
def rs (K : PySem.W.Frag) (f : List Val → Sto → R Val) : List V → Hp → VK → Prop := fun vs H Q => ∃ (Pr : Addr → Prop) (g : Wd) (s : Sto) (us : List Val) (u : Val) (s' : Sto), Rl K Pr g s H ∧ VRs K Pr g H us vs ∧ f us s = .ok u s' ∧
  ∀ v H' g', Ext g H g' H' → Rl K Pr g' s' H' → VR K Pr g' H' u v → Q v H'
theorem tR_seq1 {fa : Env → Sto → R Val} {f : Val → Sto → R Val} {σ : L2.St} {Q : VK} (h : tR K (fun σ s => (fa σ s).bd f) σ H Q) : tUn (r1 K f) (tR K fa) σ H Q := by
  obtain ⟨Pr, g, s, σa, u, s', R0, S0, e, k⟩ := h
  obtain ⟨x, s1, e1, e⟩ := R.bd_eq e
  exact ⟨Pr, g, s, σa, x, s1, R0, S0, e1, fun vx H1 g1 X1 R1 V1 => ⟨Pr, g1, s1, x, u, s', R1, V1, e, fun v H' g' X R V => k v H' g' (X1.trans X) R V⟩⟩
theorem tR_seq2 {fa fb : Env → Sto → R Val} {f : Val → Val → Sto → R Val} {σ : L2.St} {Q : VK} (h : tR K (fun σ s => (fa σ s).bd fun x s1 => (fb σ s1).bd fun y s2 => f x y s2) σ H Q) : tOp (r2 K f) (tR K fa) (tR K fb) σ H Q := by
  obtain ⟨Pr, g, s, σa, u, s', R0, S0, e, k⟩ := h
  obtain ⟨x, s1, e1, e⟩ := R.bd_eq e
  obtain ⟨y, s2, e2, e⟩ := R.bd_eq e
  exact ⟨Pr, g, s, σa, x, s1, R0, S0, e1, fun vx H1 g1 X1 R1 V1 => ⟨Pr, g1, s1, σa, y, s2, R1, S0.ext R0 X1, e2, fun vy H2 g2 X2 R2 V2 =>
    ⟨Pr, g2, s2, x, y, u, s', R2, V1.ext R1 X2, V2, e, fun v H' g' X R V => k v H' g' ((X1.trans X2).trans X) R V⟩⟩⟩
theorem tR_seqs {fa : Env → Sto → R (List Val)} {f : List Val → Sto → R Val} {σ : L2.St} {Q : VK} (h : tR K (fun σ s => (fa σ s).bd f) σ H Q) : (tA K fa) σ H (fun vs H1 => rs K f vs H1 Q) := by
  obtain ⟨Pr, g, s, σa, u, s', R0, S0, e, k⟩ := h
  obtain ⟨x, s1, e1, e⟩ := R.bd_eq e
  exact ⟨Pr, g, s, σa, x, s1, R0, S0, e1, fun vx H1 g1 X1 R1 V1 => ⟨Pr, g1, s1, x, u, s', R1, V1, e, fun v H' g' X R V => k v H' g' (X1.trans X) R V⟩⟩
theorem PE.imp {X : Cx} {e : Expr} {t t' : TE} (h : PE X e t) (i : ∀ σ H Q, t' σ H Q → t σ H Q) : PE X e t' := ⟨fun pins s σ H Q I hw => h.run pins s σ H Q I (i _ _ _ hw)⟩
theorem PT.imp {X : Cx} {e : Expr} {t t' : TT} (h : PT X e t) (i : ∀ σ H Q, t' σ H Q → t σ H Q) : PT X e t' := ⟨fun pins s σ H Q I hw => h.run pins s σ H Q I (i _ _ _ hw)⟩
theorem PA.imp {X : Cx} {e : List Expr} {t t' : TA} (h : PA X e t) (i : ∀ σ H Q, t' σ H Q → t σ H Q) : PA X e t' := ⟨fun pos pins s σ H Q I hw => h.run pos pins s σ H Q I (i _ _ _ hw)⟩
/-! ### what changes -/
theorem ext_new {p : Addr} {o : HO} (hn : H p = none) : Ext g H g (upd H p o) where
  pm := List.prefix_rfl
  pn := List.prefix_rfl
  keep := fun a u e _ => by rw [upd_ne (ne_of_none e hn)]; exact e
  new := fun a h n => absurd h n
/-- nothing that is writable has changed -/
theorem Rl.same (r : Rl K Pr g s H) (x : Ext g H g H') (k : ∀ a, g.W a → H' a = H a) : Rl K Pr g s H' where
  lf := r.lf
  ln := r.ln
  nd := r.nd
  np := r.np
  pr := fun a h => by
    obtain ⟨xs, e⟩ := r.pr a h
    exact ⟨xs, x.keep a _ e fun w => r.np a w h⟩
  f := fun i a c e1 e2 => by
    have q := r.f i a c e1 e2
    cases c with
    | li l =>
      obtain ⟨z, xs, q1, q2⟩ := q
      exact ⟨z, xs, (k a (.inl (List.mem_of_getElem? e1))).trans q1, q2.ext r x⟩
    | di _ =>
      obtain ⟨z, xs, q1, q2⟩ := q
      exact ⟨z, xs, (k a (.inl (List.mem_of_getElem? e1))).trans q1, q2.ext r x⟩
  n := fun i a vs e1 e2 => by
    obtain ⟨xs, q1, q2⟩ := r.n i a vs e1 e2
    exact ⟨xs, (k a (.inr (List.mem_of_getElem? e1))).trans q1, q2.ext r x⟩
theorem Rl.new (r : Rl K Pr g s H) {p : Addr} {o : HO} (hn : H p = none) : Rl K Pr g s (upd H p o) :=
  r.same (ext_new hn) fun a w => by
    obtain ⟨xs, e⟩ := r.wl w
    rw [upd_ne (ne_of_none e hn)]
/-- a new writable list -/
theorem push_mu (r : Rl K Pr g s H) {p : Addr} {xs : List V} {l : List D} (hn : H p = none) (h : DqA K (Ms Pr g) H xs l) (hz : l.length ≤ sizeLine) :
    Ext g H ⟨g.mu ++ [p], g.nu⟩ (upd H p (.lst xs)) ∧ Rl K Pr ⟨g.mu ++ [p], g.nu⟩ { s with F := s.F ++ [.li l] } (upd H p (.lst xs)) ∧ (g.mu ++ [p])[s.F.length]? = some p := by
  have np : ∀ a, Ms Pr g a → a ≠ p := fun a m => by
    obtain ⟨ys, e⟩ := r.ml m
    exact ne_of_none e hn
  have x : Ext g H ⟨g.mu ++ [p], g.nu⟩ (upd H p (.lst xs)) := by
    refine ⟨List.prefix_append _ _, List.prefix_rfl, fun a u e _ => by rw [upd_ne (ne_of_none e hn)]; exact e, fun a w n => ?_⟩
    rcases w with w | w
    · rcases List.mem_append.mp w with w | w
      · exact absurd (.inl w) n
      · have e : a = p := by simpa using w
        rw [e]; exact hn
    · exact absurd (.inr w) n
  have at_ : (g.mu ++ [p])[s.F.length]? = some p := by rw [← r.lf]; simp
  refine ⟨x, ⟨by simp [r.lf], r.ln, ?_, fun a w q => ?_, fun a q => ?_, fun i a c e1 e2 => ?_, fun i a vs e1 e2 => ?_⟩, at_⟩
  · have d := r.nd
    show (g.mu ++ [p] ++ g.nu).Nodup
    rw [List.append_assoc, List.nodup_append] at *
    refine ⟨d.1, ?_, ?_⟩
    · refine List.nodup_cons.mpr ⟨fun h => np p (.inl (.inr h)) rfl, d.2.1⟩
    · intro a ha b hb e
      subst e
      rcases List.mem_cons.mp hb with e | hb
      · exact np a (.inl (.inl ha)) e
      · exact d.2.2 a ha a hb rfl
  · rcases w with w | w
    · rcases List.mem_append.mp w with w | w
      · exact r.np a (.inl w) q
      · have e : a = p := by simpa using w
        exact np a (.inr q) e
    · exact r.np a (.inr w) q
  · obtain ⟨ys, e⟩ := r.pr a q
    exact ⟨ys, by rw [upd_ne (np a (.inr q))]; exact e⟩
  · by_cases hi : i < s.F.length
    · have e1' : g.mu[i]? = some a := by
        have e1 : (g.mu ++ [p])[i]? = some a := e1
        rw [List.getElem?_append_left (by rw [r.lf]; exact hi)] at e1
        exact e1
      have e2' : s.F[i]? = some c := by
        have e2 : (s.F ++ [Cell.li l])[i]? = some c := e2
        rw [List.getElem?_append_left hi] at e2
        exact e2
      have q := r.f i a c e1' e2'
      cases c with
      | li l' =>
        obtain ⟨z, ys, q1, q2⟩ := q
        exact ⟨z, ys, by rw [upd_ne (np a (.inl (.inl (List.mem_of_getElem? e1'))))]; exact q1, q2.ext r x⟩
      | di _ =>
        obtain ⟨z, ys, q1, q2⟩ := q
        exact ⟨z, ys, by rw [upd_ne (np a (.inl (.inl (List.mem_of_getElem? e1'))))]; exact q1, q2.ext r x⟩
    · have e2 : (s.F ++ [Cell.li l])[i]? = some c := e2
      rw [List.getElem?_append_right (by omega)] at e2
      have hi2 : i = s.F.length := by
        have := (List.getElem?_eq_some_iff.mp e2).1
        simp at this
        omega
      subst hi2
      have e3 : p = a := Option.some.inj (at_.symm.trans e1)
      subst e3
      simp at e2
      subst e2
      exact ⟨hz, xs, upd_same, h.ext r x⟩
  · obtain ⟨ys, q1, q2⟩ := r.n i a vs e1 e2
    exact ⟨ys, by rw [upd_ne (np a (.inl (.inr (List.mem_of_getElem? e1))))]; exact q1, q2.ext r x⟩
/-- a new writable list of such -/
theorem push_nu (r : Rl K Pr g s H) {p : Addr} {xs : List V} {l : List Val} (hn : H p = none) (h : VRs K Pr g H l xs) :
    Ext g H ⟨g.mu, g.nu ++ [p]⟩ (upd H p (.lst xs)) ∧ Rl K Pr ⟨g.mu, g.nu ++ [p]⟩ { s with N := s.N ++ [l] } (upd H p (.lst xs)) ∧ (g.nu ++ [p])[s.N.length]? = some p := by
  have np : ∀ a, Ms Pr g a → a ≠ p := fun a m => by
    obtain ⟨ys, e⟩ := r.ml m
    exact ne_of_none e hn
  have x : Ext g H ⟨g.mu, g.nu ++ [p]⟩ (upd H p (.lst xs)) := by
    refine ⟨List.prefix_rfl, List.prefix_append _ _, fun a u e _ => by rw [upd_ne (ne_of_none e hn)]; exact e, fun a w n => ?_⟩
    rcases w with w | w
    · exact absurd (.inl w) n
    · rcases List.mem_append.mp w with w | w
      · exact absurd (.inr w) n
      · have e : a = p := by simpa using w
        rw [e]; exact hn
  have at_ : (g.nu ++ [p])[s.N.length]? = some p := by rw [← r.ln]; simp
  refine ⟨x, ⟨r.lf, by simp [r.ln], ?_, fun a w q => ?_, fun a q => ?_, fun i a c e1 e2 => ?_, fun i a vs e1 e2 => ?_⟩, at_⟩
  · have d := r.nd
    show (g.mu ++ (g.nu ++ [p])).Nodup
    rw [← List.append_assoc, List.nodup_append]
    refine ⟨d, by simp, ?_⟩
    intro a ha b hb e
    subst e
    have e : a = p := by simpa using hb
    exact np a (.inl ((List.mem_append.mp ha).elim .inl .inr)) e
  · rcases w with w | w
    · exact r.np a (.inl w) q
    · rcases List.mem_append.mp w with w | w
      · exact r.np a (.inr w) q
      · have e : a = p := by simpa using w
        exact np a (.inr q) e
  · obtain ⟨ys, e⟩ := r.pr a q
    exact ⟨ys, by rw [upd_ne (np a (.inr q))]; exact e⟩
  · have q := r.f i a c e1 e2
    cases c with
    | li l' =>
      obtain ⟨z, ys, q1, q2⟩ := q
      exact ⟨z, ys, by rw [upd_ne (np a (.inl (.inl (List.mem_of_getElem? e1))))]; exact q1, q2.ext r x⟩
    | di _ =>
      obtain ⟨z, ys, q1, q2⟩ := q
      exact ⟨z, ys, by rw [upd_ne (np a (.inl (.inl (List.mem_of_getElem? e1))))]; exact q1, q2.ext r x⟩
  · by_cases hi : i < s.N.length
    · have e1' : g.nu[i]? = some a := by
        have e1 : (g.nu ++ [p])[i]? = some a := e1
        rw [List.getElem?_append_left (by rw [r.ln]; exact hi)] at e1
        exact e1
      have e2' : s.N[i]? = some vs := by
        have e2 : (s.N ++ [l])[i]? = some vs := e2
        rw [List.getElem?_append_left hi] at e2
        exact e2
      obtain ⟨ys, q1, q2⟩ := r.n i a vs e1' e2'
      exact ⟨ys, by rw [upd_ne (np a (.inl (.inr (List.mem_of_getElem? e1'))))]; exact q1, q2.ext r x⟩
    · have e2 : (s.N ++ [l])[i]? = some vs := e2
      rw [List.getElem?_append_right (by omega)] at e2
      have hi2 : i = s.N.length := by
        have := (List.getElem?_eq_some_iff.mp e2).1
        simp at this
        omega
      subst hi2
      have e3 : p = a := Option.some.inj (at_.symm.trans e1)
      subst e3
      simp at e2
      subst e2
      exact ⟨xs, upd_same, h.ext r x⟩
/-- a new list, held as m tells -/
theorem mkL_ok (r : Rl K Pr g s H) {m : Mode} {l : List D} {u : Val} {s' : Sto} (e : mkL m l s = .ok u s') {p : Addr} {xs : List V} (hn : H p = none) (h : DqA K (Ms Pr g) H xs l) (hz : l.length ≤ sizeLine) :
    ∃ g', Ext g H g' (upd H p (.lst xs)) ∧ Rl K Pr g' s' (upd H p (.lst xs)) ∧ VR K Pr g' (upd H p (.lst xs)) u (.ref p) := by
  have np : ¬ Ms Pr g p := fun m => by
    obtain ⟨ys, q⟩ := r.ml m
    rw [hn] at q; cases q
  cases m with
  | fr =>
    injection e with e1 e2
    subst e1; subst e2
    exact ⟨g, ext_new hn, r.new hn, .lst upd_same np (h.ext r (ext_new hn))⟩
  | fl =>
    injection e with e1 e2
    subst e1; subst e2
    obtain ⟨x, r', q⟩ := push_mu r hn h hz
    exact ⟨_, x, r', ⟨p, q, rfl⟩⟩
  | ne => cases e
theorem valD_all : ∀ {us : List Val} {vs : List V} {ps : List D}, VRs K Pr g H us vs → us.mapM valD = some ps → DqA K (Ms Pr g) H vs ps
  | _, _, ps, .nil, e => by
    have e' : ([] : List D) = ps := by simpa using e
    subst e'; exact .nil
  | _, _, ps, .cons (u := u) (us := us) h t, e => by
    rw [List.mapM_cons] at e
    cases u with
    | d p =>
      cases q2 : us.mapM valD with
      | none => rw [q2] at e; cases e
      | some qs =>
        rw [q2] at e
        have e' : p :: qs = ps := Option.some.inj e
        subst e'
        exact .cons h (valD_all t q2)
    | fl i => cases e
    | ne i => cases e
    | sc l => cases e
theorem mkV_ok (r : Rl K Pr g s H) {m : Mode} {l : List Val} {u : Val} {s' : Sto} (e : mkV m l s = .ok u s') {p : Addr} {xs : List V} (hn : H p = none) (h : VRs K Pr g H l xs) (hz : xs.length ≤ sizeLine) :
    ∃ g', Ext g H g' (upd H p (.lst xs)) ∧ Rl K Pr g' s' (upd H p (.lst xs)) ∧ VR K Pr g' (upd H p (.lst xs)) u (.ref p) := by
  have fl : ∀ m, (match l.mapM valD with
    | some ds => mkL m ds s
    | none => .bad) = R.ok u s' → ∃ g', Ext g H g' (upd H p (.lst xs)) ∧ Rl K Pr g' s' (upd H p (.lst xs)) ∧ VR K Pr g' (upd H p (.lst xs)) u (.ref p) := fun m e => by
    cases q : l.mapM valD with
    | none => rw [q] at e; cases e
    | some ds =>
      rw [q] at e
      have h' := valD_all h q
      exact mkL_ok r e hn h' (by rw [← h'.length]; exact hz)
  cases m with
  | fr => exact fl .fr e
  | fl => exact fl .fl e
  | ne =>
    injection e with e1 e2
    subst e1; subst e2
    obtain ⟨x, r', q⟩ := push_nu r hn h
    exact ⟨_, x, r', ⟨p, q, rfl⟩⟩
/-- a list of the store is changed -/
theorem write_mu (r : Rl K Pr g s H) {j : Nat} {a : Addr} {xs : List V} {l : List D} (ea : g.mu[j]? = some a) (h : DqA K (Ms Pr g) H xs l) (hz : l.length ≤ sizeLine) :
    Ext g H g (upd H a (.lst xs)) ∧ Rl K Pr g { s with F := s.F.set j (.li l) } (upd H a (.lst xs)) := by
  have wa : g.W a := .inl (List.mem_of_getElem? ea)
  have x : Ext g H g (upd H a (.lst xs)) := ⟨List.prefix_rfl, List.prefix_rfl, fun b o e n => by rw [upd_ne fun z => n (by rw [z]; exact wa)]; exact e, fun b w n => absurd w n⟩
  have d := List.nodup_append.mp r.nd
  refine ⟨x, ⟨by simp [r.lf], r.ln, r.nd, r.np, fun b q => ?_, fun i b c e1 e2 => ?_, fun i b vs e1 e2 => ?_⟩⟩
  · obtain ⟨ys, e⟩ := r.pr b q
    exact ⟨ys, x.keep b _ e fun w => r.np b w q⟩
  · by_cases hij : j = i
    · subst hij
      have e3 : a = b := Option.some.inj (ea.symm.trans e1)
      subst e3
      have hl : j < s.F.length := by rw [← r.lf]; exact (List.getElem?_eq_some_iff.mp ea).1
      have e2 : (s.F.set j (Cell.li l))[j]? = some c := e2
      rw [List.getElem?_set_self hl] at e2
      cases e2
      exact ⟨hz, xs, upd_same, h.ext r x⟩
    · have e2 : (s.F.set j (Cell.li l))[i]? = some c := e2
      rw [List.getElem?_set_ne hij] at e2
      have hb : b ≠ a := fun z => hij (by
        subst z
        obtain ⟨h1, q1⟩ := List.getElem?_eq_some_iff.mp ea
        obtain ⟨h2, q2⟩ := List.getElem?_eq_some_iff.mp e1
        exact (List.getElem_inj d.1).mp (q1.trans q2.symm))
      have q := r.f i b c e1 e2
      cases c with
      | li l' =>
        obtain ⟨z, ys, q1, q2⟩ := q
        exact ⟨z, ys, by rw [upd_ne hb]; exact q1, q2.ext r x⟩
      | di _ =>
        obtain ⟨z, ys, q1, q2⟩ := q
        exact ⟨z, ys, by rw [upd_ne hb]; exact q1, q2.ext r x⟩
  · obtain ⟨ys, q1, q2⟩ := r.n i b vs e1 e2
    have hb : b ≠ a := fun z => d.2.2 a (List.mem_of_getElem? ea) b (List.mem_of_getElem? e1) z.symm
    exact ⟨ys, by rw [upd_ne hb]; exact q1, q2.ext r x⟩
theorem write_nu (r : Rl K Pr g s H) {j : Nat} {a : Addr} {xs : List V} {l : List Val} (ea : g.nu[j]? = some a) (h : VRs K Pr g H l xs) :
    Ext g H g (upd H a (.lst xs)) ∧ Rl K Pr g { s with N := s.N.set j l } (upd H a (.lst xs)) := by
  have wa : g.W a := .inr (List.mem_of_getElem? ea)
  have x : Ext g H g (upd H a (.lst xs)) := ⟨List.prefix_rfl, List.prefix_rfl, fun b o e n => by rw [upd_ne fun z => n (by rw [z]; exact wa)]; exact e, fun b w n => absurd w n⟩
  have d := List.nodup_append.mp r.nd
  refine ⟨x, ⟨r.lf, by simp [r.ln], r.nd, r.np, fun b q => ?_, fun i b c e1 e2 => ?_, fun i b vs e1 e2 => ?_⟩⟩
  · obtain ⟨ys, e⟩ := r.pr b q
    exact ⟨ys, x.keep b _ e fun w => r.np b w q⟩
  · have q := r.f i b c e1 e2
    have hb : b ≠ a := fun z => d.2.2 b (List.mem_of_getElem? e1) a (List.mem_of_getElem? ea) z
    cases c with
    | li l' =>
      obtain ⟨z, ys, q1, q2⟩ := q
      exact ⟨z, ys, by rw [upd_ne hb]; exact q1, q2.ext r x⟩
    | di _ =>
      obtain ⟨z, ys, q1, q2⟩ := q
      exact ⟨z, ys, by rw [upd_ne hb]; exact q1, q2.ext r x⟩
  · by_cases hij : j = i
    · subst hij
      have e3 : a = b := Option.some.inj (ea.symm.trans e1)
      subst e3
      have hl : j < s.N.length := by rw [← r.ln]; exact (List.getElem?_eq_some_iff.mp ea).1
      have e2 : (s.N.set j l)[j]? = some vs := e2
      rw [List.getElem?_set_self hl] at e2
      cases e2
      exact ⟨xs, upd_same, h.ext r x⟩
    · have e2 : (s.N.set j l)[i]? = some vs := e2
      rw [List.getElem?_set_ne hij] at e2
      have hb : b ≠ a := fun z => hij (by
        subst z
        obtain ⟨h1, q1⟩ := List.getElem?_eq_some_iff.mp ea
        obtain ⟨h2, q2⟩ := List.getElem?_eq_some_iff.mp e1
        exact (List.getElem_inj d.2.1).mp (q1.trans q2.symm))
      obtain ⟨ys, q1, q2⟩ := r.n i b vs e1 e2
      exact ⟨ys, by rw [upd_ne hb]; exact q1, q2.ext r x⟩
/-- a list as data whose items are nobody's -/
theorem VR.lst (r : Rl K Pr g s H) {u : Val} {v : V} {l : List D} (h : VR K Pr g H u v) (e : s.snapF u = some (.list l)) : ∃ a xs, v = .ref a ∧ SqL K H a xs ∧ DqA K (Ms Pr g) H xs l ∧ ((∀ n, u ≠ .sc n) → H a = some (.lst xs)) := by
  cases u with
  | d q =>
    have e' : q = .list l := Option.some.inj e
    subst e'
    cases h with
    | lst h1 h2 h3 => exact ⟨_, _, rfl, .inl (.inl h1), h3, fun _ => h1⟩
  | fl i =>
    obtain ⟨a, ea, rfl⟩ := h
    obtain ⟨c, hc⟩ := r.lt_mu ea
    have q := r.f i a c ea hc
    unfold Sto.snapF at e
    simp only [hc] at e
    cases c with
    | li l' =>
      have e' : PyData.list l' = .list l := Option.some.inj e
      cases e'
      obtain ⟨_, xs, h1, h2⟩ := q
      exact ⟨a, xs, rfl, .inl (.inl h1), h2, fun _ => h1⟩
    | di _ => cases e
  | ne i => cases e
  | sc n =>
    have e' : PyData.list (n.map .int) = .list l := Option.some.inj e
    cases e'
    obtain ⟨a, rfl, h⟩ := h
    exact ⟨a, n.map V.int, rfl, h.elim (fun h => .inl h.1) .inr, DqA.ints n, fun z => absurd rfl (z n)⟩
theorem VR.tup {u : Val} {v : V} {l : List D} (h : VR K Pr g H u v) (e : s.snapF u = some (.tuple l)) : ∃ a xs, v = .ref a ∧ SqT K H a xs ∧ DqA K (Ms Pr g) H xs l := by
  cases u with
  | d q =>
    have e' : q = .tuple l := Option.some.inj e
    subst e'
    cases h with
    | tup h1 h2 => exact ⟨_, _, rfl, h1, h2⟩
  | fl i =>
    have e : (match s.F[i]? with
      | some (.li l) => some (PyData.list l)
      | _ => none) = some (.tuple l) := e
    split at e <;> cases e
  | ne i => cases e
  | sc n => cases e
theorem VR.int {u : Val} {v : V} {i : Int} (h : VR K Pr g H u v) (e : s.snapF u = some (.int i)) : v = .int i := by
  cases u with
  | d q =>
    have e' : q = .int i := Option.some.inj e
    subst e'
    cases h
    rfl
  | fl j =>
    have e : (match s.F[j]? with
      | some (.li l) => some (PyData.list l)
      | _ => none) = some (.int i) := e
    split at e <;> cases e
  | ne j => cases e
  | sc n => cases e
theorem capt_F {u : Val} {p : D} (e : s.capt u = some p) : s.snapF u = some p ∧ ∀ n, u ≠ .sc n := by
  cases u with
  | sc l => cases e
  | d p => exact ⟨e, fun n z => nomatch z⟩
  | fl i => exact ⟨e, fun n z => nomatch z⟩
  | ne i => exact ⟨e, fun n z => nomatch z⟩
theorem VR.lstC (r : Rl K Pr g s H) {u : Val} {v : V} {l : List D} (h : VR K Pr g H u v) (e : s.capt u = some (.list l)) : ∃ a xs, v = .ref a ∧ H a = some (.lst xs) ∧ DqA K (Ms Pr g) H xs l := by
  obtain ⟨e, n⟩ := capt_F e
  obtain ⟨a, xs, h1, _, h2, h3⟩ := h.lst r e
  exact ⟨a, xs, h1, h3 n, h2⟩
theorem VR.tupC {u : Val} {v : V} {l : List D} (h : VR K Pr g H u v) (e : s.capt u = some (.tuple l)) : ∃ a xs, v = .ref a ∧ SqT K H a xs ∧ DqA K (Ms Pr g) H xs l := h.tup (capt_F e).1
theorem VR.intC {u : Val} {v : V} {i : Int} (h : VR K Pr g H u v) (e : s.capt u = some (.int i)) : v = .int i := h.int (capt_F e).1
theorem VR.dpC (r : Rl K Pr g s H) {u : Val} {v : V} {p : D} (h : VR K Pr g H u v) (e : s.capt u = some p) : Dw K H v p := h.dp r (capt_F e).1
end
end Em
end

section
set_option Elab.async false
set_option linter.all false
set_option maxRecDepth 100000
set_option maxHeartbeats 800000
/-! EmD: two-place operations by values. -/
namespace Em
open PySem PySem.Spec PyProof.Rows L2
section
variable {K : PySem.W.Frag} {Pr : Addr → Prop} {g g' : Wd} {H H' : Hp} {s : Sto}
/-- the answer is data that needs no new object -/
theorem flat_end {p : D} {v : V} {Q : VK} (r : Rl K Pr g s H) (h : Dq K (Ms Pr g) H v p) (k : ∀ v H' g', Ext g H g' H' → Rl K Pr g' s H' → VR K Pr g' H' (.d p) v → Q v H') : Q v H := k v H g Ext.refl r h
/-- .. a new tuple -/
theorem tup_end {l : List D} {xs : List V} {Q : VK} {p : Addr} (r : Rl K Pr g s H) (hn : H p = none) (h : DqA K (Ms Pr g) H xs l) (k : ∀ v H' g', Ext g H g' H' → Rl K Pr g' s H' → VR K Pr g' H' (.d (.tuple l)) v → Q v H') : Q (.ref p) (upd H p (.tup xs)) :=
  k _ _ g (ext_new hn) (r.new hn) (Dq.tup (.inl (.inl upd_same)) (h.ext r (ext_new hn)))
/-- .. a new list -/
theorem lst_end {m : Mode} {l : List D} {xs : List V} {Q : VK} {p : Addr} {u : Val} {s' : Sto} (r : Rl K Pr g s H) (e : mkL m l s = .ok u s') (hn : H p = none) (h : DqA K (Ms Pr g) H xs l) (hz : l.length ≤ sizeLine)
    (k : ∀ v H' g', Ext g H g' H' → Rl K Pr g' s' H' → VR K Pr g' H' u v → Q v H') : Q (.ref p) (upd H p (.lst xs)) := by
  obtain ⟨g', x, r', v⟩ := mkL_ok r e hn h hz
  exact k _ _ g' x r' v
theorem op2_cases {o : Op2} {m : Mode} {p q : D} {s s' : Sto} {u : Val} (e : op2 o m p q s = .ok u s') : (∃ l, op2L o p q = some l ∧ mkL m l s = .ok u s') ∨ (∃ r, op2V o p q = some r ∧ u = .d r ∧ s' = s) := by
  unfold op2 at e
  cases h : op2L o p q with
  | some l => rw [h] at e; exact .inl ⟨l, rfl, e⟩
  | none =>
    rw [h] at e
    cases h2 : op2V o p q with
    | none => rw [h2] at e; cases e
    | some r =>
      rw [h2] at e
      injection e with e1 e2
      exact .inr ⟨r, rfl, e1.symm, e2.symm⟩
theorem op2S_cases {o : Op2} {m : Mode} {x y : Val} {s s' : Sto} {u : Val} (e : op2S o m x y s = .ok u s') : ∃ p q, s.see (deepO o) x = some p ∧ s.see (deepO o) y = some q ∧ op2 o m p q s = .ok u s' := by
  unfold op2S at e
  cases h : s.see (deepO o) x with
  | none => rw [h] at e; cases e
  | some p =>
    cases h2 : s.see (deepO o) y with
    | none => rw [h, h2] at e; cases e
    | some q => rw [h, h2] at e; exact ⟨p, q, rfl, rfl, e⟩
theorem sizeMax_eq : sizeMax = sizeLine := by rw [sizeLine_eq]; rfl
theorem DqA.repl {xs : List V} {l : List D} (h : DqA K (Ms Pr g) H xs l) : ∀ n : Nat, DqA K (Ms Pr g) H (List.replicate n xs).flatten (List.replicate n l).flatten
  | 0 => .nil
  | n + 1 => by
    rw [List.replicate_succ, List.replicate_succ, List.flatten_cons, List.flatten_cons]
    exact h.append (DqA.repl h n)
theorem len_repl (l : List D) : ∀ n : Nat, (List.replicate n l).flatten.length = l.length * n
  | 0 => by simp
  | n + 1 => by
    rw [List.replicate_succ, List.flatten_cons, List.length_append, len_repl l n, Nat.mul_succ]
    omega
end
section
variable {X : Cx} {m : Mode}
theorem inv_addL {p q : D} {l : List D} (h : op2L .add p q = some l) : ∃ x y, p = .list x ∧ q = .list y ∧ x.length + y.length ≤ sizeMax ∧ l = x ++ y := by
  cases p <;> cases q <;> try (exact absurd (show none = some _ from h) (fun z => nomatch z))
  rename_i xs ys
  have h' : (if xs.length + ys.length ≤ sizeMax then some (xs ++ ys) else none) = some l := h
  by_cases hz : xs.length + ys.length ≤ sizeMax
  · rw [if_pos hz] at h'
    exact ⟨xs, ys, rfl, rfl, hz, (Option.some.inj h').symm⟩
  · rw [if_neg hz] at h'; cases h'
theorem inv_mulL {p q : D} {l : List D} (h : op2L .mul p q = some l) : ∃ x k, p = .list x ∧ q = .int k ∧ (-(2 ^ 63) ≤ k ∧ k < 2 ^ 63 ∧ x.length * k.toNat ≤ sizeMax) ∧ l = (List.replicate k.toNat x).flatten := by
  cases p <;> cases q <;> try (exact absurd (show none = some _ from h) (fun z => nomatch z))
  rename_i xs k
  have h' : (if -(2 ^ 63) ≤ k ∧ k < 2 ^ 63 ∧ xs.length * k.toNat ≤ sizeMax then some (List.replicate k.toNat xs).flatten else none) = some l := h
  by_cases hz : -(2 ^ 63) ≤ k ∧ k < 2 ^ 63 ∧ xs.length * k.toNat ≤ sizeMax
  · rw [if_pos hz] at h'
    exact ⟨xs, k, rfl, rfl, hz, (Option.some.inj h').symm⟩
  · rw [if_neg hz] at h'; cases h'
theorem opr_add : OpR X (binaryOp .Add) (r2 X.K (op2S .add m)) := by
  intro pins s σ H vx vy v u Q I rx ry h
  obtain ⟨Pr, g, st, x, y, w, s', R0, V1, V2, e, k⟩ := h
  obtain ⟨p, q, e1, e2, e⟩ := op2S_cases e
  replace e1 : st.capt x = some p := e1
  replace e2 : st.capt y = some q := e2
  rcases op2_cases e with ⟨l, hl, hm⟩ | ⟨r, hr, rfl, rfl⟩
  · obtain ⟨xs, ys, rfl, rfl, hz, rfl⟩ := inv_addL hl
    obtain ⟨a, us, rfl, t1, d1⟩ := V1.lstC R0 e1
    obtain ⟨b, ws, rfl, t2, d2⟩ := V2.lstC R0 e2
    exact op_cat pins s σ H _ _ v u Q I rx ry ⟨a, b, us, ws, rfl, rfl, t1, t2, by rw [d1.length, d2.length, ← sizeMax_eq]; exact hz, fun p hp =>
      lst_end R0 hm hp (d1.append d2) (by rw [List.length_append, ← sizeMax_eq]; exact hz) k⟩
  · cases p <;> cases q <;> try (exact absurd (show none = some _ from hr) (fun z => nomatch z))
    · rename_i i j
      have e3 : PyData.int (i + j) = r := Option.some.inj hr
      subst e3
      exact op_add pins s σ H _ _ v u Q I rx ry ⟨i, j, V1.intC e1, V2.intC e2, flat_end R0 (.int _) k⟩
    · rename_i xs ys
      have hr' : (if xs.length + ys.length ≤ sizeMax then some (PyData.tuple (xs ++ ys)) else none) = some r := hr
      by_cases hz : xs.length + ys.length ≤ sizeMax
      · rw [if_pos hz] at hr'
        have e3 := Option.some.inj hr'
        subst e3
        obtain ⟨a, us, rfl, h1, d1⟩ := V1.tupC e1
        obtain ⟨b, ws, rfl, h2, d2⟩ := V2.tupC e2
        refine op_catA pins s σ H _ _ v u Q I rx ry ⟨a, b, us, ws, rfl, rfl, h1, h2, by rw [d1.length, d2.length, ← sizeMax_eq]; exact hz, fun z => ?_, fun _ z => ?_, fun _ _ p hp => ?_⟩
        · subst z
          cases d1
          exact flat_end R0 (.tup h2 d2) k
        · subst z
          cases d2
          rw [List.append_nil] at k
          exact flat_end R0 (.tup h1 d1) k
        · exact tup_end R0 hp (d1.append d2) k
      · rw [if_neg hz] at hr'; cases hr'
theorem opr_sub : OpR X (binaryOp .Sub) (r2 X.K (op2S .sub m)) := by
  intro pins s σ H vx vy v u Q I rx ry h
  obtain ⟨Pr, g, st, x, y, w, s', R0, V1, V2, e, k⟩ := h
  obtain ⟨p, q, e1, e2, e⟩ := op2S_cases e
  rcases op2_cases e with ⟨l, hl, hm⟩ | ⟨r, hr, rfl, rfl⟩
  · cases p <;> cases q <;> exact absurd (show none = some _ from hl) (fun z => nomatch z)
  · cases p <;> cases q <;> try (exact absurd (show none = some _ from hr) (fun z => nomatch z))
    rename_i i j
    have e3 : PyData.int (i - j) = r := Option.some.inj hr
    subst e3
    exact op_sub pins s σ H _ _ v u Q I rx ry ⟨i, j, V1.intC e1, V2.intC e2, flat_end R0 (.int _) k⟩
theorem opr_mul : OpR X (binaryOp .Mult) (r2 X.K (op2S .mul m)) := by
  intro pins s σ H vx vy v u Q I rx ry h
  obtain ⟨Pr, g, st, x, y, w, s', R0, V1, V2, e, k⟩ := h
  obtain ⟨p, q, e1, e2, e⟩ := op2S_cases e
  replace e1 : st.capt x = some p := e1
  replace e2 : st.capt y = some q := e2
  rcases op2_cases e with ⟨l, hl, hm⟩ | ⟨r, hr, rfl, rfl⟩
  · obtain ⟨xs, n, rfl, rfl, ⟨h1, h2, h3⟩, rfl⟩ := inv_mulL hl
    obtain ⟨a, us, rfl, t1, d1⟩ := V1.lstC R0 e1
    have ei := V2.intC e2
    subst ei
    exact op_rep pins s σ H _ _ v u Q I rx ry ⟨a, n, us, rfl, rfl, t1, h1, h2, by rw [d1.length, ← sizeMax_eq]; exact h3, fun p hp => lst_end R0 hm hp (d1.repl _) (by rw [len_repl, ← sizeMax_eq]; exact h3) k⟩
  · cases p <;> cases q <;> try (exact absurd (show none = some _ from hr) (fun z => nomatch z))
    · rename_i i j
      have hr' : (if mulOk i j = true then some (PyData.int (i * j)) else none) = some r := hr
      by_cases hz : mulOk i j = true
      · rw [if_pos hz] at hr'
        have e3 := Option.some.inj hr'
        subst e3
        refine op_mul pins s σ H _ _ v u Q I rx ry ⟨i, j, V1.intC e1, V2.intC e2, ?_, flat_end R0 (.int _) k⟩
        unfold mulOk at hz
        simp only [Bool.or_eq_true, decide_eq_true_eq] at hz
        exact hz
      · rw [if_neg hz] at hr'; cases hr'
    · rename_i xs n
      have hr' : (if xs ≠ [] ∧ 2 ≤ n ∧ n ≤ 1000 ∧ xs.length ≤ 1000 then some (PyData.tuple (List.replicate n.toNat xs).flatten) else none) = some r := hr
      by_cases hz : xs ≠ [] ∧ 2 ≤ n ∧ n ≤ 1000 ∧ xs.length ≤ 1000
      · rw [if_pos hz] at hr'
        have e3 := Option.some.inj hr'
        subst e3
        obtain ⟨h1, h2, h3, h4⟩ := hz
        obtain ⟨a, us, rfl, t1, d1⟩ := V1.tupC e1
        have ei := V2.intC e2
        subst ei
        refine op_repT pins s σ H _ _ v u Q I rx ry ⟨a, n, us, rfl, rfl, t1, fun z => ?_, h2, h3, by rw [d1.length]; exact h4, fun p hp => tup_end R0 hp (d1.repl _) k⟩
        subst z
        cases d1
        exact h1 rfl
      · rw [if_neg hz] at hr'; cases hr'
theorem opr_fdiv : OpR X (binaryOp .FloorDiv) (r2 X.K (op2S .fdiv m)) := by
  intro pins s σ H vx vy v u Q I rx ry h
  obtain ⟨Pr, g, st, x, y, w, s', R0, V1, V2, e, k⟩ := h
  obtain ⟨p, q, e1, e2, e⟩ := op2S_cases e
  rcases op2_cases e with ⟨l, hl, hm⟩ | ⟨r, hr, rfl, rfl⟩
  · cases p <;> cases q <;> exact absurd (show none = some _ from hl) (fun z => nomatch z)
  · cases p <;> cases q <;> try (exact absurd (show none = some _ from hr) (fun z => nomatch z))
    rename_i i j
    have hr' : (if 0 < j ∧ j < 1073741824 then some (PyData.int (i / j)) else none) = some r := hr
    by_cases hz : 0 < j ∧ j < 1073741824
    · rw [if_pos hz] at hr'
      have e3 := Option.some.inj hr'
      subst e3
      exact op_fdiv pins s σ H _ _ v u Q I rx ry ⟨i, j, V1.intC e1, V2.intC e2, hz, flat_end R0 (.int _) k⟩
    · rw [if_neg hz] at hr'; cases hr'
theorem opr_mod : OpR X (binaryOp .Mod) (r2 X.K (op2S .mod m)) := by
  intro pins s σ H vx vy v u Q I rx ry h
  obtain ⟨Pr, g, st, x, y, w, s', R0, V1, V2, e, k⟩ := h
  obtain ⟨p, q, e1, e2, e⟩ := op2S_cases e
  rcases op2_cases e with ⟨l, hl, hm⟩ | ⟨r, hr, rfl, rfl⟩
  · cases p <;> cases q <;> exact absurd (show none = some _ from hl) (fun z => nomatch z)
  · cases p <;> cases q <;> try (exact absurd (show none = some _ from hr) (fun z => nomatch z))
    rename_i i j
    have hr' : (if 0 < j then some (PyData.int (i % j)) else none) = some r := hr
    by_cases hz : 0 < j
    · rw [if_pos hz] at hr'
      have e3 := Option.some.inj hr'
      subst e3
      exact op_mod pins s σ H _ _ v u Q I rx ry ⟨i, j, V1.intC e1, V2.intC e2, hz, flat_end R0 (.int _) k⟩
    · rw [if_neg hz] at hr'; cases hr'
theorem inv_eqL {o : Op2} (ho : o ≠ .add) (ho2 : o ≠ .mul) {p q : D} {l : List D} (h : op2L o p q = some l) : False := by
  cases o <;> first | exact ho rfl | exact ho2 rfl | (cases p <;> cases q <;> cases h)
theorem opr_eq (hu : X.A.units + 64 < cLine) : OpR X (compareOp .Eq) (r2 X.K (op2S .eq m)) := by
  intro pins s σ H vx vy v u Q I rx ry h
  obtain ⟨Pr, g, st, x, y, w, s', R0, V1, V2, e, k⟩ := h
  obtain ⟨p, q, e1, e2, e⟩ := op2S_cases e
  rcases op2_cases e with ⟨l, hl, hm⟩ | ⟨r, hr, rfl, rfl⟩
  · exact (inv_eqL (by decide) (by decide) hl).elim
  · have hr' : (if okEq p q = true then some (PyData.bool (PyData.eqv p q)) else none) = some r := by
      cases p <;> cases q <;> exact hr
    by_cases hz : okEq p q = true
    · rw [if_pos hz] at hr'
      have e3 := Option.some.inj hr'
      subst e3
      unfold okEq at hz
      rw [Bool.and_eq_true] at hz
      exact op_eqD hu pins s σ H _ _ v u Q I rx ry ⟨p, q, (V1.dps R0 e1).dp _ (nd_shaped hz.1), (V2.dps R0 e2).dp _ (nd_shaped hz.2), hz.1, hz.2, flat_end R0 (.bl _) k⟩
    · rw [if_neg hz] at hr'; cases hr'
theorem opr_ne (hu : X.A.units + 64 < cLine) : OpR X (compareOp .NotEq) (r2 X.K (op2S .ne m)) := by
  intro pins s σ H vx vy v u Q I rx ry h
  obtain ⟨Pr, g, st, x, y, w, s', R0, V1, V2, e, k⟩ := h
  obtain ⟨p, q, e1, e2, e⟩ := op2S_cases e
  rcases op2_cases e with ⟨l, hl, hm⟩ | ⟨r, hr, rfl, rfl⟩
  · exact (inv_eqL (by decide) (by decide) hl).elim
  · have hr' : (if okEq p q = true then some (PyData.bool (!PyData.eqv p q)) else none) = some r := by
      cases p <;> cases q <;> exact hr
    by_cases hz : okEq p q = true
    · rw [if_pos hz] at hr'
      have e3 := Option.some.inj hr'
      subst e3
      unfold okEq at hz
      rw [Bool.and_eq_true] at hz
      exact op_neD hu pins s σ H _ _ v u Q I rx ry ⟨p, q, (V1.dps R0 e1).dp _ (nd_shaped hz.1), (V2.dps R0 e2).dp _ (nd_shaped hz.2), hz.1, hz.2, flat_end R0 (.bl _) k⟩
    · rw [if_neg hz] at hr'; cases hr'
theorem opr_lt (hu : X.A.units + 64 < cLine) : OpR X (compareOp .Lt) (r2 X.K (op2S .lt m)) := by
  intro pins s σ H vx vy v u Q I rx ry h
  obtain ⟨Pr, g, st, x, y, w, s', R0, V1, V2, e, k⟩ := h
  obtain ⟨p, q, e1, e2, e⟩ := op2S_cases e
  replace e1 : st.capt x = some p := e1
  replace e2 : st.capt y = some q := e2
  rcases op2_cases e with ⟨l, hl, hm⟩ | ⟨r, hr, rfl, rfl⟩
  · exact (inv_eqL (by decide) (by decide) hl).elim
  · cases p <;> cases q <;> try (exact absurd (show none = some _ from hr) (fun z => nomatch z))
    · rename_i i j
      have e3 : PyData.bool (decide (i < j)) = r := Option.some.inj hr
      subst e3
      exact op_lt pins s σ H _ _ v u Q I rx ry ⟨i, j, V1.intC e1, V2.intC e2, flat_end R0 (.bl _) k⟩
    · rename_i xs ys
      have hr' : (if (PySem.W.alikeAll xs ys && decide (PyData.depth (.tuple xs) ≤ 64) && !PyData.hasDict (.tuple xs) && !PyData.hasDict (.tuple ys)) = true then some (PyData.bool (PySem.W.dataLt (.tuple xs) (.tuple ys))) else none) = some r := hr
      by_cases hz : (PySem.W.alikeAll xs ys && decide (PyData.depth (.tuple xs) ≤ 64) && !PyData.hasDict (.tuple xs) && !PyData.hasDict (.tuple ys)) = true
      · rw [if_pos hz] at hr'
        have e3 := Option.some.inj hr'
        subst e3
        simp only [Bool.and_eq_true, decide_eq_true_eq, Bool.not_eq_true'] at hz
        obtain ⟨⟨hz, n1⟩, n2⟩ := hz
        obtain ⟨as, q1⟩ := Dp.reads I _ _ _ ((V1.dpC R0 e1).dp _ n1) rx
        obtain ⟨bs, q2⟩ := Dp.reads I _ _ _ ((V2.dpC R0 e2).dp _ n2) ry
        have hm : min (PyData.depth (.tuple xs)) (PyData.depth (.tuple ys)) ≤ 64 := Nat.le_trans (Nat.min_le_left _ _) hz.2
        have al : PySem.W.alike (.tuple xs) (.tuple ys) = true := by rw [PySem.W.alike]; exact hz.1
        exact (PySem.W.rcLt_alike _ _ X.A s v u as bs q1 q2 al (fun z => nomatch z) (by omega) _ _ _ _ (flat_end (Q := fun v' H' => EP X pins σ Q (.bool (PySem.W.dataLt (.tuple xs) (.tuple ys))) s) R0 (.bl (PySem.W.dataLt (.tuple xs) (.tuple ys))) (fun v' H' g' X' R' V' => by
          exact ⟨.bl _, H, I, rfl, flat_end R0 (.bl _) k⟩)))
      · rw [if_neg hz] at hr'; cases hr'
theorem opr_le : OpR X (compareOp .LtE) (r2 X.K (op2S .le m)) := by
  intro pins s σ H vx vy v u Q I rx ry h
  obtain ⟨Pr, g, st, x, y, w, s', R0, V1, V2, e, k⟩ := h
  obtain ⟨p, q, e1, e2, e⟩ := op2S_cases e
  rcases op2_cases e with ⟨l, hl, hm⟩ | ⟨r, hr, rfl, rfl⟩
  · exact (inv_eqL (by decide) (by decide) hl).elim
  · cases p <;> cases q <;> try (exact absurd (show none = some _ from hr) (fun z => nomatch z))
    rename_i i j
    have e3 : PyData.bool (decide (i ≤ j)) = r := Option.some.inj hr
    subst e3
    exact op_le pins s σ H _ _ v u Q I rx ry ⟨i, j, V1.intC e1, V2.intC e2, flat_end R0 (.bl _) k⟩
theorem opr_gt : OpR X (compareOp .Gt) (r2 X.K (op2S .gt m)) := by
  intro pins s σ H vx vy v u Q I rx ry h
  obtain ⟨Pr, g, st, x, y, w, s', R0, V1, V2, e, k⟩ := h
  obtain ⟨p, q, e1, e2, e⟩ := op2S_cases e
  rcases op2_cases e with ⟨l, hl, hm⟩ | ⟨r, hr, rfl, rfl⟩
  · exact (inv_eqL (by decide) (by decide) hl).elim
  · cases p <;> cases q <;> try (exact absurd (show none = some _ from hr) (fun z => nomatch z))
    rename_i i j
    have e3 : PyData.bool (decide (j < i)) = r := Option.some.inj hr
    subst e3
    exact op_gt pins s σ H _ _ v u Q I rx ry ⟨i, j, V1.intC e1, V2.intC e2, flat_end R0 (.bl _) k⟩
theorem opr_ge : OpR X (compareOp .GtE) (r2 X.K (op2S .ge m)) := by
  intro pins s σ H vx vy v u Q I rx ry h
  obtain ⟨Pr, g, st, x, y, w, s', R0, V1, V2, e, k⟩ := h
  obtain ⟨p, q, e1, e2, e⟩ := op2S_cases e
  rcases op2_cases e with ⟨l, hl, hm⟩ | ⟨r, hr, rfl, rfl⟩
  · exact (inv_eqL (by decide) (by decide) hl).elim
  · cases p <;> cases q <;> try (exact absurd (show none = some _ from hr) (fun z => nomatch z))
    rename_i i j
    have e3 : PyData.bool (decide (j ≤ i)) = r := Option.some.inj hr
    subst e3
    exact op_ge pins s σ H _ _ v u Q I rx ry ⟨i, j, V1.intC e1, V2.intC e2, flat_end R0 (.bl _) k⟩
theorem opr_in (hu : X.A.units + 65 < cLine) : OpR X (compareOp .In) (r2 X.K (op2S .isIn m)) := by
  intro pins s σ H vx vy v u Q I rx ry h
  obtain ⟨Pr, g, st, x, y, w, s', R0, V1, V2, e, k⟩ := h
  obtain ⟨p, q, e1, e2, e⟩ := op2S_cases e
  replace e1 : st.capt x = some p := e1
  replace e2 : st.capt y = some q := e2
  rcases op2_cases e with ⟨l, hl, hm⟩ | ⟨r, hr, rfl, rfl⟩
  · exact (inv_eqL (by decide) (by decide) hl).elim
  · cases q with
    | list l =>
      have hr' : (if okEq p (.list l) = true then some (PyData.bool (l.any fun z => PyData.eqv z p)) else none) = some r := by cases p <;> exact hr
      by_cases hz : okEq p (.list l) = true
      · rw [if_pos hz] at hr'
        have e3 := Option.some.inj hr'
        subst e3
        unfold okEq at hz
        rw [Bool.and_eq_true] at hz
        exact op_inD hu pins s σ H _ _ v u Q I rx ry ⟨p, l, (V1.dpC R0 e1).dp _ (nd_shaped hz.1), (V2.dpC R0 e2).dp _ (nd_shaped hz.2), hz.1, hz.2, flat_end R0 (.bl _) k⟩
      · rw [if_neg hz] at hr'; cases hr'
    | tuple l =>
      have hr' : (if okEq p (.tuple l) = true then some (PyData.bool (l.any fun z => PyData.eqv z p)) else none) = some r := by cases p <;> exact hr
      by_cases hz : okEq p (.tuple l) = true
      · rw [if_pos hz] at hr'
        have e3 := Option.some.inj hr'
        subst e3
        unfold okEq at hz
        rw [Bool.and_eq_true] at hz
        obtain ⟨as, q1⟩ := Dp.reads I _ _ _ ((V1.dpC R0 e1).dp _ (nd_shaped hz.1)) rx
        obtain ⟨bs, q2⟩ := Dp.reads I _ _ _ ((V2.dpC R0 e2).dp _ (nd_shaped hz.2)) ry
        exact SeqAt.in_tuple_reads q2 q1 (SeqAt.canLay_of_shaped hz.2) (SeqAt.canLay_of_shaped hz.1) (room_in_shaped hz.1 hu) ⟨.bl _, H, I, rfl, flat_end R0 (.bl _) k⟩
      · rw [if_neg hz] at hr'; cases hr'
    | _ => cases p <;> cases hr
theorem opr_notIn (hu : X.A.units + 65 < cLine) : OpR X (compareOp .NotIn) (r2 X.K (op2S .notIn m)) := by
  intro pins s σ H vx vy v u Q I rx ry h
  obtain ⟨Pr, g, st, x, y, w, s', R0, V1, V2, e, k⟩ := h
  obtain ⟨p, q, e1, e2, e⟩ := op2S_cases e
  replace e1 : st.capt x = some p := e1
  replace e2 : st.capt y = some q := e2
  rcases op2_cases e with ⟨l, hl, hm⟩ | ⟨r, hr, rfl, rfl⟩
  · exact (inv_eqL (by decide) (by decide) hl).elim
  · cases q with
    | list l =>
      have hr' : (if okEq p (.list l) = true then some (PyData.bool (!l.any fun z => PyData.eqv z p)) else none) = some r := by cases p <;> exact hr
      by_cases hz : okEq p (.list l) = true
      · rw [if_pos hz] at hr'
        have e3 := Option.some.inj hr'
        subst e3
        unfold okEq at hz
        rw [Bool.and_eq_true] at hz
        exact op_notInD hu pins s σ H _ _ v u Q I rx ry ⟨p, l, (V1.dpC R0 e1).dp _ (nd_shaped hz.1), (V2.dpC R0 e2).dp _ (nd_shaped hz.2), hz.1, hz.2, flat_end R0 (.bl _) k⟩
      · rw [if_neg hz] at hr'; cases hr'
    | tuple l =>
      have hr' : (if okEq p (.tuple l) = true then some (PyData.bool (!l.any fun z => PyData.eqv z p)) else none) = some r := by cases p <;> exact hr
      by_cases hz : okEq p (.tuple l) = true
      · rw [if_pos hz] at hr'
        have e3 := Option.some.inj hr'
        subst e3
        unfold okEq at hz
        rw [Bool.and_eq_true] at hz
        obtain ⟨as, q1⟩ := Dp.reads I _ _ _ ((V1.dpC R0 e1).dp _ (nd_shaped hz.1)) rx
        obtain ⟨bs, q2⟩ := Dp.reads I _ _ _ ((V2.dpC R0 e2).dp _ (nd_shaped hz.2)) ry
        exact SeqAt.notIn_tuple_reads q2 q1 (SeqAt.canLay_of_shaped hz.2) (SeqAt.canLay_of_shaped hz.1) (room_in_shaped hz.1 hu) ⟨.bl _, H, I, rfl, flat_end R0 (.bl _) k⟩
      · rw [if_neg hz] at hr'; cases hr'
    | _ => cases p <;> cases hr
theorem none_iff {K : PySem.W.Frag} {M : Addr → Prop} {H : Hp} {v : V} {p : D} (h : Dw K H v p) : decide (v = .non) = isNone p := by
  cases h <;> simp [isNone]
theorem opr_is : OpR X (compareOp .Is) (r2 X.K (op2S .is m)) := by
  intro pins s σ H vx vy v u Q I rx ry h
  obtain ⟨Pr, g, st, x, y, w, s', R0, V1, V2, e, k⟩ := h
  obtain ⟨p, q, e1, e2, e⟩ := op2S_cases e
  replace e1 : st.capt x = some p := e1
  replace e2 : st.capt y = some q := e2
  rcases op2_cases e with ⟨l, hl, hm⟩ | ⟨r, hr, rfl, rfl⟩
  · exact (inv_eqL (by decide) (by decide) hl).elim
  · cases q with
    | none =>
      have e3 : PyData.bool (isNone p) = r := by cases p <;> exact Option.some.inj hr
      subst e3
      have hy : vy = .non := by
        have := V2.dpC R0 e2
        cases this; rfl
      refine op_isN pins s σ H _ _ v u Q I rx ry ⟨hy, ?_⟩
      rw [none_iff (M := fun _ => False) (V1.dpC R0 e1)]
      exact flat_end R0 (.bl _) k
    | _ => cases p <;> cases hr
theorem opr_isNot : OpR X (compareOp .IsNot) (r2 X.K (op2S .isNot m)) := by
  intro pins s σ H vx vy v u Q I rx ry h
  obtain ⟨Pr, g, st, x, y, w, s', R0, V1, V2, e, k⟩ := h
  obtain ⟨p, q, e1, e2, e⟩ := op2S_cases e
  replace e1 : st.capt x = some p := e1
  replace e2 : st.capt y = some q := e2
  rcases op2_cases e with ⟨l, hl, hm⟩ | ⟨r, hr, rfl, rfl⟩
  · exact (inv_eqL (by decide) (by decide) hl).elim
  · cases q with
    | none =>
      have e3 : PyData.bool (!isNone p) = r := by cases p <;> exact Option.some.inj hr
      subst e3
      have hy : vy = .non := by
        have := V2.dpC R0 e2
        cases this; rfl
      refine op_notN pins s σ H _ _ v u Q I rx ry ⟨hy, ?_⟩
      rw [none_iff (M := fun _ => False) (V1.dpC R0 e1)]
      exact flat_end R0 (.bl _) k
    | _ => cases p <;> cases hr
end
end Em
end

section
set_option Elab.async false
set_option linter.all false
set_option maxRecDepth 100000
set_option maxHeartbeats 800000
/-! EmG: built-ins, subscripts, slices, methods by values. -/
namespace Em
open PySem PySem.Spec PyProof.Rows L2
section
variable {K : PySem.W.Frag} {Pr : Addr → Prop} {g g' : Wd} {H H' : Hp} {s : Sto}
theorem VRs.one {u : Val} {vs : List V} (h : VRs K Pr g H [u] vs) : ∃ v, vs = [v] ∧ VR K Pr g H u v := by
  cases h with
  | cons h t => cases t; exact ⟨_, rfl, h⟩
theorem VRs.two {u w : Val} {vs : List V} (h : VRs K Pr g H [u, w] vs) : ∃ v x, vs = [v, x] ∧ VR K Pr g H u v ∧ VR K Pr g H w x := by
  cases h with
  | cons h t =>
    cases t with
    | cons h2 t => cases t; exact ⟨_, _, rfl, h, h2⟩
theorem snaps_one {b : Bool} {vs : List Val} {p : D} (e : snaps s b vs = some [p]) : ∃ u, vs = [u] ∧ s.see b u = some p := by
  match vs, e with
  | [], e => cases e
  | [u], e =>
    unfold snaps snaps at e
    cases h : s.see b u with
    | none => rw [h] at e; cases e
    | some q => rw [h] at e; cases e; exact ⟨u, rfl, h⟩
  | u :: w :: r, e =>
    exfalso
    unfold snaps snaps at e
    cases h : s.see b u with
    | none => rw [h] at e; cases e
    | some q =>
      rw [h] at e
      cases h2 : s.see b w with
      | none => rw [h2] at e; cases e
      | some q2 =>
        rw [h2] at e
        cases h3 : snaps s b r with
        | none => rw [h3] at e; cases e
        | some l => rw [h3] at e; cases e
theorem snaps_two {b : Bool} {vs : List Val} {p q : D} (e : snaps s b vs = some [p, q]) : ∃ u w, vs = [u, w] ∧ s.see b u = some p ∧ s.see b w = some q := by
  match vs, e with
  | [], e => cases e
  | u :: r, e =>
    unfold snaps at e
    cases h : s.see b u with
    | none => rw [h] at e; cases e
    | some p' =>
      rw [h] at e
      cases h3 : snaps s b r with
      | none => rw [h3] at e; cases e
      | some l =>
        rw [h3] at e
        have e' : p' :: l = [p, q] := Option.some.inj e
        cases e'
        obtain ⟨w, rfl, h4⟩ := snaps_one h3
        exact ⟨u, w, rfl, h, h4⟩
theorem bi_cases {b : Bi} {m : Mode} {as : List D} {s s' : Sto} {u : Val} (e : bi b m as s = .ok u s') : (∃ l, biL b as = some l ∧ mkL m l s = .ok u s') ∨ (∃ r, biL b as = none ∧ biV b as = some r ∧ u = .d r ∧ s' = s) := by
  unfold bi at e
  cases h : biL b as with
  | some l => rw [h] at e; exact .inl ⟨l, rfl, e⟩
  | none =>
    rw [h] at e
    cases h2 : biV b as with
    | none => rw [h2] at e; cases e
    | some r =>
      rw [h2] at e
      injection e with e1 e2
      exact .inr ⟨r, rfl, rfl, e1.symm, e2.symm⟩
theorem biS_cases {b : Bi} {m : Mode} {vs : List Val} {s s' : Sto} {u : Val} (hb : stillB b = false) (e : biS b m vs s = .ok u s') : ∃ as, snaps s (deepB b) vs = some as ∧ bi b m as s = .ok u s' := by
  unfold biS at e
  rw [hb] at e
  simp only [Bool.false_eq_true, if_false] at e
  cases h : snaps s (deepB b) vs with
  | none => rw [h] at e; cases e
  | some as => rw [h] at e; exact ⟨as, rfl, e⟩
theorem un_bi {b : Bi} {m : Mode} {vs : List Val} {s' : Sto} {u : Val} (hb : stillB b = false) (h2 : ∀ p q, biL2 b p q = none ∧ biV2 b p q = none) (e0 : biS b m vs s = .ok u s') {ws : List V} (hv0 : VRs K Pr g H vs ws) :
    ∃ x v p, ws = [v] ∧ s.see (deepB b) x = some p ∧ VR K Pr g H x v ∧ ((∃ l, biL1 b p = some l ∧ mkL m l s = .ok u s') ∨ ∃ r, biV1 b p = some r ∧ u = .d r ∧ s' = s) := by
  obtain ⟨as, e1, e2⟩ := biS_cases hb e0
  rcases as with _ | ⟨p, _ | ⟨q, _ | ⟨z, t⟩⟩⟩
  · cases e2
  · obtain ⟨x, rfl, hx⟩ := snaps_one e1
    obtain ⟨v, rfl, hv1⟩ := hv0.one
    refine ⟨x, v, p, rfl, hx, hv1, ?_⟩
    rcases bi_cases e2 with ⟨l, h, hm⟩ | ⟨r, _, h, h3, h4⟩
    · exact .inl ⟨l, h, hm⟩
    · exact .inr ⟨r, h, h3, h4⟩
  · exfalso
    rcases bi_cases e2 with ⟨l, h, _⟩ | ⟨r, _, h, _⟩
    · have h : biL2 b p q = some l := h
      rw [(h2 p q).1] at h; cases h
    · have h : biV2 b p q = some r := h
      rw [(h2 p q).2] at h; cases h
  · cases e2
theorem bin_bi {b : Bi} {m : Mode} {vs : List Val} {s' : Sto} {u : Val} (hb : stillB b = false) (h1 : ∀ p, biL1 b p = none ∧ biV1 b p = none) (e0 : biS b m vs s = .ok u s') {ws : List V} (hv0 : VRs K Pr g H vs ws) :
    ∃ x y v w p q, ws = [v, w] ∧ s.see (deepB b) x = some p ∧ s.see (deepB b) y = some q ∧ VR K Pr g H x v ∧ VR K Pr g H y w ∧ ((∃ l, biL2 b p q = some l ∧ mkL m l s = .ok u s') ∨ ∃ r, biV2 b p q = some r ∧ u = .d r ∧ s' = s) := by
  obtain ⟨as, e1, e2⟩ := biS_cases hb e0
  rcases as with _ | ⟨p, _ | ⟨q, _ | ⟨z, t⟩⟩⟩
  · cases e2
  · exfalso
    rcases bi_cases e2 with ⟨l, h, _⟩ | ⟨r, _, h, _⟩
    · have h : biL1 b p = some l := h
      rw [(h1 p).1] at h; cases h
    · have h : biV1 b p = some r := h
      rw [(h1 p).2] at h; cases h
  · obtain ⟨x, y, rfl, hx, hy⟩ := snaps_two e1
    obtain ⟨v, w, rfl, hv1, hw1⟩ := hv0.two
    refine ⟨x, y, v, w, p, q, rfl, hx, hy, hv1, hw1, ?_⟩
    rcases bi_cases e2 with ⟨l, h, hm⟩ | ⟨r, _, h, h3, h4⟩
    · exact .inl ⟨l, h, hm⟩
    · exact .inr ⟨r, h, h3, h4⟩
  · cases e2
theorem dp_lenL {v : V} {l : List D} (h : Dw K H v (.list l)) : ∃ a xs, v = .ref a ∧ SqL K H a xs ∧ xs.length = l.length := by
  cases h with
  | lst h1 h2 =>
    refine ⟨_, _, rfl, h1, ?_⟩
    have go : ∀ {xs : List V} {l : List D}, DwA K H xs l → xs.length = l.length := by
      intro xs l h
      induction l generalizing xs with
      | nil => cases h; rfl
      | cons p l ih => cases h with | cons _ t => exact congrArg (· + 1) (ih t)
    exact go h2
theorem dp_lenT {v : V} {l : List D} (h : Dw K H v (.tuple l)) : ∃ a xs, v = .ref a ∧ SqT K H a xs ∧ xs.length = l.length := by
  cases h with
  | tup h1 h2 =>
    refine ⟨_, _, rfl, h1, ?_⟩
    have go : ∀ {xs : List V} {l : List D}, DwA K H xs l → xs.length = l.length := by
      intro xs l h
      induction l generalizing xs with
      | nil => cases h; rfl
      | cons p l ih => cases h with | cons _ t => exact congrArg (· + 1) (ih t)
    exact go h2
end
section
variable {X : Cx} {m : Mode}

theorem crx_len : CallR X (.builtin "len") (rs X.K (biS .len m)) := by
  intro pins s σ H vs us Q I r h
  obtain ⟨Pr, g, st, ws, u, s', R0, V1, e, k⟩ := h
  obtain ⟨x, v, p, rfl, hx, hv, ⟨l, hl, hm⟩ | ⟨r', hr, rfl, rfl⟩⟩ := un_bi rfl (fun _ _ => ⟨rfl, rfl⟩) e V1
  · cases hl
  · have hd := hv.dps R0 hx
    cases p with
    | list l =>
      have e3 : PyData.int l.length = r' := Option.some.inj hr
      subst e3
      obtain ⟨a, xs, rfl, h1, h2⟩ := dp_lenL hd
      refine call_len_seq pins s σ H _ us Q I r ⟨a, xs, rfl, .inl h1, ?_⟩
      rw [h2]
      exact flat_end R0 (.int _) k
    | tuple l =>
      have e3 : PyData.int l.length = r' := Option.some.inj hr
      subst e3
      obtain ⟨a, xs, rfl, h1, h2⟩ := dp_lenT hd
      refine call_len_seq pins s σ H _ us Q I r ⟨a, xs, rfl, .inr h1, ?_⟩
      rw [h2]
      exact flat_end R0 (.int _) k
    | str z =>
      have hr' : (if z.length ≤ sizeMax then some (PyData.int z.length) else none) = some r' := hr
      by_cases hz : z.length ≤ sizeMax
      · rw [if_pos hz] at hr'
        have e3 := Option.some.inj hr'
        subst e3
        cases hd
        exact call_len_str pins s σ H _ us Q I r ⟨z, rfl, by rw [← sizeMax_eq]; exact hz, flat_end R0 (.int _) k⟩
      · rw [if_neg hz] at hr'; cases hr'
    | _ => cases hr

theorem crx_all (hc : X.calm = true) : CallR X (.builtin "all") (rs X.K (biS .all m)) := by
  intro pins s σ H vs us Q I r h
  obtain ⟨Pr, g, st, ws, u, s', R0, V1, e, k⟩ := h
  obtain ⟨x, v, p, rfl, hx, hv, ⟨l, hl, hm⟩ | ⟨r', hr, rfl, rfl⟩⟩ := un_bi rfl (fun _ _ => ⟨rfl, rfl⟩) e V1
  · cases hl
  · cases p with
    | list l =>
      have hr' : (boolsOf l).map (fun bs => PyData.bool (bs.all id)) = some r' := hr
      cases hb : boolsOf l with
      | none => rw [hb] at hr'; cases hr'
      | some bs =>
        rw [hb] at hr'
        have e3 : PyData.bool (bs.all id) = r' := Option.some.inj hr'
        subst e3
        obtain ⟨a, xs, rfl, h1, h2⟩ := hv.lstC R0 hx
        have e4 := h2.ofBools hb
        subst e4
        exact cr_all hc pins s σ H _ us Q I r ⟨a, bs, rfl, .inl (.inl h1), flat_end R0 (.bl _) k⟩
    | _ => cases hr

theorem crx_any (hc : X.calm = true) : CallR X (.builtin "any") (rs X.K (biS .any m)) := by
  intro pins s σ H vs us Q I r h
  obtain ⟨Pr, g, st, ws, u, s', R0, V1, e, k⟩ := h
  obtain ⟨x, v, p, rfl, hx, hv, ⟨l, hl, hm⟩ | ⟨r', hr, rfl, rfl⟩⟩ := un_bi rfl (fun _ _ => ⟨rfl, rfl⟩) e V1
  · cases hl
  · cases p with
    | list l =>
      have hr' : (boolsOf l).map (fun bs => PyData.bool (bs.any id)) = some r' := hr
      cases hb : boolsOf l with
      | none => rw [hb] at hr'; cases hr'
      | some bs =>
        rw [hb] at hr'
        have e3 : PyData.bool (bs.any id) = r' := Option.some.inj hr'
        subst e3
        obtain ⟨a, xs, rfl, h1, h2⟩ := hv.lstC R0 hx
        have e4 := h2.ofBools hb
        subst e4
        exact cr_any hc pins s σ H _ us Q I r ⟨a, bs, rfl, .inl (.inl h1), flat_end R0 (.bl _) k⟩
    | _ => cases hr

theorem crx_sum (hc : X.calm = true) : CallR X (.builtin "sum") (rs X.K (biS .sum m)) := by
  intro pins s σ H vs us Q I r h
  obtain ⟨Pr, g, st, ws, u, s', R0, V1, e, k⟩ := h
  obtain ⟨x, v, p, rfl, hx, hv, ⟨l, hl, hm⟩ | ⟨r', hr, rfl, rfl⟩⟩ := un_bi rfl (fun _ _ => ⟨rfl, rfl⟩) e V1
  · cases hl
  · cases p with
    | list l =>
      have hr' : (intsOf l).map (fun bs => PyData.int (bs.sum)) = some r' := hr
      cases hb : intsOf l with
      | none => rw [hb] at hr'; cases hr'
      | some bs =>
        rw [hb] at hr'
        have e3 : PyData.int (bs.sum) = r' := Option.some.inj hr'
        subst e3
        obtain ⟨a, xs, rfl, h1, h2⟩ := hv.lstC R0 hx
        obtain ⟨e4, _⟩ := h2.ofInts hb
        subst e4
        exact cr_sum hc pins s σ H _ us Q I r ⟨a, bs, rfl, .inl (.inl h1), flat_end R0 (.int _) k⟩
    | _ => cases hr

theorem crx_tuple : CallR X (.type "tuple") (rs X.K (biS .tuple m)) := by
  intro pins s σ H vs us Q I r h
  obtain ⟨Pr, g, st, ws, u, s', R0, V1, e, k⟩ := h
  obtain ⟨x, v, p, rfl, hx, hv, ⟨l, hl, hm⟩ | ⟨r', hr, rfl, rfl⟩⟩ := un_bi rfl (fun _ _ => ⟨rfl, rfl⟩) e V1
  · cases hl
  · cases p with
    | list l =>
      have e3 : PyData.tuple l = r' := Option.some.inj hr
      subst e3
      obtain ⟨a, xs, rfl, h1, h2⟩ := hv.lstC R0 hx
      exact call_tuple_of pins s σ H _ us Q I r ⟨a, xs, rfl, .inl ⟨.inl (.inl h1), fun p hp => tup_end R0 hp h2 k⟩⟩
    | tuple l =>
      have e3 : PyData.tuple l = r' := Option.some.inj hr
      subst e3
      obtain ⟨a, xs, rfl, h1, h2⟩ := hv.tupC hx
      exact call_tuple_of pins s σ H _ us Q I r ⟨a, xs, rfl, .inr ⟨h1, flat_end R0 (.tup h1 h2) k⟩⟩
    | _ => cases hr
theorem len_le {pins : List (Addr × Obj)} {σ : L2.St} {H : Hp} {sh : Shared} {a : Addr} {xs : List V} (I : L2.Inv X pins σ H sh) (h : SqL X.K H a xs ∨ SqT X.K H a xs) : xs.length ≤ sizeLine := by
  rcases h with h | h
  · exact (I.list h).elim fun _ z => z.2.2
  · exact (I.tuple h).elim fun _ z => z.2.2

theorem crx_list : CallR X (.type "list") (rs X.K (biS .list m)) := by
  intro pins s σ H vs us Q I r h
  obtain ⟨Pr, g, st, ws, u, s', R0, V1, e, k⟩ := h
  obtain ⟨x, v, p, rfl, hx, hv, ⟨l, hl, hm⟩ | ⟨r', hr, rfl, rfl⟩⟩ := un_bi rfl (fun _ _ => ⟨rfl, rfl⟩) e V1
  · cases p with
    | list l' =>
      have e3 : l' = l := Option.some.inj hl
      subst e3
      obtain ⟨a, xs, rfl, h1, h2⟩ := hv.lstC R0 hx
      have hz := len_le I (.inl (.inl (.inl h1)))
      exact call_list_of pins s σ H _ us Q I r ⟨a, xs, rfl, .inl (.inl (.inl h1)), fun p hp => lst_end R0 hm hp h2 (by rw [← h2.length]; exact hz) k⟩
    | tuple l' =>
      have e3 : l' = l := Option.some.inj hl
      subst e3
      obtain ⟨a, xs, rfl, h1, h2⟩ := hv.tupC hx
      have hz := len_le I (.inr h1)
      exact call_list_of pins s σ H _ us Q I r ⟨a, xs, rfl, .inr h1, fun p hp => lst_end R0 hm hp h2 (by rw [← h2.length]; exact hz) k⟩
    | _ => cases hl
  · cases hr

theorem crx_abs : CallR X (.builtin "abs") (rs X.K (biS .abs m)) := by
  intro pins s σ H vs us Q I r h
  obtain ⟨Pr, g, st, ws, u, s', R0, V1, e, k⟩ := h
  obtain ⟨x, v, p, rfl, hx, hv, ⟨l, hl, hm⟩ | ⟨r', hr, rfl, rfl⟩⟩ := un_bi rfl (fun _ _ => ⟨rfl, rfl⟩) e V1
  · cases hl
  · cases p with
    | int i =>
      have e3 : PyData.int (if i < 0 then -i else i) = r' := Option.some.inj hr
      subst e3
      have e4 := hv.intC hx
      subst e4
      exact call_abs pins s σ H _ us Q I r ⟨i, rfl, flat_end R0 (.int _) k⟩
    | _ => cases hr

theorem crx_int : CallR X (.type "int") (rs X.K (biS .int m)) := by
  intro pins s σ H vs us Q I r h
  obtain ⟨Pr, g, st, ws, u, s', R0, V1, e, k⟩ := h
  obtain ⟨x, v, p, rfl, hx, hv, ⟨l, hl, hm⟩ | ⟨r', hr, rfl, rfl⟩⟩ := un_bi rfl (fun _ _ => ⟨rfl, rfl⟩) e V1
  · cases hl
  · cases p with
    | int i =>
      have e3 : PyData.int i = r' := Option.some.inj hr
      subst e3
      have e4 := hv.intC hx
      subst e4
      exact call_int1 pins s σ H _ us Q I r (.inl ⟨i, rfl, flat_end R0 (.int _) k⟩)
    | bool i =>
      have e3 : PyData.int (if i then 1 else 0) = r' := Option.some.inj hr
      subst e3
      have e4 := hv.dpC R0 hx
      cases e4
      exact call_int1 pins s σ H _ us Q I r (.inr ⟨i, rfl, flat_end R0 (.int _) k⟩)
    | _ => cases hr

theorem crx_divmod : CallR X (.builtin "divmod") (rs X.K (biS .divmod m)) := by
  intro pins s σ H vs us Q I r h
  obtain ⟨Pr, g, st, ws, u, s', R0, V1, e, k⟩ := h
  obtain ⟨x, y, v, w, p, q, rfl, hx, hy, hv, hw, ⟨l, hl, hm⟩ | ⟨r', hr, rfl, rfl⟩⟩ := bin_bi rfl (fun _ => ⟨rfl, rfl⟩) e V1
  · cases hl
  · cases p with
    | int i =>
      cases q with
      | int j =>
        have hr' : (if 0 < j ∧ j < 1073741824 then some (PyData.tuple [.int (i / j), .int (i % j)]) else none) = some r' := hr
        by_cases hz : 0 < j ∧ j < 1073741824
        · rw [if_pos hz] at hr'
          have e3 := Option.some.inj hr'
          subst e3
          have e4 := hv.intC hx
          subst e4
          have e5 := hw.intC hy
          subst e5
          exact call_divmod pins s σ H _ us Q I r ⟨i, j, rfl, hz, fun p hp => tup_end R0 hp (.cons (.int _) (.cons (.int _) .nil)) k⟩
        · rw [if_neg hz] at hr'; cases hr'
      | _ => cases hr
    | _ => cases q <;> cases hr

theorem crx_min (hc : X.calm = true) : CallR X (.builtin "min") (rs X.K (biS .min2 m)) := by
  intro pins s σ H vs us Q I r h
  obtain ⟨Pr, g, st, ws, u, s', R0, V1, e, k⟩ := h
  obtain ⟨x, y, v, w, p, q, rfl, hx, hy, hv, hw, ⟨l, hl, hm⟩ | ⟨r', hr, rfl, rfl⟩⟩ := bin_bi rfl (fun _ => ⟨rfl, rfl⟩) e V1
  · cases hl
  · cases p with
    | int i =>
      cases q with
      | int j =>
        have e3 : PyData.int (if j < i then j else i) = r' := Option.some.inj hr
        subst e3
        have e4 := hv.intC hx
        subst e4
        have e5 := hw.intC hy
        subst e5
        exact call_min2 hc pins s σ H _ us Q I r ⟨i, j, rfl, flat_end R0 (.int _) k⟩
      | _ => cases hr
    | _ => cases q <;> cases hr

theorem crx_max (hc : X.calm = true) : CallR X (.builtin "max") (rs X.K (biS .max2 m)) := by
  intro pins s σ H vs us Q I r h
  obtain ⟨Pr, g, st, ws, u, s', R0, V1, e, k⟩ := h
  obtain ⟨x, y, v, w, p, q, rfl, hx, hy, hv, hw, ⟨l, hl, hm⟩ | ⟨r', hr, rfl, rfl⟩⟩ := bin_bi rfl (fun _ => ⟨rfl, rfl⟩) e V1
  · cases hl
  · cases p with
    | int i =>
      cases q with
      | int j =>
        have e3 : PyData.int (if j > i then j else i) = r' := Option.some.inj hr
        subst e3
        have e4 := hv.intC hx
        subst e4
        have e5 := hw.intC hy
        subst e5
        exact call_max2 hc pins s σ H _ us Q I r ⟨i, j, rfl, flat_end R0 (.int _) k⟩
      | _ => cases hr
    | _ => cases q <;> cases hr

end
end Em
end

section
set_option Elab.async false
set_option linter.all false
set_option maxRecDepth 100000
set_option maxHeartbeats 800000
/-! EmH: subscripts, slices, methods, isinstance by values. -/
namespace Em
open PySem PySem.Spec PyProof.Rows L2
section
variable {K : PySem.W.Frag} {Pr : Addr → Prop} {g g' : Wd} {H H' : Hp} {s : Sto}
theorem DqA.cut {xs : List V} {l : List D} (h : DqA K (Ms Pr g) H xs l) (lo hi : Option Int) : DqA K (Ms Pr g) H (cutV xs lo hi) (Em.cut l lo hi) := by
  unfold cutV Em.cut
  rw [h.length]
  exact (h.drop _).take _
theorem cut_length (l : List D) (lo hi : Option Int) : (Em.cut l lo hi).length ≤ l.length := by
  unfold Em.cut
  rw [List.length_take, List.length_drop]
  omega
theorem DqA.reverse : ∀ {vs : List V} {ps : List D}, DqA K (Ms Pr g) H vs ps → DqA K (Ms Pr g) H vs.reverse ps.reverse
  | _, _, .nil => .nil
  | _, _, .cons h t => by
    rw [List.reverse_cons, List.reverse_cons]
    exact DqA.append (DqA.reverse t) (.cons h .nil)
theorem DqA.dropLast : ∀ {vs : List V} {ps : List D}, DqA K (Ms Pr g) H vs ps → DqA K (Ms Pr g) H vs.dropLast ps.dropLast
  | _, _, .nil => .nil
  | _, _, .cons _ .nil => .nil
  | _, _, .cons h (.cons h2 t) => .cons h (DqA.dropLast (.cons h2 t))
theorem DqA.erase : ∀ {vs : List V} {ps : List D} (i : Nat), DqA K (Ms Pr g) H vs ps → DqA K (Ms Pr g) H (vs.eraseIdx i) (ps.eraseIdx i)
  | _, _, _, .nil => .nil
  | _, _, 0, .cons _ t => t
  | _, _, i + 1, .cons h t => .cons h (DqA.erase i t)
/-- the place of an index -/
theorem atD_get {xs : List V} {l : List D} {i : Int} {p : D} (h : DqA K (Ms Pr g) H xs l) (e : atD l i = some p) : ∃ v, atI xs i = some v ∧ Dq K (Ms Pr g) H v p := by
  unfold atD at e
  unfold atI
  rw [h.length]
  cases q : L2.ixN l.length i with
  | none => rw [show place l.length i = none from q] at e; cases e
  | some j =>
    rw [show place l.length i = some j from q] at e
    obtain ⟨v, e1, e2⟩ := h.get (show l[j]? = some p from e)
    exact ⟨v, e1, e2⟩
theorem ixV_cases {x y u : Val} {s' : Sto} (e : ixV x y s = .ok u s') : ∃ i, y = .d (.int i) ∧ s' = s ∧
    ((∃ j vs k, x = .ne j ∧ s.N[j]? = some vs ∧ place vs.length i = some k ∧ vs[k]? = some u) ∨
      (∃ l p, s.snapF x = some (.list l) ∧ atD l i = some p ∧ u = .d p) ∨ (∃ l p, s.snapF x = some (.tuple l) ∧ atD l i = some p ∧ u = .d p)) := by
  have fin : ∀ (i : Int) (x : Val), (match s.snapF x with
      | some (.list l) => match atD l i with
        | some p => R.ok (Val.d p) s
        | none => .bad
      | some (.tuple l) => match atD l i with
        | some p => .ok (.d p) s
        | none => .bad
      | _ => .bad) = R.ok u s' → s' = s ∧ ((∃ l p, s.snapF x = some (.list l) ∧ atD l i = some p ∧ u = .d p) ∨ (∃ l p, s.snapF x = some (.tuple l) ∧ atD l i = some p ∧ u = .d p)) := by
    intro i x e
    cases h : s.snapF x with
    | none => rw [h] at e; cases e
    | some q =>
      rw [h] at e
      cases q with
      | list l =>
        cases h2 : atD l i with
        | none => simp only [h2] at e; cases e
        | some p => simp only [h2] at e; cases e; exact ⟨rfl, .inl ⟨l, p, rfl, h2, rfl⟩⟩
      | tuple l =>
        cases h2 : atD l i with
        | none => simp only [h2] at e; cases e
        | some p => simp only [h2] at e; cases e; exact ⟨rfl, .inr ⟨l, p, rfl, h2, rfl⟩⟩
      | _ => cases e
  cases y with
  | d q =>
    cases q with
    | int i =>
      cases x with
      | ne j =>
        have e : (match s.N[j]? with
          | some vs => match (place vs.length i).bind fun j => vs[j]? with
            | some v => R.ok v s
            | none => .bad
          | none => .bad) = R.ok u s' := e
        cases h : s.N[j]? with
        | none => rw [h] at e; cases e
        | some vs =>
          rw [h] at e
          cases h2 : place vs.length i with
          | none => simp only [h2, Option.bind_none] at e; cases e
          | some k =>
            simp only [h2, Option.bind_some] at e
            cases h3 : vs[k]? with
            | none => rw [h3] at e; cases e
            | some v => rw [h3] at e; cases e; exact ⟨i, rfl, rfl, .inl ⟨j, vs, k, rfl, h, h2, h3⟩⟩
      | d p => obtain ⟨h1, h2⟩ := fin i (.d p) e; exact ⟨i, rfl, h1, .inr h2⟩
      | fl p => obtain ⟨h1, h2⟩ := fin i (.fl p) e; exact ⟨i, rfl, h1, .inr h2⟩
      | sc p => obtain ⟨h1, h2⟩ := fin i (.sc p) e; exact ⟨i, rfl, h1, .inr h2⟩
    | _ => cases e
  | _ => cases e
end
section
variable {X : Cx} {m : Mode}
theorem ixr : IxR X (r2 X.K ixV) := by
  intro value slice pins s σ H vx vy v u Q I rx ry h hs
  obtain ⟨Pr, g, st, x, y, w, s', R0, V1, V2, e, k⟩ := h
  obtain ⟨i, rfl, rfl, ⟨j, vs, k', rfl, h1, h2, h3⟩ | ⟨l, p, h1, h2, rfl⟩ | ⟨l, p, h1, h2, rfl⟩⟩ := ixV_cases e
  · obtain ⟨a, ea, rfl⟩ := V1
    obtain ⟨xs, q1, q2⟩ := R0.n j a vs ea h1
    cases V2
    obtain ⟨v', e1, e2⟩ := q2.get h3
    refine ix_list value slice pins s σ H _ _ v u Q I rx ry ⟨a, xs, i, v', rfl, rfl, .inl (.inl q1), ?_, k v' H g Ext.refl R0 e2⟩ hs
    unfold atI
    rw [← q2.length, show L2.ixN vs.length i = some k' from h2]
    exact e1
  · obtain ⟨a, xs, rfl, q1, q2, _⟩ := V1.lst R0 h1
    cases V2
    obtain ⟨v', e1, e2⟩ := atD_get q2 h2
    exact ix_list value slice pins s σ H _ _ v u Q I rx ry ⟨a, xs, i, v', rfl, rfl, q1, e1, k v' H g Ext.refl R0 e2⟩ hs
  · obtain ⟨a, xs, rfl, q1, q2⟩ := V1.tup h1
    cases V2
    obtain ⟨v', e1, e2⟩ := atD_get q2 h2
    exact ix_tup value slice pins s σ H _ _ v u Q I rx ry ⟨a, xs, i, v', rfl, rfl, q1, e1, k v' H g Ext.refl R0 e2⟩ hs
/-! ### slices -/
/-- a slice with its bounds known -/
def slP (m : Mode) (a : Val) (lo hi : Option Int) (s : Sto) : R Val := match s.snapF a with
  | some (.list l) => mkL m (Em.cut l lo hi) s
  | some (.tuple l) => .ok (.d (.tuple (Em.cut l lo hi))) s
  | _ => .bad
theorem slV_cases {a : Val} {lo hi : Option Val} {s s' : Sto} {u : Val} (e : slV m a lo hi s = .ok u s') : ∃ i j, part lo = some i ∧ part hi = some j ∧ slP m a i j s = .ok u s' := by
  unfold slV at e
  cases h : part lo with
  | none => rw [h] at e; cases e
  | some i =>
    cases h2 : part hi with
    | none => rw [h, h2] at e; cases e
    | some j => rw [h, h2] at e; exact ⟨i, j, rfl, rfl, e⟩
def rSl (K : PySem.W.Frag) (f : Val → Option Int → Option Int → Sto → R Val) : V → Option Int → Option Int → Hp → VK → Prop := fun vx lo hi H Q =>
  ∃ (Pr : Addr → Prop) (g : Wd) (s : Sto) (x u : Val) (s' : Sto), Rl K Pr g s H ∧ VR K Pr g H x vx ∧ f x lo hi s = .ok u s' ∧ ∀ v H' g', Ext g H g' H' → Rl K Pr g' s' H' → VR K Pr g' H' u v → Q v H'
theorem slr : SlR X (rSl X.K (slP m)) := by
  intro pins s σ H vx v vl vu lo hi sl Q I rx hs pl pu h
  obtain ⟨Pr, g, st, x, w, s', R0, V1, e, k⟩ := h
  unfold slP at e
  cases h : st.snapF x with
  | none => rw [h] at e; cases e
  | some q =>
    rw [h] at e
    cases q with
    | list l =>
      obtain ⟨a, xs, rfl, q1, q2, _⟩ := V1.lst R0 h
      have hz := len_le I (.inl q1)
      exact sl_list pins s σ H _ v vl vu lo hi sl Q I rx hs pl pu ⟨a, xs, rfl, q1, fun p hp => lst_end R0 e hp (q2.cut lo hi) (by have := cut_length l lo hi; have := q2.length; omega) k⟩
    | tuple l =>
      have e' : R.ok (Val.d (.tuple (Em.cut l lo hi))) st = R.ok w s' := e
      injection e' with e1 e2
      subst e1; subst e2
      obtain ⟨a, xs, rfl, q1, q2⟩ := V1.tup h
      refine sl_tupA pins s σ H _ v vl vu lo hi sl Q I rx hs pl pu ⟨a, xs, rfl, q1, fun hw => ?_, fun _ p hp => tup_end R0 hp (q2.cut lo hi) k⟩
      have e3 : Em.cut l lo hi = l := by
        unfold Em.cut
        rw [← q2.length, hw.1, hw.2, List.drop_zero, Nat.sub_zero, q2.length, List.take_length]
      rw [e3] at k
      exact flat_end R0 (.tup q1 q2) k
    | _ => cases e
/-- .. a bound -/
def tO (K : PySem.W.Frag) (f : Env → Sto → R (Option Val)) : TO := fun σ H Q => ∃ (Pr : Addr → Prop) (g : Wd) (s : Sto) (σa : Env) (o : Option Val) (i : Option Int) (s' : Sto), Rl K Pr g s H ∧ SR K Pr g H σa σ ∧ f σa s = .ok o s' ∧ part o = some i ∧
  ∀ H' g', Ext g H g' H' → Rl K Pr g' s' H' → Q i H'
theorem PO.imp {e : Option Expr} {t t' : TO} (h : PO X e t) (i : ∀ σ H Q, t' σ H Q → t σ H Q) : PO X e t' := ⟨fun pins s σ H Q I hw => h.run pins s σ H Q I (i _ _ _ hw)⟩
/-! ### methods -/
def rM (K : PySem.W.Frag) (f : Val → List Val → Sto → R Val) : V → List V → Hp → VK → Prop := fun vx vs H Q =>
  ∃ (Pr : Addr → Prop) (g : Wd) (s : Sto) (x : Val) (us : List Val) (u : Val) (s' : Sto), Rl K Pr g s H ∧ VR K Pr g H x vx ∧ VRs K Pr g H us vs ∧ f x us s = .ok u s' ∧ ∀ v H' g', Ext g H g' H' → Rl K Pr g' s' H' → VR K Pr g' H' u v → Q v H'
theorem mtr_append : MtR X "list.append" (rM X.K (mtV .append)) := by
  intro pins s σ H vx vs v us Q I rx rxs h
  obtain ⟨Pr, g, st, x, ws, w, s', R0, V1, V2, e, k⟩ := h
  cases x with
  | fl j =>
    rcases ws with _ | ⟨y, _ | ⟨z, t⟩⟩
    · first | cases e | (cases y <;> first | cases e | (rename_i q; cases q <;> cases e))
    · cases y with
      | d p =>
        have e : (match st.F[j]? with
          | some (.li l) => if l.length < sizeMax then R.ok (Val.d .none) { st with F := st.F.set j (.li (l ++ [p])) } else .bad
          | _ => .bad) = R.ok w s' := e
        cases h : st.F[j]? with
        | none => rw [h] at e; cases e
        | some c =>
          rw [h] at e
          cases c with
          | di _ => cases e
          | li l =>
            simp only at e
            by_cases hz : l.length < sizeMax
            · rw [if_pos hz] at e
              injection e with e1 e2
              subst e1; subst e2
              obtain ⟨a, ea, rfl⟩ := V1
              obtain ⟨zz, xs, q1, q2⟩ := R0.f j a _ ea h
              obtain ⟨y, rfl, hy⟩ := V2.one
              have hl := q2.length
              refine mt_append pins s σ H _ _ v us Q I rx rxs ⟨a, xs, y, rfl, rfl, q1, by rw [hl, ← sizeMax_eq]; exact hz, ?_⟩
              obtain ⟨x', r'⟩ := write_mu R0 ea (q2.append (.cons hy .nil)) (by rw [List.length_append, List.length_singleton, ← sizeMax_eq]; omega)
              exact k .non _ g x' r' .non
            · rw [if_neg hz] at e; cases e
      | _ => cases e
    · first | cases e | (cases y <;> first | cases e | (rename_i q; cases q <;> cases e))
  | ne j =>
    rcases ws with _ | ⟨y, _ | ⟨z, t⟩⟩
    · first | cases e | (cases y <;> first | cases e | (rename_i q; cases q <;> cases e))
    · have e : (match st.N[j]? with
        | some l => if l.length < sizeMax ∧ argOk y then R.ok (Val.d .none) { st with N := st.N.set j (l ++ [y]) } else .bad
        | none => .bad) = R.ok w s' := e
      cases h : st.N[j]? with
      | none => rw [h] at e; cases e
      | some l =>
        rw [h] at e
        simp only at e
        by_cases hz : l.length < sizeMax ∧ argOk y
        · rw [if_pos hz] at e
          injection e with e1 e2
          subst e1; subst e2
          obtain ⟨a, ea, rfl⟩ := V1
          obtain ⟨xs, q1, q2⟩ := R0.n j a _ ea h
          obtain ⟨y', rfl, hy⟩ := V2.one
          have hl := q2.length
          refine mt_append pins s σ H _ _ v us Q I rx rxs ⟨a, xs, y', rfl, rfl, q1, by rw [← hl, ← sizeMax_eq]; exact hz.1, ?_⟩
          obtain ⟨x', r'⟩ := write_nu R0 ea (q2.append (.cons hy .nil))
          exact k .non _ g x' r' .non
        · rw [if_neg hz] at e; cases e
    · first | cases e | (cases y <;> first | cases e | (rename_i q; cases q <;> cases e))
  | d p => rcases ws with _ | ⟨y, _ | ⟨z, t⟩⟩ <;> first | cases e | (cases y <;> first | cases e | (rename_i q; cases q <;> cases e))
  | sc p => rcases ws with _ | ⟨y, _ | ⟨z, t⟩⟩ <;> first | cases e | (cases y <;> first | cases e | (rename_i q; cases q <;> cases e))
theorem mtr_extend : MtR X "list.extend" (rM X.K (mtV .extend)) := by
  intro pins s σ H vx vs v us Q I rx rxs h
  obtain ⟨Pr, g, st, x, ws, w, s', R0, V1, V2, e, k⟩ := h
  cases x with
  | fl j =>
    rcases ws with _ | ⟨y, _ | ⟨z, t⟩⟩
    · first | cases e | (cases y <;> first | cases e | (rename_i q; cases q <;> cases e))
    · cases y with
      | d p =>
        cases p with
        | list z =>
          have e : (match st.F[j]? with
            | some (.li l) => if l.length + z.length ≤ sizeMax then R.ok (Val.d .none) { st with F := st.F.set j (.li (l ++ z)) } else .bad
            | _ => .bad) = R.ok w s' := e
          cases h : st.F[j]? with
          | none => rw [h] at e; cases e
          | some c =>
            rw [h] at e
            cases c with
            | di _ => cases e
            | li l =>
              simp only at e
              by_cases hz : l.length + z.length ≤ sizeMax
              · rw [if_pos hz] at e
                injection e with e1 e2
                subst e1; subst e2
                obtain ⟨a, ea, rfl⟩ := V1
                obtain ⟨zz, xs, q1, q2⟩ := R0.f j a _ ea h
                obtain ⟨y, rfl, hy⟩ := V2.one
                cases hy with
                | lst h1 h2 h3 =>
                  rename_i b zs
                  have hl := q2.length
                  have hl3 := h3.length
                  refine mt_extend pins s σ H _ _ v us Q I rx rxs ⟨a, b, xs, zs, rfl, rfl, q1, h1, by rw [hl, hl3, ← sizeMax_eq]; exact hz, ?_⟩
                  obtain ⟨x', r'⟩ := write_mu R0 ea (q2.append h3) (by rw [List.length_append, ← sizeMax_eq]; omega)
                  exact k .non _ g x' r' .non
              · rw [if_neg hz] at e; cases e
        | _ => cases e
      | _ => cases e
    · first | cases e | (cases y <;> first | cases e | (rename_i q; cases q <;> cases e))
  | _ => rcases ws with _ | ⟨y, _ | ⟨z, t⟩⟩ <;> first | cases e | (cases y <;> first | cases e | (rename_i q; cases q <;> cases e))
theorem mtr_pop : MtR X "list.pop" (rM X.K (mtV .pop)) := by
  intro pins s σ H vx vs v us Q I rx rxs h
  obtain ⟨Pr, g, st, x, ws, w, s', R0, V1, V2, e, k⟩ := h
  cases x with
  | fl j =>
    rcases ws with _ | ⟨y, _ | ⟨z, t⟩⟩
    · have e : (match st.F[j]? with
        | some (.li l) => match l.getLast? with
          | some p => R.ok (Val.d p) { st with F := st.F.set j (.li l.dropLast) }
          | none => .bad
        | _ => .bad) = R.ok w s' := e
      cases h : st.F[j]? with
      | none => rw [h] at e; cases e
      | some c =>
        rw [h] at e
        cases c with
        | di _ => cases e
        | li l =>
          simp only at e
          cases h2 : l.getLast? with
          | none => rw [h2] at e; cases e
          | some p =>
            rw [h2] at e
            injection e with e1 e2
            subst e1; subst e2
            obtain ⟨a, ea, rfl⟩ := V1
            obtain ⟨zz, xs, q1, q2⟩ := R0.f j a _ ea h
            cases V2
            have hl := q2.length
            have h3 : l[l.length - 1]? = some p := by rw [← List.getLast?_eq_getElem?]; exact h2
            obtain ⟨y, e1, e2⟩ := q2.get h3
            refine mt_pop pins s σ H _ _ v us Q I rx rxs ⟨a, xs, y, rfl, rfl, q1, by rw [hl]; exact e1, ?_⟩
            obtain ⟨x', r'⟩ := write_mu R0 ea q2.dropLast (by rw [List.length_dropLast]; omega)
            exact k y _ g x' r' (e2.ext R0 x')
    · cases y with
      | d p =>
        cases p with
        | int i =>
          have e : (match st.F[j]? with
            | some (.li l) => match place l.length i with
              | some k => match l[k]? with
                | some p => R.ok (Val.d p) { st with F := st.F.set j (.li (l.eraseIdx k)) }
                | none => .bad
              | none => .bad
            | _ => .bad) = R.ok w s' := e
          cases h : st.F[j]? with
          | none => rw [h] at e; cases e
          | some c =>
            rw [h] at e
            cases c with
            | di _ => cases e
            | li l =>
              simp only at e
              cases h2 : place l.length i with
              | none => rw [h2] at e; cases e
              | some kk =>
                rw [h2] at e
                simp only at e
                cases h3 : l[kk]? with
                | none => rw [h3] at e; cases e
                | some p =>
                  rw [h3] at e
                  injection e with e1 e2
                  subst e1; subst e2
                  obtain ⟨a, ea, rfl⟩ := V1
                  obtain ⟨zz, xs, q1, q2⟩ := R0.f j a _ ea h
                  obtain ⟨y, rfl, hy⟩ := V2.one
                  cases hy
                  have hl := q2.length
                  obtain ⟨y, e1, e2⟩ := q2.get h3
                  obtain ⟨i1, i2, i3, i4⟩ := ixN_seq h2
                  have hn := line63
                  refine mt_popAt pins s σ H _ _ v us Q I rx rxs ⟨a, xs, i, kk, y, rfl, rfl, q1, by omega, by omega, by rw [hl]; exact i1, e1, ?_⟩
                  obtain ⟨x', r'⟩ := write_mu R0 ea (q2.erase kk) (by have := len_erase l kk; omega)
                  exact k y _ g x' r' (e2.ext R0 x')
        | _ => cases e
      | _ => cases e
    · first | cases e | (cases y <;> first | cases e | (rename_i q; cases q <;> cases e))
  | _ => rcases ws with _ | ⟨y, _ | ⟨z, t⟩⟩ <;> first | cases e | (cases y <;> first | cases e | (rename_i q; cases q <;> cases e))
theorem mtr_index (hu : X.A.units + 65 < cLine) : MtR X "list.index" (rM X.K (mtV .index)) := by
  intro pins s σ H vx vs v us Q I rx rxs h
  obtain ⟨Pr, g, st, x, ws, w, s', R0, V1, V2, e, k⟩ := h
  rcases ws with _ | ⟨y, _ | ⟨z, t⟩⟩
  · cases x <;> cases e
  · cases y with
    | d q =>
      have e : (match st.snapF x with
        | some (.list l) => if okEq q (.list l) then match l.findIdx? (fun z => PyData.eqv z q) with
            | some j => R.ok (Val.d (.int j)) st
            | none => .bad
          else .bad
        | _ => .bad) = R.ok w s' := by cases x <;> exact e
      cases h : st.snapF x with
      | none => rw [h] at e; cases e
      | some c =>
        rw [h] at e
        cases c with
        | list l =>
          simp only at e
          by_cases ho : okEq q (.list l) = true
          · rw [if_pos ho] at e
            cases h2 : l.findIdx? (fun z => PyData.eqv z q) with
            | none => rw [h2] at e; cases e
            | some j =>
              rw [h2] at e
              injection e with e1 e2
              subst e1; subst e2
              obtain ⟨y, rfl, hy⟩ := V2.one
              obtain ⟨hj, h3, h4⟩ := List.findIdx?_eq_some_iff_getElem.mp h2
              obtain ⟨a, xs, rfl, _, _, _⟩ := V1.lst R0 h
              unfold okEq at ho
              rw [Bool.and_eq_true] at ho
              exact mt_indexD hu pins s σ H _ _ v us Q I rx rxs ⟨a, y, q, l, j, l[j], rfl, rfl, (V1.dp R0 h).dp _ (nd_shaped ho.2), (Dq.dw q hy).dp _ (nd_shaped ho.1), ho.2, ho.1, List.getElem?_eq_getElem hj, h3, fun n z' hn hz => by
                obtain ⟨hn2, rfl⟩ := List.getElem?_eq_some_iff.mp hz
                have := h4 n hn
                simpa using this, k (.int (j : Nat)) H g Ext.refl R0 (Dq.int _)⟩
          · rw [if_neg ho] at e; cases e
        | _ => cases e
    | _ => cases x <;> cases e
  · cases x <;> first | cases e | (cases y <;> cases e)
/-! ### isinstance -/
theorem dp_ty {K : PySem.W.Frag} {H : Hp} {v : V} {p : D} (h : Dw K H v p) : TyX K H v (.type (typeName p)) := by
  cases p with
  | none => cases h; exact .base .non
  | bool b => cases h; exact .base (.bl _)
  | int i => cases h; exact .base (.int _)
  | str x => cases h; exact .base (.str _)
  | list l =>
    cases h with
    | lst h1 h2 =>
      rcases h1 with (h1 | ⟨o, h1⟩) | ⟨o, its, n, h1, h2, _⟩
      · exact .base (.lst h1)
      · exact .base (.frz h1)
      · exact .kList h1 h2
  | tuple l =>
    cases h with
    | tup h1 h2 =>
      rcases h1 with (h1 | ⟨o, h1⟩) | ⟨o, its, n, h1, h2, _⟩
      · exact .base (.tup h1)
      · exact .fTuple h1
      · exact .kTuple h1 h2
  | dict kvs =>
    cases h with
    | dct h1 => exact .base (.dK h1)
end
end Em
end

section
set_option Elab.async false
set_option linter.all false
set_option maxRecDepth 100000
set_option maxHeartbeats 800000
/-! EmI: the rules for expressions. -/
namespace Em
open PySem PySem.Spec PyProof.Rows L2
section
variable {c : Ctx}
theorem ev_v {i : Nat} : evE c (.v i) = fun σ s => match σ[i]? with
    | some (some v) => .ok v s
    | _ => .bad := by funext σ s; rw [evE]; try rfl
theorem ev_k {p : D} : evE c (.k p) = fun _ s => .ok (.d p) s := by funext σ s; rw [evE]; try rfl
theorem ev_g {i : Nat} : evE c (.g i) = fun _ s => match c.glob i with
    | some p => .ok (.d p) s
    | none => .bad := by funext σ s; rw [evE]; try rfl
theorem ev_pow {a b : Nat} : evE c (.pow a b) = fun _ s => .ok (.d (.int ((a : Int) ^ b))) s := by funext σ s; rw [evE]; try rfl
theorem ev_op {o : Op2} {m : Mode} {a b : E} : evE c (.op o m a b) = fun σ s => (evE c a σ s).bd fun x s1 => (evE c b σ s1).bd fun y s2 => op2S o m x y s2 := by funext σ s; rw [evE]; try rfl
theorem ev_not {a : E} : evE c (.not a) = fun σ s => (tst (evE c a σ s)).bd fun b s1 => .ok (.d (.bool (!b))) s1 := by funext σ s; rw [evE]; try rfl
theorem ev_neg {a : E} : evE c (.neg a) = fun σ s => (evE c a σ s).bd fun x s1 => match x with
    | .d (.int i) => .ok (.d (.int (-i))) s1
    | _ => .bad := by funext σ s; rw [evE]; try rfl
theorem ev_and {a b : E} : evE c (.and a b) = fun σ s => (tst (evE c a σ s)).bd fun x s1 => if x = true then evE c b σ s1 else .ok (.d (.bool false)) s1 := by funext σ s; rw [evE]; try rfl
theorem ev_or {a b : E} : evE c (.or a b) = fun σ s => (tst (evE c a σ s)).bd fun x s1 => if x = true then .ok (.d (.bool true)) s1 else evE c b σ s1 := by funext σ s; rw [evE]; try rfl
theorem ev_ite {t a b : E} : evE c (.ite t a b) = fun σ s => (tst (evE c t σ s)).bd fun x s1 => if x = true then evE c a σ s1 else evE c b σ s1 := by funext σ s; rw [evE]; try rfl
theorem ev_bi {b : Bi} {m : Mode} {es : List E} : evE c (.bi b m es) = fun σ s => (evEs c es σ s).bd fun vs s1 => biS b m vs s1 := by funext σ s; rw [evE]; try rfl
theorem ev_isi {a : E} {ts : List String} : evE c (.isi a ts) = fun σ s => (evE c a σ s).bd fun x s1 => isiV x ts s1 := by funext σ s; rw [evE]; try rfl
theorem ev_mt {b : Mt} {o : E} {es : List E} : evE c (.mt b o es) = fun σ s => (evE c o σ s).bd fun x s1 => if isDi s1 x = true then .bad else (evEs c es σ s1).bd fun vs s2 => mtV b x vs s2 := by funext σ s; rw [evE]; try rfl
theorem ev_ix {a i : E} : evE c (.ix a i) = fun σ s => (evE c a σ s).bd fun x s1 => (evE c i σ s1).bd fun y s2 => ixV x y s2 := by funext σ s; rw [evE]; try rfl
theorem ev_sl {m : Mode} {a : E} {lo hi : Option E} : evE c (.sl m a lo hi) = fun σ s => (evE c a σ s).bd fun x s1 => (evO c lo σ s1).bd fun y s2 => (evO c hi σ s2).bd fun z s3 => slV m x y z s3 := by funext σ s; rw [evE]; try rfl
theorem ev_rev {m : Mode} {a : E} : evE c (.rev m a) = fun σ s => (evE c a σ s).bd fun x s1 => revV m x s1 := by funext σ s; rw [evE]; try rfl
theorem ev_tup {es : List E} : evE c (.tup es) = fun σ s => (evEs c es σ s).bd fun vs s1 => match vs.mapM valD with
    | some ps => .ok (.d (.tuple ps)) s1
    | none => .bad := by funext σ s; rw [evE]; try rfl
theorem ev_lst {m : Mode} {es : List E} : evE c (.lst m es) = fun σ s => (evEs c es σ s).bd fun vs s1 => mkV m vs s1 := by funext σ s; rw [evE]; try rfl
theorem evs_nil : evEs c [] = fun _ s => .ok [] s := by funext σ s; rw [evEs]; try rfl
theorem evs_cons {e : E} {es : List E} : evEs c (e :: es) = fun σ s => (evE c e σ s).bd fun v s1 => (evEs c es σ s1).bd fun vs s2 => .ok (v :: vs) s2 := by funext σ s; rw [evEs]; try rfl
theorem evo_none : evO c none = fun _ s => .ok none s := by funext σ s; rw [evO]; try rfl
theorem evo_some {e : E} : evO c (some e) = fun σ s => (evE c e σ s).bd fun v s1 => .ok (some v) s1 := by funext σ s; rw [evO]; try rfl
end
theorem tst_eq {r : R Val} {b : Bool} {s : Sto} (h : tst r = .ok b s) : r = .ok (.d (.bool b)) s := by
  cases r with
  | ok v s' =>
    cases v with
    | d p =>
      cases p with
      | bool k =>
        have h' : R.ok k s' = R.ok b s := h
        injection h' with h1 h2
        rw [h1, h2]
      | _ => cases h
    | _ => cases h
  | ex _ _ _ => cases h
  | bad => cases h
section
variable {X : Cx} {c : Ctx} {a b e : Expr} {ea eb ee : E} {pos p : Pos} {x : Str} {es : List Expr} {eas : List E} {m : Mode} {rest : List Expr}
abbrev Pe (X : Cx) (c : Ctx) (e : Expr) (ea : E) : Prop := PE X e (tR X.K (evE c ea))
abbrev Pas (X : Cx) (c : Ctx) (es : List Expr) (eas : List E) : Prop := PA X es (tA X.K (evEs c eas))
def tst' (f : Env → Sto → R Val) : Env → Sto → R Bool := fun σ s => tst (f σ s)
abbrev Pt (X : Cx) (c : Ctx) (e : Expr) (ea : E) : Prop := PT X e (tT X.K (tst' (evE c ea)))
theorem em_v {i : Nat} (hN : X.N[i]? = some x) (hv : Vis X.env.scope x := by first | exact .inl rfl | exact .inr (.inl rfl) | exact .inr (.inr rfl)) (hd : (x == ("__debug__" : Str)) = false := by decide) (hcd : (x == ("__classdict__" : Str)) = false := by decide) : Pe X c (.Name x pos) (.v i) := by
  refine PE.imp (pe_var (i := i) hN hv hd hcd) fun σ H Q h => ?_
  obtain ⟨Pr, g, s, σa, u, s', R0, S0, e, k⟩ := h
  rw [ev_v] at e
  cases h : σa[i]? with
  | none => simp only [h] at e; cases e
  | some o =>
    cases o with
    | none => simp only [h] at e; cases e
    | some w =>
      simp only [h] at e
      injection e with e1 e2
      subst e1; subst e2
      obtain ⟨v, e1, e2⟩ := S0.2 i w h
      exact ⟨v, e1, k v H g Ext.refl R0 e2⟩
/-- an expression that is data -/
theorem em_dat {d : D} {v : V} (he : evE c ea = fun _ s => .ok (.d d) s) (h : PE X e (tC v)) (hd : ∀ (M : Addr → Prop) (H : Hp), Dq X.K M H v d) : Pe X c e ea := by
  refine PE.imp h fun σ H Q h => ?_
  obtain ⟨Pr, g, s, σa, u, s', R0, S0, e, k⟩ := h
  rw [he] at e
  injection e with e1 e2
  subst e1; subst e2
  exact k v H g Ext.refl R0 (hd _ _)
theorem em_int {i : Int} {j : Nat} : Pe X c (.Constant (.int i) j pos) (.k (.int i)) := em_dat ev_k pe_int fun _ _ => .int i
theorem em_bl {i : Bool} {j : Nat} : Pe X c (.Constant (.bool i) j pos) (.k (.bool i)) := em_dat ev_k pe_bl fun _ _ => .bl i
theorem em_non {j : Nat} : Pe X c (.Constant .none j pos) (.k .none) := em_dat ev_k pe_non fun _ _ => .non
theorem em_str {i : Str} {j : Nat} : Pe X c (.Constant (.str i) j pos) (.k (.str i)) := em_dat ev_k pe_str fun _ _ => .str i
/-- a global that is data -/
theorem em_g {i : Nat} {d : D} {v : V} {u : Value} (hi : c.glob i = some d) (hg : Gl X x) (hm : X.mg x = some u) (r : RelV v u) (hd : ∀ (M : Addr → Prop) (H : Hp), Dq X.K M H v d) (hdb : (x == ("__debug__" : Str)) = false := by decide) : Pe X c (.Name x pos) (.g i) :=
  em_dat (by rw [ev_g]; funext σ s; rw [hi]) (pe_glob hg hm r hdb) hd
theorem em_op {o : Op2} {op : Operator} (ho : OpR X (binaryOp op) (r2 X.K (op2S o m))) (ha : Pe X c a ea) (hb : Pe X c b eb) : Pe X c (.BinOp a op b pos) (.op o m ea eb) :=
  PE.imp (pe_op ho ha hb) fun σ H Q h => by rw [ev_op] at h; exact tR_seq2 h
theorem em_cmp {o : Op2} {op : CmpOp} (ho : OpR X (compareOp op) (r2 X.K (op2S o m))) (ha : Pe X c a ea) (hb : Pe X c b eb) (hm : behindInMarks op b = false := by first | exact nobehind _ (by decide) (by decide) | rfl) : Pe X c (.Compare a [op] [b] pos) (.op o m ea eb) :=
  PE.imp (pe_cmpR ho ha hb hm) fun σ H Q h => by rw [ev_op] at h; exact tR_seq2 h
/-- tests -/
theorem tT_of {f : Env → Sto → R Val} {σ : L2.St} {H : Hp} {Q : Bool → Hp → Prop} (h : tT X.K (tst' f) σ H Q) : tB (tR X.K f) σ H Q := by
  obtain ⟨Pr, g, s, σa, u, s', R0, S0, e, k⟩ := h
  refine ⟨Pr, g, s, σa, _, s', R0, S0, tst_eq e, fun v H' g' X' R' V => ?_⟩
  cases V
  exact ⟨u, rfl, k H' g' X' R'⟩
theorem tt_val (h : Pe X c e ea) (he : ∀ whole, isTrue e X.env whole = (do let v ← whole; standAt e.pos; holding [v] (truthy v)) := by intro _; rfl) : Pt X c e ea :=
  PT.imp (pt_val h he) fun σ H Q h => tT_of h
theorem tt_cmp {o : Op2} {op : CmpOp} (ho : OpR X (compareOp op) (r2 X.K (op2S o m))) (ha : Pe X c a ea) (hb : Pe X c b eb) (hm : behindInMarks op b = false := by first | exact nobehind _ (by decide) (by decide) | rfl) : Pt X c (.Compare a [op] [b] pos) (.op o m ea eb) :=
  PT.imp (pt_cmpR ho ha hb hm) fun σ H Q h => by
    have h := tT_of h
    rw [ev_op] at h
    obtain ⟨Pr, g, s, σa, u, s', R0, S0, e, k⟩ := h
    exact tR_seq2 ⟨Pr, g, s, σa, u, s', R0, S0, e, k⟩
theorem tt_not (ha : Pt X c a ea) : Pt X c (.UnaryOp .Not a pos) (.not ea) :=
  PT.imp (pt_not ha) fun σ H Q h => by
    obtain ⟨Pr, g, s, σa, u, s', R0, S0, e, k⟩ := h
    unfold tst' at e
    rw [ev_not] at e
    have e := tst_eq e
    obtain ⟨b, s1, e1, e2⟩ := R.bd_eq e
    injection e2 with e2 e3
    injection e2 with e2
    injection e2 with e2
    subst e2; subst e3
    exact ⟨Pr, g, s, σa, b, s1, R0, S0, e1, k⟩
abbrev Pw (X : Cx) (c : Ctx) (e : Expr) (ea : E) : Prop := PW X e (tT X.K (tst' (evE c ea)))
theorem PW.imp {X : Cx} {e : Expr} {t t' : TT} (h : PW X e t) (i : ∀ σ H Q, t' σ H Q → t σ H Q) : PW X e t' := ⟨fun wh pins s σ H Q I hw => h.run wh pins s σ H Q I (i _ _ _ hw)⟩
theorem tt_w (h : Pw X c e ea) : Pt X c e ea := h.pt
theorem tw_and1 (ha : Pt X c a ea) : Pw X c (.BoolOp .And [a] pos) ea := pw_and1 ha
theorem tw_or1 (ha : Pt X c a ea) : Pw X c (.BoolOp .Or [a] pos) ea := pw_or1 ha
theorem tw_and (ha : Pt X c a ea) (hb : Pw X c (.BoolOp .And (b :: rest) pos) eb) : Pw X c (.BoolOp .And (a :: b :: rest) pos) (.and ea eb) :=
  PW.imp (pw_and ha hb) fun σ H Q h => by
    obtain ⟨Pr, g, s, σa, u, s', R0, S0, e, k⟩ := h
    unfold tst' at e
    rw [ev_and] at e
    have e := tst_eq e
    obtain ⟨t, s1, e1, e2⟩ := R.bd_eq e
    refine ⟨Pr, g, s, σa, t, s1, R0, S0, e1, fun H' g' X' R' => ?_⟩
    cases t with
    | true => exact ⟨Pr, g', s1, σa, u, s', R', S0.ext R0 X', by unfold tst'; rw [show evE c eb σa s1 = _ from e2]; rfl, fun H2 g2 X2 R2 => k H2 g2 (X'.trans X2) R2⟩
    | false =>
      have e2 : R.ok (Val.d (.bool false)) s1 = R.ok (Val.d (.bool u)) s' := e2
      injection e2 with e2 e3
      injection e2 with e2
      injection e2 with e2
      subst e2; subst e3
      exact k H' g' X' R'
theorem tw_or (ha : Pt X c a ea) (hb : Pw X c (.BoolOp .Or (b :: rest) pos) eb) : Pw X c (.BoolOp .Or (a :: b :: rest) pos) (.or ea eb) :=
  PW.imp (pw_or ha hb) fun σ H Q h => by
    obtain ⟨Pr, g, s, σa, u, s', R0, S0, e, k⟩ := h
    unfold tst' at e
    rw [ev_or] at e
    have e := tst_eq e
    obtain ⟨t, s1, e1, e2⟩ := R.bd_eq e
    refine ⟨Pr, g, s, σa, t, s1, R0, S0, e1, fun H' g' X' R' => ?_⟩
    cases t with
    | false => exact ⟨Pr, g', s1, σa, u, s', R', S0.ext R0 X', by unfold tst'; rw [show evE c eb σa s1 = _ from e2]; rfl, fun H2 g2 X2 R2 => k H2 g2 (X'.trans X2) R2⟩
    | true =>
      have e2 : R.ok (Val.d (.bool true)) s1 = R.ok (Val.d (.bool u)) s' := e2
      injection e2 with e2 e3
      injection e2 with e2
      injection e2 with e2
      subst e2; subst e3
      exact k H' g' X' R'
/-- a value's use as a bool -/
theorem bool_step {K : PySem.W.Frag} {fa : Env → Sto → R Val} {f : Bool → Env → Sto → R Val} {σ : L2.St} {H : Hp} {Q : VK} (h : tR K (fun σ s => (tst (fa σ s)).bd fun x s1 => f x σ s1) σ H Q) :
    tR K fa σ H fun v H1 => ∃ k, v = .bl k ∧ tR K (f k) σ H1 Q := by
  obtain ⟨Pr, g, s, σa, u, s', R0, S0, e, k⟩ := h
  obtain ⟨t, s1, e1, e2⟩ := R.bd_eq e
  refine ⟨Pr, g, s, σa, _, s1, R0, S0, tst_eq e1, fun v H' g' X' R' V => ?_⟩
  cases V
  exact ⟨t, rfl, Pr, g', s1, σa, u, s', R', S0.ext R0 X', e2, fun v H2 g2 X2 R2 V2 => k v H2 g2 (X'.trans X2) R2 V2⟩
/-- the end of a reading that is data at once -/
theorem tR_dat {K : PySem.W.Frag} {d : D} {v : V} {σ : L2.St} {H : Hp} {Q : VK} (h : tR K (fun _ s => .ok (.d d) s) σ H Q) (hd : ∀ (M : Addr → Prop), Dq K M H v d) : Q v H := by
  obtain ⟨Pr, g, s, σa, u, s', R0, S0, e, k⟩ := h
  injection e with e1 e2
  subst e1; subst e2
  exact k v H g Ext.refl R0 (hd _)
theorem em_not (ha : Pe X c a ea) : Pe X c (.UnaryOp .Not a pos) (.not ea) :=
  PE.imp (pe_not ha) fun σ H Q h => by
    rw [ev_not] at h
    obtain ⟨Pr, g, s, σa, u, s', R0, S0, e, k⟩ := bool_step (f := fun b _ s1 => .ok (.d (.bool (!b))) s1) h
    refine ⟨Pr, g, s, σa, u, s', R0, S0, e, fun v H' g' X' R' V => ?_⟩
    obtain ⟨b, rfl, q⟩ := k v H' g' X' R' V
    exact ⟨b, rfl, tR_dat q fun _ => .bl _⟩
theorem em_one {op : BoolOp} (h : Pe X c a ea) : Pe X c (.BoolOp op [a] pos) ea := pe_one h
theorem em_and (ha : Pe X c a ea) (hb : Pe X c (.BoolOp .And (b :: rest) pos) eb) : Pe X c (.BoolOp .And (a :: b :: rest) pos) (.and ea eb) :=
  PE.imp (pe_and ha hb) fun σ H Q h => by
    rw [ev_and] at h
    obtain ⟨Pr, g, s, σa, u, s', R0, S0, e, k⟩ := bool_step (f := fun x σ s1 => if x = true then evE c eb σ s1 else .ok (.d (.bool false)) s1) h
    refine ⟨Pr, g, s, σa, u, s', R0, S0, e, fun v H' g' X' R' V => ?_⟩
    obtain ⟨b, rfl, q⟩ := k v H' g' X' R' V
    refine ⟨b, rfl, ?_⟩
    cases b with
    | true => exact q
    | false => exact tR_dat (d := .bool false) q fun _ => .bl _
theorem em_or (ha : Pe X c a ea) (hb : Pe X c (.BoolOp .Or (b :: rest) pos) eb) : Pe X c (.BoolOp .Or (a :: b :: rest) pos) (.or ea eb) :=
  PE.imp (pe_or ha hb) fun σ H Q h => by
    rw [ev_or] at h
    obtain ⟨Pr, g, s, σa, u, s', R0, S0, e, k⟩ := bool_step (f := fun x σ s1 => if x = true then .ok (.d (.bool true)) s1 else evE c eb σ s1) h
    refine ⟨Pr, g, s, σa, u, s', R0, S0, e, fun v H' g' X' R' V => ?_⟩
    obtain ⟨b, rfl, q⟩ := k v H' g' X' R' V
    refine ⟨b, rfl, ?_⟩
    cases b with
    | true => exact tR_dat (d := .bool true) q fun _ => .bl _
    | false => exact q
theorem em_neg (ha : Pe X c a ea) : Pe X c (.UnaryOp .USub a pos) (.neg ea) :=
  PE.imp (pe_un un_neg ha) fun σ H Q h => by
    rw [ev_neg] at h
    obtain ⟨Pr, g, s, σa, u, s', R0, S0, e, k⟩ := h
    obtain ⟨x, s1, e1, e2⟩ := R.bd_eq e
    refine ⟨Pr, g, s, σa, x, s1, R0, S0, e1, fun v H' g' X' R' V => ?_⟩
    cases x with
    | d q =>
      cases q with
      | int i =>
        injection e2 with e2 e3
        subst e2; subst e3
        cases V
        exact ⟨i, rfl, k _ H' g' X' R' (Dq.int _)⟩
      | _ => cases e2
    | _ => cases e2
theorem em_ite {t : Expr} {et : E} (ht : Pt X c t et) (ha : Pe X c a ea) (hb : Pe X c b eb) : Pe X c (.IfExp t a b pos) (.ite et ea eb) :=
  PE.imp (pe_ifExp ht ha hb) fun σ H Q h => by
    rw [ev_ite] at h
    obtain ⟨Pr, g, s, σa, u, s', R0, S0, e, k⟩ := h
    obtain ⟨x, s1, e1, e2⟩ := R.bd_eq e
    refine ⟨Pr, g, s, σa, x, s1, R0, S0, e1, fun H' g' X' R' => ?_⟩
    cases x with
    | true => exact ⟨Pr, g', s1, σa, u, s', R', S0.ext R0 X', e2, fun v H2 g2 X2 R2 V2 => k v H2 g2 (X'.trans X2) R2 V2⟩
    | false => exact ⟨Pr, g', s1, σa, u, s', R', S0.ext R0 X', e2, fun v H2 g2 X2 R2 V2 => k v H2 g2 (X'.trans X2) R2 V2⟩
theorem es_nil : Pas X c [] [] := PA.imp pa_nil fun σ H Q h => by
  obtain ⟨Pr, g, s, σa, u, s', R0, S0, e, k⟩ := h
  rw [evs_nil] at e
  injection e with e1 e2
  subst e1; subst e2
  exact k [] H g Ext.refl R0 .nil
theorem es_cons (h : Pe X c e ea) (t : Pas X c es eas) (hs : starEach (e :: es) X.env = (false, eval e X.env) :: starEach es X.env := by rfl) : Pas X c (e :: es) (ea :: eas) :=
  PA.imp (pa_cons h t hs) fun σ H Q h => by
    obtain ⟨Pr, g, s, σa, u, s', R0, S0, e, k⟩ := h
    rw [evs_cons] at e
    obtain ⟨x, s1, e1, e⟩ := R.bd_eq e
    obtain ⟨xs, s2, e2, e⟩ := R.bd_eq e
    injection e with e3 e4
    subst e3; subst e4
    exact ⟨Pr, g, s, σa, x, s1, R0, S0, e1, fun v H' g' X' R' V => ⟨Pr, g', s1, σa, xs, s2, R', S0.ext R0 X', e2, fun vs H2 g2 X2 R2 V2 => k _ H2 g2 (X'.trans X2) R2 (.cons (V.ext R' X2) V2)⟩⟩
/-- f(e, ..), f a built-in function; T(e, ..), T a built-in type -/
theorem em_bi {bi : Bi} {id : String} (hc : CallR X (.builtin id) (rs X.K (biS bi m))) (hg : Gl X x) (hm : X.mg x = none) (hv : bootBuiltins x = some (.builtin id)) (ha : Pas X c (e :: es) eas) (hn : x ≠ "__name__" := by decide) (hdb : (x == ("__debug__" : Str)) = false := by decide)
    (he : starEach (e :: es) X.env = (false, eval e X.env) :: starEach es X.env := by rfl) (hpl : (backTo pos (starEach es X.env)).any (·.1) = false := by rfl) : Pe X c (.Call (.Name x p) (e :: es) [] pos) (.bi bi m eas) :=
  PE.imp (pe_callB hc hg hm hv ha hn hdb he hpl) fun σ H Q h => by rw [ev_bi] at h; exact tR_seqs h
theorem em_ty {bi : Bi} {T : String} (hc : CallR X (.type T) (rs X.K (biS bi m))) (hg : Gl X x) (hm : X.mg x = none) (hv : bootBuiltins x = some (.type T)) (ha : Pas X c (e :: es) eas) (hn : x ≠ "__name__" := by decide) (hdb : (x == ("__debug__" : Str)) = false := by decide)
    (he : starEach (e :: es) X.env = (false, eval e X.env) :: starEach es X.env := by rfl) (hpl : (backTo pos (starEach es X.env)).any (·.1) = false := by rfl) : Pe X c (.Call (.Name x p) (e :: es) [] pos) (.bi bi m eas) :=
  PE.imp (pe_callTy hc hg hm hv ha hn hdb he hpl) fun σ H Q h => by rw [ev_bi] at h; exact tR_seqs h
theorem em_ix (ha : Pe X c a ea) (hb : Pe X c b eb) (hs : PlainIx b := by intro _ _; rfl) : Pe X c (.Subscript a b pos) (.ix ea eb) :=
  PE.imp (pe_ix ixr ha hb hs) fun σ H Q h => by rw [ev_ix] at h; exact tR_seq2 h
abbrev Po (X : Cx) (c : Ctx) (e : Option Expr) (ea : Option E) : Prop := PO X e (tO X.K (evO c ea))
theorem eo_none : Po X c none none := PO.imp po_none fun σ H Q h => by
  obtain ⟨Pr, g, s, σa, o, i, s', R0, S0, e, hi, k⟩ := h
  rw [evo_none] at e
  injection e with e1 e2
  subst e1; subst e2
  have hi : some (none : Option Int) = some i := hi
  cases hi
  exact k H g Ext.refl R0
theorem eo_some (h : Pe X c e ea) : Po X c (some e) (some ea) := PO.imp (po_some h) fun σ H Q h => by
  obtain ⟨Pr, g, s, σa, o, i, s', R0, S0, e, hi, k⟩ := h
  rw [evo_some] at e
  obtain ⟨x, s1, e1, e⟩ := R.bd_eq e
  injection e with e2 e3
  subst e2; subst e3
  refine ⟨Pr, g, s, σa, x, s1, R0, S0, e1, fun v H' g' X' R' V => ?_⟩
  cases x with
  | d q =>
    cases q with
    | int j =>
      have hi : some (some j) = some i := hi
      cases hi
      cases V
      exact ⟨j, rfl, k H' g' X' R'⟩
    | _ => cases hi
  | _ => cases hi
theorem em_sl {lo hi : Option Expr} {el eh : Option E} {p2 : Pos} (ha : Pe X c a ea) (hl : Po X c lo el) (hh : Po X c hi eh) : Pe X c (.Subscript a (.Slice lo hi none p2) pos) (.sl m ea el eh) :=
  PE.imp (pe_slice slr ha hl hh) fun σ H Q h => by
    obtain ⟨Pr, g, s, σa, u, s', R0, S0, e, k⟩ := h
    rw [ev_sl] at e
    obtain ⟨x, s1, e1, e⟩ := R.bd_eq e
    obtain ⟨y, s2, e2, e⟩ := R.bd_eq e
    obtain ⟨z, s3, e3, e⟩ := R.bd_eq e
    obtain ⟨i, j, p1, p2, e⟩ := slV_cases e
    exact ⟨Pr, g, s, σa, x, s1, R0, S0, e1, fun v H1 g1 X1 R1 V1 => ⟨Pr, g1, s1, σa, y, i, s2, R1, S0.ext R0 X1, e2, p1, fun H2 g2 X2 R2 => ⟨Pr, g2, s2, σa, z, j, s3, R2, (S0.ext R0 X1).ext R1 X2, e3, p2, fun H3 g3 X3 R3 =>
      ⟨Pr, g3, s3, x, u, s', R3, (V1.ext R1 X2).ext R2 X3, e, fun v H4 g4 X4 R4 V4 => k v H4 g4 (((X1.trans X2).trans X3).trans X4) R4 V4⟩⟩⟩⟩
theorem evs_len : ∀ {es : List E} {σa : Env} {s : Sto} {xs : List Val} {s1 : Sto}, evEs c es σa s = .ok xs s1 → xs.length = es.length := by
  intro es
  induction es with
  | nil => intro σa s xs s1 e; rw [evs_nil] at e; cases e; rfl
  | cons e0 es ih =>
    intro σa s xs s1 e
    rw [evs_cons] at e
    obtain ⟨x, s2, e1, e⟩ := R.bd_eq e
    obtain ⟨xs', s3, e2, e⟩ := R.bd_eq e
    cases e
    exact congrArg (· + 1) (ih e2)
theorem em_tup {k : Nat} (h : Pas X c es eas) (hz : eas.length ≤ 1000 := by decide) : Pe X c (.Tuple es k pos) (.tup eas) :=
  PE.imp (pe_tup h) fun σ H Q h => by
    rw [ev_tup] at h
    obtain ⟨Pr, g, s, σa, u, s', R0, S0, e, k⟩ := h
    obtain ⟨xs, s1, e1, e⟩ := R.bd_eq e
    refine ⟨Pr, g, s, σa, xs, s1, R0, S0, e1, fun vs H' g' X' R' V => ?_⟩
    have hl := evs_len e1
    have hv := V.length
    have hn := sizeLine_eq
    cases q : xs.mapM valD with
    | none => simp only [q] at e; cases e
    | some ps =>
      simp only [q] at e
      injection e with e2 e3
      subst e2; subst e3
      have d := valD_all V q
      exact ⟨by omega, fun p hp => tup_end R' hp d fun v H2 g2 X2 R2 V2 => k v H2 g2 (X'.trans X2) R2 V2⟩
theorem em_lst (h : Pas X c es eas) (hz : eas.length ≤ 1000 := by decide) : Pe X c (.List es pos) (.lst m eas) :=
  PE.imp (pe_lst h) fun σ H Q h => by
    rw [ev_lst] at h
    obtain ⟨Pr, g, s, σa, u, s', R0, S0, e, k⟩ := h
    obtain ⟨xs, s1, e1, e⟩ := R.bd_eq e
    refine ⟨Pr, g, s, σa, xs, s1, R0, S0, e1, fun vs H' g' X' R' V => ?_⟩
    have hl := evs_len e1
    have hv := V.length
    have hn := sizeLine_eq
    refine ⟨by omega, fun p hp => ?_⟩
    obtain ⟨g2, X2, R2, V2⟩ := mkV_ok R' e hp V (by omega)
    exact k _ _ g2 (X'.trans X2) R2 V2
/-- a list as a method's object -/
theorem mtV_list {mb : Mt} {x : Val} {xs : List Val} {s s' : Sto} {u : Val} (e : mtV mb x xs s = .ok u s') : (∃ j, x = .fl j) ∨ (∃ j, x = .ne j) ∨ (∃ l, x = .sc l) ∨ ∃ l, x = .d (.list l) := by
  cases x with
  | fl j => exact .inl ⟨j, rfl⟩
  | ne j => exact .inr (.inl ⟨j, rfl⟩)
  | sc l => exact .inr (.inr (.inl ⟨l, rfl⟩))
  | d p =>
    cases p with
    | list l => exact .inr (.inr (.inr ⟨l, rfl⟩))
    | _ =>
      exfalso
      cases mb <;> rcases xs with _ | ⟨y, _ | ⟨z, t⟩⟩ <;> first | cases e | (cases y <;> first | cases e | (rename_i q; cases q <;> cases e))
theorem tyV_list {K : PySem.W.Frag} {Pr : Addr → Prop} {g : Wd} {H : Hp} {s : Sto} (r : Rl K Pr g s H) {x : Val} {v : V} (V0 : VR K Pr g H x v) (hd : isDi s x = false) (hx : (∃ j, x = .fl j) ∨ (∃ j, x = .ne j) ∨ (∃ l, x = .sc l) ∨ ∃ l, x = .d (.list l)) : tyV K "list" v H := by
  rcases hx with ⟨j, rfl⟩ | ⟨j, rfl⟩ | ⟨l, rfl⟩ | ⟨l, rfl⟩
  · obtain ⟨a, ea, rfl⟩ := V0
    obtain ⟨c, hc⟩ := r.lt_mu ea
    have q := r.f j a c ea hc
    cases c with
    | li l => obtain ⟨_, ys, q, _⟩ := q; exact .inl ⟨rfl, ys, .inl (.inl q)⟩
    | di kvs => simp only [isDi, hc] at hd; cases hd
  · obtain ⟨a, ea, rfl⟩ := V0
    obtain ⟨c, hc⟩ := r.lt_nu ea
    obtain ⟨ys, q, _⟩ := r.n j a c ea hc
    exact .inl ⟨rfl, ys, .inl (.inl q)⟩
  · obtain ⟨a, xs, rfl, q, _⟩ := V0.lst r (l := l.map .int) rfl
    exact .inl ⟨rfl, xs, q⟩
  · obtain ⟨a, xs, rfl, q, _⟩ := V0.lst r (l := l) rfl
    exact .inl ⟨rfl, xs, q⟩
/-- o.m(e, ..), o.m() of a list -/
theorem em_mt {mb : Mt} {name : Str} {id : String} {apos : Pos} (slot : Slot "list" name id) (hty : typeOf (.builtin id) = pure (.type "method_descriptor")) (hm : MtR X id (rM X.K (mtV mb))) (ho : Pe X c a ea) (ha : Pas X c (e :: es) eas)
    (hbase : attributeBase a name X.env (eval a X.env) = eval a X.env := by rfl)
    (hfew : ((backTo pos (starEach (e :: es) X.env)).all (fun x => !x.1) && (backToKw pos (keywordEach [] X.env)).all (fun x => x.1.isSome)
      && decide ((e :: es).length + ([] : List Keyword).length + (if ([] : List Keyword).isEmpty then 0 else 1) < 30)) = true := by rfl)
    (hline : (apos.endLine == pos.line) = true := by rfl) (hs : starEach (e :: es) X.env = (false, eval e X.env) :: starEach es X.env := by rfl) (hplain : (backTo pos (starEach es X.env)).any (·.1) = false := by rfl) :
    Pe X c (.Call (.Attribute a name apos) (e :: es) [] pos) (.mt mb ea eas) :=
  PE.imp (pe_bm PySem.F.plainAttrs_list slot hty hm ho ha hbase hfew hline hs hplain) fun σ H Q h => by
    rw [ev_mt] at h
    obtain ⟨Pr, g, s, σa, u, s', R0, S0, e, k⟩ := h
    obtain ⟨x, s1, e1, e⟩ := R.bd_eq e
    cases hd : isDi s1 x with
    | true => simp only [hd, if_true] at e; cases e
    | false =>
    simp only [hd, Bool.false_eq_true, if_false] at e
    obtain ⟨xs, s2, e2, e⟩ := R.bd_eq e
    refine ⟨Pr, g, s, σa, x, s1, R0, S0, e1, fun v H' g' X' R' V => ⟨?_, Pr, g', s1, σa, xs, s2, R', S0.ext R0 X', e2, fun vs H2 g2 X2 R2 V2 => ⟨Pr, g2, s2, x, xs, u, s', R2, V.ext R' X2, V2, e, fun w H3 g3 X3 R3 V3 => k w H3 g3 ((X'.trans X2).trans X3) R3 V3⟩⟩⟩
    exact tyV_list R' V hd (mtV_list e)
theorem em_mt0 {mb : Mt} {name : Str} {id : String} {apos : Pos} (slot : Slot "list" name id) (hty : typeOf (.builtin id) = pure (.type "method_descriptor")) (hm : MtR X id (rM X.K (mtV mb))) (ho : Pe X c a ea)
    (hbase : attributeBase a name X.env (eval a X.env) = eval a X.env := by rfl) (hline : (apos.endLine == pos.line) = true := by rfl) :
    Pe X c (.Call (.Attribute a name apos) [] [] pos) (.mt mb ea []) :=
  PE.imp (pe_bm0 PySem.F.plainAttrs_list slot hty hm ho hbase hline) fun σ H Q h => by
    rw [ev_mt, evs_nil] at h
    obtain ⟨Pr, g, s, σa, u, s', R0, S0, e, k⟩ := h
    obtain ⟨x, s1, e1, e⟩ := R.bd_eq e
    cases hd : isDi s1 x with
    | true => simp only [hd, if_true] at e; cases e
    | false =>
    simp only [hd, Bool.false_eq_true, if_false] at e
    exact ⟨Pr, g, s, σa, x, s1, R0, S0, e1, fun v H' g' X' R' V => ⟨tyV_list R' V hd (mtV_list e), Pr, g', s1, x, [], u, s', R', V, .nil, e, fun w H3 g3 X3 R3 V3 => k w H3 g3 (X'.trans X3) R3 V3⟩⟩
/-- isinstance(e, T) -/
theorem kit_tab : ∀ t ∈ tyNames, ∀ u ∈ ["bool", "int", "str", "list", "tuple", "dict"], kitB t u = some (isiB t u) := by decide +kernel
theorem typeName_mem (p : D) : typeName p ∈ tyNames := by cases p <;> simp [typeName, tyNames]
theorem em_isi {T : String} {p2 : Pos} {y : Str} (hT : T ∈ ["bool", "int", "str", "list", "tuple", "dict"]) (ha : Pe X c a ea) (hg : Gl X "isinstance") (hm : X.mg "isinstance" = none) (hg2 : Gl X y) (hm2 : X.mg y = none) (hv2 : bootBuiltins y = some (.type T)) (hn2 : y ≠ "__name__" := by decide) (hd2 : (y == ("__debug__" : Str)) = false := by decide)
    (he : starEach [a, .Name y p2] X.env = (false, eval a X.env) :: starEach [.Name y p2] X.env := by rfl) (hpl : (backTo pos (starEach [.Name y p2] X.env)).any (·.1) = false := by rfl)
    (hs2 : starEach [.Name y p2] X.env = (false, eval (.Name y p2) X.env) :: starEach [] X.env := by rfl) : Pe X c (.Call (.Name "isinstance" p) [a, .Name y p2] [] pos) (.isi ea [T]) :=
  PE.imp (pe_callB call_isi hg hm PyProof.Rows.boot_isinstance (pa_cons ha (pa_cons (pe_bltn (v := .ty T) hg2 hm2 hv2 rfl hn2 hd2) pa_nil hs2) he) (by decide) (by decide) he hpl) fun σ H Q h => by
    rw [ev_isi] at h
    obtain ⟨Pr, g, s, σa, u, s', R0, S0, e, k⟩ := h
    obtain ⟨x, s1, e1, e⟩ := R.bd_eq e
    refine ⟨Pr, g, s, σa, x, s1, R0, S0, e1, fun v H' g' X' R' V => ?_⟩
    unfold isiV at e
    cases q : s1.snap x with
    | none => rw [q] at e; cases e
    | some d =>
      rw [q] at e
      injection e with e2 e3
      subst e2; subst e3
      have hd := V.dps R' q
      refine ⟨v, .ty T, _, .type T, isiB (typeName d) T, rfl, .ty T, dp_ty hd, kit_ty (kit_tab _ (typeName_mem d) T hT), ?_⟩
      have e4 : [T].any (isiB (typeName d)) = isiB (typeName d) T := by simp
      rw [e4] at k
      exact k _ H' g' X' R' (Dq.bl _)
end
end Em
end

section
set_option Elab.async false
set_option linter.all false
set_option maxRecDepth 100000
set_option maxHeartbeats 800000
/-! EmJ: sorted, repr. -/
namespace Em
open PySem PySem.Spec PyProof.Rows PySem.W
section
variable {prog : Program} {w : World} {A : Around} {E : Value → Shared → Prop} {s : Shared}
theorem collect_tup {l : Addr} {vs : List Value} {Q : List Value → Shared → Prop} (hl : s.heap.IsTuple l vs.toArray)
    (h : Q vs { s with heap := (s.heap.push (seqObj "list" #[] 0)).update s.heap.objs.size (Obj.mapSeq (· ++ vs.toArray)) }) (hsz : vs.length ≤ sizeLine) :
    wpAny (model prog w) A (collect (.ref l)) Q E s := by
  obtain ⟨o, ho, hc, n, hd⟩ := id hl
  unfold collect
  refine wpAny_bind (wpAny_runValue (codeAny_builtin entry_proto_collect' ?_))
  show wpAny _ _ (do again (.builtin "list.__iadd__" ⟨[← newList [], .ref l], []⟩)) _ _ s
  refine wpAny_bind (wpAny_newList (wpAny_pure ⟨Code.quiet_builtin _ (by decide +kernel), codeAny_builtin entry_list_iadd' ?_⟩))
  show wpAny _ _ (Builtin.List.listExtendWith (.ref s.heap.objs.size) (.ref l) (.ref s.heap.objs.size)) _ _ { s with heap := s.heap.push (seqObj "list" #[] 0) }
  unfold Builtin.List.listExtendWith
  have ho' : (s.heap.push (seqObj "list" #[] 0)).get? l = some o := Heap.get?_push_of_some _ ho
  refine wpAny_bind (wpAny_typeOf (T := "tuple") ⟨o, ho', hc⟩ ?_)
  have ht : (Value.type "tuple" == Value.type "tuple") = true := by rfl
  rw [if_pos (by rw [ht]; simp)]
  refine wpAny_bind (listItems_at ho' hd ?_)
  refine wpAny_bind (listItems_at (xs := #[]) (n := 0) (Heap.get?_push_size _ rfl) rfl ?_)
  rw [if_neg (by simp)]
  refine wpAny_bind (listUpdate_at (xs := #[]) (n := 0) (Heap.get?_push_size _ rfl) rfl ?_ (Nat.zero_le _) (by show (#[] ++ vs.toArray).size ≤ sizeLine + 1; simp only [Array.size_append, List.size_toArray, List.length_nil]; omega))
  refine wpAny_pure ?_
  show wpAny (model prog w) A (do
      let o ← load s.heap.objs.size
      match o.data with
      | .seq xs _ => pure xs.toList
      | _ => unsupported "internal:collect") Q E { s with heap := (s.heap.push (seqObj "list" #[] 0)).update s.heap.objs.size (Obj.mapSeq (· ++ vs.toArray)) }
  refine wpAny_bind (wpAny_load (get?_update_seq (Heap.get?_push_size _ rfl) _) ?_)
  show wpAny _ _ (pure ((#[] : Array Value) ++ vs.toArray).toList) Q E _
  rw [show ((#[] : Array Value) ++ vs.toArray).toList = vs by simp]
  exact wpAny_pure h
theorem sorted_of_tup {l : Addr} {vs : List Value} {Q : Value → Shared → Prop} (hl : s.heap.IsTuple l vs.toArray) (hL : vs.length ≤ sizeLine)
    (body : ∀ E' : Value → Shared → Prop, wpAny (model prog w) A.in1.in1 (Builtin.«list.sort» ⟨[.ref (s.heap.objs.size + 1)], []⟩) (fun f s' => f = .done (.ret .none) ∧ Q (.ref (s.heap.objs.size + 1)) s') E' { s with heap := copyHeap s.heap vs }) :
    wpAny (model prog w) A (call (.builtin "sorted") [.ref l]) Q E s := by
  refine call_function_entry_kw kind_sorted plain_sorted entry_sorted (args_sorted1 _) ?_
  unfold Builtin.«sorted»
  refine wpAny_bind (m := checkCount "sorted" 1 1 _) (wpAny_pure ?_)
  refine wpAny_bind (collect_tup hl ?_ hL)
  refine wpAny_bind (wpAny_newList ?_ hL)
  have hsz : ((s.heap.push (seqObj "list" #[] 0)).update s.heap.objs.size (Obj.mapSeq (· ++ vs.toArray))).objs.size = s.heap.objs.size + 1 := by
    rw [Heap.size_update, size_push']
  show wpAny _ _ _ _ _ { s with heap := copyHeap s.heap vs }
  rw [hsz]
  refine wpAny_bind (wpAny_holding (wpAny_call_entry_kw slot_list_sort ⟨_, copyHeap_at s.heap vs, rfl⟩ entry_list_sort ?body (args_list_sort _)))
  case body =>
    show wpAny (model prog w) A.in1.in1 (Builtin.«list.sort» ⟨[.ref (s.heap.objs.size + 1)], []⟩) _ _ _
    refine wpAny_mono (body _) (fun f s' hf => ?_) fun _ _ e => e
    obtain ⟨rfl, hq⟩ := hf
    exact ⟨_, rfl, wpAny_pure ⟨_, rfl, hq⟩⟩
theorem sorted_data_tup {β : Type} {vs : List Value} {bs : List β} {enc : β → PyData} {R : Value → β → Prop} {l : Addr} {Q : Value → Shared → Prop} (hl : s.heap.IsTuple l vs.toArray) (e : EachIs R vs bs) (er : PySem.W.EachIs (fun v b => ∃ as, Reads s.heap v (enc b) as) vs bs) (hal : AllAlike (bs.map enc)) (hk : Sortable (bs.map enc)) (hL : bs.length ≤ sizeLine)
    (hu : ∀ b, b ∈ bs → A.units + 2 + (enc b).depth < cLine) (h : ∀ out, out.length = bs.length → EachIs R out (bs.mergeSort (dataLe false enc)) → Q (.ref (s.heap.objs.size + 1)) { s with heap := sortedAll s.heap vs (List.toArray out) }) :
    wpAny (model prog w) A (call (.builtin "sorted") [.ref l]) Q E s := by
  have er' : PySem.W.EachIs (fun v b => ∃ as, Reads (sortingHeap (copyHeap s.heap vs) (s.heap.objs.size + 1) vs) v (enc b) as) vs bs := er.mono fun _ _ ⟨as, r⟩ => ⟨as, PyProof.Rows.Reads.keeps (fun _ _ => sorting_copy_old) r⟩
  refine sorted_of_tup hl (by rw [e.length]; exact hL) fun _ => list_sort_vals (s := { s with heap := copyHeap s.heap vs }) (copyHeap_at s.heap vs) (SortsAt.data (s := { s with heap := sortingHeap (copyHeap s.heap vs) (s.heap.objs.size + 1) vs }) (each_map (R := fun v d => ∃ as, Reads (sortingHeap (copyHeap s.heap vs) (s.heap.objs.size + 1) vs) v d as) enc er') hal hk (bound_map hu)) (by rw [e.length]; exact hL)
    ⟨rfl, h _ (by rw [sortVals_length false rfl]; exact e.length) (sortVals_data false e er' hal)⟩
end
end Em
namespace Em
open PySem PySem.Spec PyProof.Rows PySem.Calls L2
section
variable {X : Cx} {m : Mode}
theorem sortOk_cases {l : List D} (h : sortOk l = true) : PySem.W.AllAlike l ∧ PySem.W.Sortable l ∧ (∀ d ∈ l, d.depth ≤ 64) ∧ l.length ≤ sizeMax ∧ ∀ d ∈ l, d.hasDict = false := by
  unfold sortOk at h
  simp only [Bool.and_eq_true, Bool.or_eq_true, List.all_eq_true, decide_eq_true_eq, Bool.not_eq_true'] at h
  obtain ⟨⟨⟨⟨h1, h2⟩, h3⟩, h4⟩, h5⟩ := h
  refine ⟨fun d hd d' hd' => h1 d hd d' hd', ?_, h3, h4, h5⟩
  rcases h2 with h2 | h2
  · refine .inl fun d hd => ?_
    have := h2 d hd
    cases d with
    | tuple t =>
      cases t with
      | nil => cases this
      | cons x r => exact ⟨x, r, rfl⟩
    | _ => cases this
  · refine .inr fun d hd => ?_
    have := h2 d hd
    cases d with
    | none => cases this
    | tuple t => cases this
    | _ => exact ⟨(fun z => nomatch z), (fun _ z => nomatch z)⟩
/-- what a value stands for -/
def RD (K : PySem.W.Frag) (M : Addr → Prop) (H : Hp) (u : Value) (p : D) : Prop := ∃ v, RelV v u ∧ Dq K M H v p
theorem rd_all {K : PySem.W.Frag} {M : Addr → Prop} {H : Hp} : ∀ {xs : List V} {us : List Value} {l : List D}, Vals xs us → DqA K M H xs l → PySem.W.EachIs (RD K M H) us l
  | _, _, _, .nil, .nil => .nil
  | _, _, _, .cons r t, .cons h q => .cons ⟨_, r, h⟩ (rd_all t q)
theorem rd_back {K : PySem.W.Frag} {M : Addr → Prop} {H : Hp} : ∀ {us : List Value} {l : List D}, PySem.W.EachIs (RD K M H) us l → ∃ xs, Vals xs us ∧ DqA K M H xs l
  | _, _, .nil => ⟨[], .nil, .nil⟩
  | _, _, .cons ⟨v, r, h⟩ t => by
    obtain ⟨xs, h1, h2⟩ := rd_back t
    exact ⟨v :: xs, .cons r h1, .cons h h2⟩
theorem rd_reads {pins : List (Addr × Obj)} {σ : L2.St} {H : Hp} {s : Shared} {M : Addr → Prop} (I : L2.Inv X pins σ H s) : ∀ {xs : List V} {us : List Value} {l : List D}, (∀ d ∈ l, d.hasDict = false) → Vals xs us → DqA X.K M H xs l → PySem.W.EachIs (fun v b => ∃ as, Reads s.heap v (id b) as) us l
  | _, _, _, _, .nil, .nil => .nil
  | _, _, _, n, .cons r t, .cons h q => .cons (Dp.reads I _ _ _ ((Dq.dw _ h).dp _ (n _ List.mem_cons_self)) r) (rd_reads I (fun d hd => n d (List.mem_cons_of_mem _ hd)) t q)
theorem crx_sorted (hu : X.A.units + 66 < cLine) : CallR X (.builtin "sorted") (rs X.K (biS .sorted m)) := by
  intro pins s σ H vs us Q I r h
  obtain ⟨Pr, g, st, ws, u, s', R0, V1, e, k⟩ := h
  obtain ⟨x, v, p, rfl, hx, hv, ⟨l, hl, hm⟩ | ⟨r', hr, rfl, rfl⟩⟩ := un_bi rfl (fun _ _ => ⟨rfl, rfl⟩) e V1
  · have hl' : (match itemsOf p with
      | some l => if sortOk l then some (isort l) else none
      | none => none) = some l := hl
    have go : ∀ (l0 : List D), itemsOf p = some l0 → sortOk l0 = true ∧ l = isort l0 := fun l0 h0 => by
      rw [h0] at hl'
      simp only at hl'
      by_cases ho : sortOk l0 = true
      · rw [if_pos ho] at hl'; exact ⟨ho, (Option.some.inj hl').symm⟩
      · rw [if_neg ho] at hl'; cases hl'
    have fin : ∀ (its out : List Value) (l0 : List D), its.length ≤ sizeLine → l = isort l0 → l0.length = its.length → out.length = l0.length → PySem.W.EachIs (RD X.K (Ms Pr g) H) out (l0.mergeSort (PySem.W.dataLe false id)) →
        EP X pins σ Q (.ref (s.heap.objs.size + 1)) { s with heap := sortedAll s.heap its (List.toArray out) } := fun its out l0 hz hl0 h1 h2 h3 => by
      obtain ⟨ws, q1, q2⟩ := rd_back h3
      subst hl0
      obtain ⟨ep, he'⟩ := PyProof.Rows.sortedAll_at s.heap its out.toArray
      have hlen := q1.length
      have hll := q2.length
      refine ⟨.ref _, upd H (s.heap.objs.size + 1) (.lst ws), I.laid (t' := s.toks) (fun _ _ => PyProof.Rows.sortedAll_old) (Nat.le_succ _) ⟨by omega, out, ep, q1, he'⟩, rfl, ?_⟩
      exact lst_end R0 hm (I.hok.fresh (Nat.le_succ _)) q2 (by unfold isort; omega) k
    cases p with
    | list l0 =>
      obtain ⟨ho, hl0⟩ := go l0 rfl
      obtain ⟨a1, a2, a3, a4, a5⟩ := sortOk_cases ho
      obtain ⟨a, xs, rfl, q1, q2⟩ := hv.lstC R0 hx
      obtain ⟨its, rv, hli, hz⟩ := I.list (.inl (.inl q1))
      rw [Vals.ref1 r]
      have hn := rv.length
      have hn2 := q2.length
      exact PySem.W.sorted_data (β := D) (enc := id) (R := RD X.K (Ms Pr g) H) hli.isList (rd_all rv q2) (rd_reads I a5 rv q2) (by rw [List.map_id]; exact a1) (by rw [List.map_id]; exact a2) (by omega) (fun b hb => by have := a3 b hb; show _ + (PyData.depth b) < _; omega)
        fun out h1 h2 => fin its out l0 (by omega) hl0 (by omega) h1 h2
    | tuple l0 =>
      obtain ⟨ho, hl0⟩ := go l0 rfl
      obtain ⟨a1, a2, a3, a4, a5⟩ := sortOk_cases ho
      obtain ⟨a, xs, rfl, q1, q2⟩ := hv.tupC hx
      obtain ⟨its, rv, hli, hz⟩ := I.tuple q1
      rw [Vals.ref1 r]
      have hn := rv.length
      have hn2 := q2.length
      exact sorted_data_tup (β := D) (enc := id) (R := RD X.K (Ms Pr g) H) hli (rd_all rv q2) (rd_reads I a5 rv q2) (by rw [List.map_id]; exact a1) (by rw [List.map_id]; exact a2) (by omega) (fun b hb => by have := a3 b hb; show _ + (PyData.depth b) < _; omega)
        fun out h1 h2 => fin its out l0 (by omega) hl0 (by omega) h1 h2
    | _ => cases hl'
  · cases hr
mutual
/-- reading, no list of it at the address of sys.modules -/
theorem dw_reads {pins : List (Addr × Obj)} {σ : L2.St} {H : Hp} {s : Shared} (hS : ∃ o, X.K.lookup sysModules = some o ∧ o.cls = .type "dict") (I : L2.Inv X pins σ H s) : ∀ (d : PyData) (v : V) (u : Value), Dw X.K H v d → RelV v u → ∃ as, Reads s.heap u d as ∧ sysModules ∉ as
  | .none, _, _, h, r => by cases h; cases r; exact ⟨_, Reads.none, by simp⟩
  | .bool b, _, _, h, r => by cases h; cases r; exact ⟨_, Reads.bool _, by simp⟩
  | .int i, _, _, h, r => by cases h; obtain ⟨t, rfl⟩ := r; exact ⟨_, Reads.int _ _, by simp⟩
  | .str x, _, _, h, r => by cases h; obtain ⟨t, rfl⟩ := r; exact ⟨_, Reads.str _ _, by simp⟩
  | .list ds, _, _, h, r => by
    cases h with
    | lst h1 h2 =>
      cases r
      obtain ⟨its, rv, ⟨o, n, ho, hc, hdn, hdt⟩, hz⟩ := I.list h1
      obtain ⟨as, q1, q2⟩ := dwA_reads hS I ds _ its h2 rv
      refine ⟨_, Reads.list ho hc hdt q1, fun m => ?_⟩
      rcases List.mem_cons.mp m with m | m
      · obtain ⟨o2, k1, k2⟩ := hS
        have k3 := I.kIn _ _ k1
        rw [m, ho] at k3
        cases k3
        rw [hc] at k2
        injection k2 with k2
        exact absurd k2 (by decide)
      · exact q2 m
  | .tuple ds, _, _, h, r => by
    cases h with
    | tup h1 h2 =>
      cases r
      obtain ⟨its, rv, ⟨o, ho, hc, n, hdt⟩, hz⟩ := I.tuple h1
      obtain ⟨as, q1, q2⟩ := dwA_reads hS I ds _ its h2 rv
      exact ⟨_, Reads.tuple ho hc hdt q1, q2⟩
  | .dict kvs, _, _, h, r => by
    cases h with
    | dct h1 =>
      cases r
      obtain ⟨_, hsm, vs, rel, o, es, ep, ho, hx, hdt, _, hp, _⟩ := I.hok _ _ h1
      cases rel
      have he : es.toList = [] := by
        cases hp' : es.toList with
        | nil => rfl
        | cons a r => rw [hp'] at hp; cases hp
      refine ⟨_, Reads.dict (kvs := []) (as := []) (bs := []) ho hx.1 hdt (by rw [he]; exact .nil) (by rw [he]; exact .nil), fun m => ?_⟩
      have m' := List.mem_singleton.mp m
      rw [← m'] at hsm
      simp at hsm
theorem dwA_reads {pins : List (Addr × Obj)} {σ : L2.St} {H : Hp} {s : Shared} (hS : ∃ o, X.K.lookup sysModules = some o ∧ o.cls = .type "dict") (I : L2.Inv X pins σ H s) : ∀ (ds : List PyData) (vs : List V) (us : List Value), DwA X.K H vs ds → Vals vs us → ∃ as, ReadsAll s.heap us ds as ∧ sysModules ∉ as
  | [], _, _, h, r => by cases h; cases r; exact ⟨_, .nil, by simp⟩
  | d :: ds, _, _, h, r => by
    cases h with
    | cons h1 h2 =>
      cases r with
      | cons r1 r2 =>
        obtain ⟨as, q1, q2⟩ := dw_reads hS I d _ _ h1 r1
        obtain ⟨bs, q3, q4⟩ := dwA_reads hS I ds _ _ h2 r2
        exact ⟨_, .cons q1 q3, fun m => (List.mem_append.mp m).elim q2 q4⟩
end
theorem isRef_of (d : PyData) {h : Heap} {v : Value} {as : List Addr} (r : Reads h v d as) : (∃ a, v = .ref a) ∨ (d = .none) ∨ (∃ b, d = .bool b) ∨ (∃ i, d = .int i) ∨ ∃ x, d = .str x := by
  cases r with
  | list _ _ _ _ => exact .inl ⟨_, rfl⟩
  | tuple _ _ _ _ => exact .inl ⟨_, rfl⟩
  | none => exact .inr (.inl rfl)
  | bool b => exact .inr (.inr (.inl ⟨b, rfl⟩))
  | int i t => exact .inr (.inr (.inr (.inl ⟨i, rfl⟩)))
  | str x t => exact .inr (.inr (.inr (.inr ⟨x, rfl⟩)))
  | dict _ _ _ _ _ => exact .inl ⟨_, rfl⟩
theorem crx_repr (hS : ∃ o, X.K.lookup sysModules = some o ∧ o.cls = .type "dict") (hg : X.A.guards = some []) (hu : X.A.units + 66 < cLine) : CallR X (.builtin "repr") (rs X.K (biS .repr m)) := by
  intro pins s σ H vs us Q I r h
  obtain ⟨Pr, g, st, ws, u, s', R0, V1, e, k⟩ := h
  obtain ⟨x, v, p, rfl, hx, hv, ⟨l, hl, hm⟩ | ⟨r', hr, rfl, rfl⟩⟩ := un_bi rfl (fun _ _ => ⟨rfl, rfl⟩) e V1
  · cases p <;> cases hl
  · have hr' : (if (p.showable && decide (p.depth ≤ 64) && decide (p.shown.length ≤ sizeMax)) = true then some (PyData.str p.shown) else none) = some r' := by cases p <;> exact hr
    by_cases hz : (p.showable && decide (p.depth ≤ 64) && decide (p.shown.length ≤ sizeMax)) = true
    · rw [if_pos hz] at hr'
      have e3 := Option.some.inj hr'
      subst e3
      simp only [Bool.and_eq_true, decide_eq_true_eq] at hz
      obtain ⟨⟨z1, z3⟩, z4⟩ := hz
      have hd := hv.dps R0 hx
      obtain ⟨w, rfl, rw'⟩ := L2.Vals.one r
      obtain ⟨as, rd, nsm⟩ := dw_reads hS I _ _ _ hd rw'
      have hsz : p.shown.length ≤ sizeLine := by rw [← sizeMax_eq]; exact z4
      have fin : ∀ h' t tk, (∀ b o, s.heap.get? b = some o → h'.get? b = some o) → EP X pins σ Q (.str p.shown t) { s with heap := h', toks := tk } := fun h' t tk hk =>
        ⟨.str p.shown, H, I.kept hk, ⟨t, rfl⟩, flat_end R0 (.str _) k⟩
      rcases isRef_of p rd with ⟨a, rfl⟩ | rfl | ⟨b, rfl⟩ | ⟨i, rfl⟩ | ⟨y, rfl⟩
      · exact repr_of_reads' rd z1 (fun _ => nsm) hg (by omega) (fun _ _ e => e) fin hsz
      · cases rd; exact P.repr_of_none (fin s.heap _ _ fun _ _ e => e)
      · cases rd; exact P.repr_of_bool (by have := fin s.heap s.toks (s.toks + 1) fun _ _ e => e; cases b <;> exact this)
      · cases rd; exact P.repr_of_int (by simpa [PyData.showable] using z1) (fin s.heap _ _ fun _ _ e => e)
      · cases rd; exact P.repr_of_str (fin s.heap _ _ fun _ _ e => e) hsz
    · rw [if_neg hz] at hr'; cases hr'
end
end Em
end

section
set_option Elab.async false
set_option linter.all false
set_option maxRecDepth 100000
set_option maxHeartbeats 400000
/-! EmK: what loops walk; targets. -/
namespace Em
open PySem PySem.Spec PyProof.Rows PySem.Calls
section
variable {prog : Program} {w : World} {A : Around} {E : Value → Shared → Prop} {s : Shared}
theorem draw_list {it t : Addr} {items : Array Value} (hne : t ≠ it) : ∀ (n i : Nat) (s : Shared) (Q : List Value → Shared → Prop), s.heap.IsListIter it t i → s.heap.IsList t items → i + n ≤ items.size →
    (∀ h' : Heap, h'.IsListIter it t (i + n) → Heap.SameBut it s.heap h' → Q ((items.toList.drop i).take n) { s with heap := h' }) → wpAny (model prog w) A (draw (.ref it) n) Q E s
  | 0, i, s, Q, hit, _, _, hQ => by
    show wpAny _ _ (pure []) Q E s
    exact wpAny_pure (by simpa using hQ s.heap hit (Heap.SameBut.refl ..))
  | n + 1, i, s, Q, hit, ht, hle, hQ => by
    have hlt : i < items.size := by omega
    show wpAny _ _ (pyNext (.ref it) >>= _) Q E s
    refine wpAny_bind (wpAny_pyNext_list_item hit ht (x := items[i]) (by simp [hlt]) fun h₁ hit₁ hs₁ => ?_)
    refine wpAny_bind (wpAny_holding (draw_list hne n (i + 1) _ _ hit₁ (ht.extBut hs₁.extBut hne) (by omega) fun h₂ hit₂ hs₂ => wpAny_pure ?_))
    have hd : items.toList.drop i = items[i] :: items.toList.drop (i + 1) := by simp [List.drop_eq_getElem_cons, hlt]
    have := hQ h₂ (by rw [show i + (n + 1) = i + 1 + n by omega]; exact hit₂) (hs₁.trans hs₂)
    rw [hd, List.take_succ_cons] at this
    exact this
theorem unpackItems_list {t : Addr} {items : Array Value} {Q : List Value → Shared → Prop} (hh : A.handled = none) (ht : s.heap.IsList t items)
    (hQ : ∀ h', Heap.ExtBut s.heap.objs.size s.heap h' → Q items.toList { s with heap := h' }) : wpAny (model prog w) A (unpackItems (.ref t) items.size none) Q E s := by
  have hlt : t ≠ s.heap.objs.size := by obtain ⟨o, ho, _⟩ := ht; exact Nat.ne_of_lt (Heap.lt_size ho)
  have hp : (s.heap.push { cls := .type "list_iterator", data := .fields #[.ref t, .int 0 0] }).IsList t items := by
    obtain ⟨o, ho, hc, n, hd⟩ := ht
    exact ⟨o, Heap.get?_push_of_some _ ho, hc, n, hd⟩
  unfold unpackItems
  refine wpAny_bind ?_
  · unfold notIterableAtAll
    refine wpAny_bind (wpAny_specialOf ht.typeIs slot_list_iter.lookup ?_)
    refine wpAny_pure ?_
    simp only [Bool.false_eq_true, if_false]
    refine wpAny_bind (wpAny_holding (wpAny_pyIter_list ht ?_))
    refine wpAny_bind (wpAny_holding (draw_list hlt items.size 0 _ _ ⟨_, Heap.get?_push_size _ rfl, rfl, rfl⟩ hp (by omega) fun h₁ hit₁ hs₁ => ?_))
    have hall : List.take items.size (List.drop 0 items.toList) = items.toList := by
      rw [List.drop_zero]; exact List.take_of_length_le (by simp)
    rw [hall]
    rw [if_neg (by simp)]
    have ht₁ : h₁.IsList t items := hp.extBut hs₁.extBut hlt
    refine wpAny_bind (wpAny_holding (wpAny_pyNext_list_end hh hit₁ ht₁ (by simp) fun h₂ he₂ => ?_))
    simp only [Option.isSome_none, Bool.false_eq_true, if_false]
    refine wpAny_pure (hQ h₂ fun b o hb e => he₂ b o hb (hs₁.extBut b o hb (Heap.get?_push_of_some _ e)))
theorem assign_Tuple_list {env : PySem.Env} {elts : List Expr} {x1} {pos : Pos} {t : Addr} {items : Array Value} {Q : Unit → Shared → Prop} (hh : A.handled = none) (ht : s.heap.IsList t items)
    (hn : (assignEach elts env).length = items.size) (hstar : (assignEach elts env).findIdx? (·.1) = none)
    (h : ∀ h', Heap.ExtBut s.heap.objs.size s.heap h' → wpAny (model prog w) A (assignInOrder ((assignEach elts env).map (·.2)) items.toList) Q E { s with heap := h' }) :
    wpAny (model prog w) A (assign (.Tuple elts x1 pos) env (.ref t)) Q E s := by
  rw [assign_Tuple]
  refine wpAny_bind (wpAny_standAt ?_)
  unfold unpack
  rw [hn, hstar]
  exact wpAny_bind (wpAny_holding (unpackItems_list hh ht h))
end
end Em
namespace Em
open PySem PySem.Spec PyProof.Rows L2
section
variable {X : Cx} {c : Ctx} {pos : Pos}
mutual
def Tg.slots : Tg → List Nat
  | .slot i => [i]
  | .tup ts => Tg.slotsAll ts
def Tg.slotsAll : List Tg → List Nat
  | [] => []
  | t :: ts => t.slots ++ Tg.slotsAll ts
end
theorem wipe_set {σ : L2.St} {i : Nat} {x : Option V} : ∀ {vs : List Nat}, i ∈ vs → L2.wipe (σ.set i x) vs = L2.wipe σ vs
  | v :: vs, h => by
    unfold L2.wipe
    by_cases e : i ∈ vs
    · rw [wipe_set e]
    · have e2 : i = v := (List.mem_cons.mp h).resolve_right e
      subst e2
      have go : ∀ vs : List Nat, i ∉ vs → L2.wipe (σ.set i x) vs = (L2.wipe σ vs).set i x := by
        intro vs
        induction vs with
        | nil => intro _; rfl
        | cons w ws ih =>
          intro h
          simp only [List.mem_cons, not_or] at h
          unfold L2.wipe
          rw [ih h.2, List.set_comm _ _ h.1]
      rw [go vs e, List.set_set]
/-- a store to a target -/
def gT (K : PySem.W.Frag) (t : Tg) : TG := fun v σ H Q => ∃ (Pr : Addr → Prop) (g : Wd) (s : Sto) (σa : Env) (x : Val) (σ' : Env), Rl K Pr g s H ∧ SR K Pr g H σa σ ∧ VR K Pr g H x v ∧ putVal t x σa = some σ' ∧
  ∀ σ2, SR K Pr g H σ' σ2 → (∀ vs, (∀ i ∈ t.slots, i ∈ vs) → L2.wipe σ2 vs = L2.wipe σ vs) → Q σ2 H
def gTs (K : PySem.W.Frag) (ts : List Tg) : TGs := fun vs σ H Q => ∃ (Pr : Addr → Prop) (g : Wd) (s : Sto) (σa : Env) (ps : List D) (σ' : Env), Rl K Pr g s H ∧ SR K Pr g H σa σ ∧ DqA K (Ms Pr g) H vs ps ∧ Tg.puts ts ps σa = some σ' ∧
  ∀ σ2, SR K Pr g H σ' σ2 → (∀ vs, (∀ i ∈ Tg.slotsAll ts, i ∈ vs) → L2.wipe σ2 vs = L2.wipe σ vs) → Q σ2 H
theorem PG.imp {X : Cx} {e : Expr} {t t' : TG} (h : PG X e t) (i : ∀ v σ H Q, t' v σ H Q → t v σ H Q) : PG X e t' := ⟨fun pins s σ H v u Q I r hw => h.run pins s σ H v u Q I r (i _ _ _ _ hw)⟩
theorem PGs.imp {X : Cx} {e : List Expr} {t t' : TGs} (h : PGs X e t) (i : ∀ v σ H Q, t' v σ H Q → t v σ H Q) : PGs X e t' := ⟨fun pins s σ H v u Q I r hw => h.run pins s σ H v u Q I r (i _ _ _ _ hw)⟩
theorem put_slot {i : Nat} {x : Val} {σ σ' : Env} (h : putVal (.slot i) x σ = some σ') : i < σ.length ∧ σ' = σ.set i (some x) := by
  have h' : (if i < σ.length then some (σ.set i (some x)) else none) = some σ' := by
    cases x with
    | d p =>
      have h : Tg.put (.slot i) p σ = some σ' := h
      rw [Tg.put] at h; exact h
    | _ => exact h
  by_cases hi : i < σ.length
  · rw [if_pos hi] at h'; exact ⟨hi, (Option.some.inj h').symm⟩
  · rw [if_neg hi] at h'; cases h'
abbrev Pg (X : Cx) (e : Expr) (t : Tg) : Prop := PG X e (gT X.K t)
abbrev Pgs (X : Cx) (es : List Expr) (ts : List Tg) : Prop := PGs X es (gTs X.K ts)
theorem eg_name {i : Nat} {x : Str} (hN : X.N.Nodup) (hi : X.N[i]? = some x) (hx : Loc X.env.scope x := by first | exact .inl rfl | exact .inr rfl) (hf : X.fn x = true ∨ X.env.scope.names.lookup x = some .local := by first | exact .inl rfl | exact .inr rfl) : Pg X (.Name x pos) (.slot i) :=
  PG.imp (pg_name hN hi hx hf) fun v σ H Q h => by
    obtain ⟨Pr, g, s, σa, u, σ', R0, S0, V0, e, k⟩ := h
    obtain ⟨_, rfl⟩ := put_slot e
    exact k _ (S0.set V0) fun vs h => wipe_set (h i (by rw [Tg.slots]; exact List.mem_singleton_self i))
theorem egs_nil : Pgs X [] [] := PGs.imp pgs_nil fun v σ H Q h => by
  obtain ⟨Pr, g, s, σa, ps, σ', R0, S0, V0, e, k⟩ := h
  cases V0 with
  | nil =>
    rw [Tg.puts] at e
    cases e
    exact ⟨rfl, k _ S0 fun _ _ => rfl⟩
  | cons h t => rw [Tg.puts] at e <;> first | cases e | (intros; nofun)
theorem egs_cons {e : Expr} {es : List Expr} {t : Tg} {ts : List Tg} (h1 : Pg X e t) (h2 : Pgs X es ts) (hs : (assignEach (e :: es) X.env).map (·.2) = assign e X.env :: (assignEach es X.env).map (·.2) := by rfl) : Pgs X (e :: es) (t :: ts) :=
  PGs.imp (pgs_cons h1 h2 hs) fun v σ H Q h => by
    obtain ⟨Pr, g, s, σa, ps, σ', R0, S0, V0, e, k⟩ := h
    cases V0 with
    | nil => rw [Tg.puts] at e <;> first | cases e | (intros; nofun)
    | cons h q =>
      rename_i v vs p ps
      rw [Tg.puts] at e
      cases e1 : t.put p σa with
      | none => rw [e1] at e; cases e
      | some σ1 =>
        rw [e1] at e
        exact ⟨_, _, rfl, Pr, g, s, σa, .d p, σ1, R0, S0, h, e1, fun σ2 S2 W2 => ⟨Pr, g, s, σ1, ps, σ', R0, S2, q, e, fun σ3 S3 W3 => k σ3 S3 fun vs hv => by
          rw [Tg.slotsAll] at hv
          rw [W3 vs fun i hi => hv i (List.mem_append_right _ hi), W2 vs fun i hi => hv i (List.mem_append_left _ hi)]⟩⟩
theorem puts_len : ∀ {ts : List Tg} {ps : List D} {σ σ' : Env}, Tg.puts ts ps σ = some σ' → ps.length = ts.length
  | [], [], _, _, _ => rfl
  | [], _ :: _, _, _, e => by rw [Tg.puts] at e <;> first | cases e | (intros; nofun)
  | _ :: _, [], _, _, e => by rw [Tg.puts] at e <;> first | cases e | (intros; nofun)
  | t :: ts, p :: ps, σ, σ', e => by
    rw [Tg.puts] at e
    cases e1 : t.put p σ with
    | none => rw [e1] at e; cases e
    | some σ1 => rw [e1] at e; exact congrArg (· + 1) (puts_len (ts := ts) e)
theorem eg_tup {es : List Expr} {k : Nat} {ts : List Tg} (hc : X.calm = true) (h : Pgs X es ts) (hn : (assignEach es X.env).length = ts.length := by rfl) (hst : (assignEach es X.env).findIdx? (·.1) = none := by rfl) : Pg X (.Tuple es k pos) (.tup ts) := by
  refine ⟨fun pins s σ H v u Q I r hw => ?_⟩
  obtain ⟨Pr, g, st, σa, x, σ', R0, S0, V0, e, kk⟩ := hw
  cases x with
  | d p =>
    have e : Tg.put (.tup ts) p σa = some σ' := e
    cases p with
    | tuple l =>
      rw [Tg.put] at e
      exact (pg_tup (k := k) (pos := pos) (n := ts.length) hc h hn hst).run pins s σ H v u Q I r (by
        cases V0 with
        | tup h1 h2 => exact ⟨_, _, rfl, h1, by rw [h2.length, puts_len e], Pr, g, st, σa, l, σ', R0, S0, h2, e, fun σ2 S2 W2 => kk σ2 S2 fun vs hv => W2 vs (by rw [Tg.slots] at hv; exact hv)⟩)
    | list l =>
      rw [Tg.put] at e
      cases V0 with
      | lst h1 _ h2 =>
        cases r
        obtain ⟨its, rv, ht, hz⟩ := I.list (.inl (.inl h1))
        have hl := puts_len e
        have hl2 := h2.length
        refine assign_Tuple_list (I.ok.hd hc) ht.isList (by rw [hn]; have := rv.length; simp; omega) hst fun h' hx => ?_
        have I1 : L2.Inv X pins σ H { s with heap := h' } := I.kept (t' := s.toks) fun b o e => hx b o (Nat.ne_of_lt (Heap.lt_size e)) e
        exact h.run pins _ σ H _ _ Q I1 (by simpa using rv) ⟨Pr, g, st, σa, l, σ', R0, S0, h2, e, fun σ2 S2 W2 => kk σ2 S2 fun vs hv => W2 vs (by rw [Tg.slots] at hv; exact hv)⟩
    | _ => rw [Tg.put] at e <;> first | cases e | (intros; nofun)
  | _ => cases e
/-! ### what a loop walks -/
theorem nth_list (s : Sto) (l : List D) (i : Nat) : nth s (.d (.list l)) i = some ((l[i]?).map Val.d) := rfl
theorem nth_tup (s : Sto) (l : List D) (i : Nat) : nth s (.d (.tuple l)) i = some ((l[i]?).map Val.d) := rfl
/-- more is held off, all of it new -/
structure PrX (Pr P2 : Addr → Prop) (H : Hp) : Prop where
  sub : ∀ a, Pr a → P2 a
  new : ∀ a, P2 a → ¬ Pr a → H a = none
theorem PrX.refl {Pr : Addr → Prop} {H : Hp} : PrX Pr Pr H := ⟨fun _ h => h, fun _ h n => absurd h n⟩
theorem lst_ext2 {Pr P2 : Addr → Prop} {g g' : Wd} {H H' : Hp} (px : PrX Pr P2 H) (x : Ext g H g' H') {a : Addr} {xs : List V} (h : H a = some (.lst xs)) (n : ¬ Ms Pr g a) : H' a = some (.lst xs) ∧ ¬ Ms P2 g' a := by
  refine ⟨x.keep a _ h fun w => n (.inl w), fun m => ?_⟩
  rcases m with m | m
  · have := x.new a m fun w => n (.inl w)
    rw [this] at h; cases h
  · have := px.new a m fun w => n (.inr w)
    rw [this] at h; cases h
theorem dK_ext2 {Pr P2 : Addr → Prop} {g g' : Wd} {H H' : Hp} (px : PrX Pr P2 H) (x : Ext g H g' H') {a : Addr} (h : H a = some (.dK [])) (n : ¬ Ms Pr g a) : H' a = some (.dK []) ∧ ¬ Ms P2 g' a := by
  refine ⟨x.keep a _ h fun w => n (.inl w), fun m => ?_⟩
  rcases m with m | m
  · have := x.new a m fun w => n (.inl w)
    rw [this] at h; cases h
  · have := px.new a m fun w => n (.inr w)
    rw [this] at h; cases h
section
variable {K : PySem.W.Frag} {Pr P2 : Addr → Prop} {g g' : Wd} {H H' : Hp} {s : Sto}
theorem DqA.ext2 (r : Rl K Pr g s H) (px : PrX Pr P2 H) (x : Ext g H g' H') {v : List V} {p : List D} (h : DqA K (Ms Pr g) H v p) : DqA K (Ms P2 g') H' v p := DqA.mono p h (fun _ _ e n => lst_ext2 px x e n) (fun _ _ e => sqt_ext r x e) fun _ e n => dK_ext2 px x e n
theorem Dq.ext2 (r : Rl K Pr g s H) (px : PrX Pr P2 H) (x : Ext g H g' H') {v : V} {p : D} (h : Dq K (Ms Pr g) H v p) : Dq K (Ms P2 g') H' v p := Dq.mono p h (fun _ _ e n => lst_ext2 px x e n) (fun _ _ e => sqt_ext r x e) fun _ e n => dK_ext2 px x e n
theorem KqA.ext2 (r : Rl K Pr g s H) (px : PrX Pr P2 H) (x : Ext g H g' H') {v : List (Key × V)} {p : List (Key × D)} (h : KqA K (Ms Pr g) H v p) : KqA K (Ms P2 g') H' v p := h.mono fun _ _ h => h.ext2 r px x
theorem VR.ext2 (r : Rl K Pr g s H) (px : PrX Pr P2 H) (x : Ext g H g' H') : ∀ {u : Val} {v : V}, VR K Pr g H u v → VR K P2 g' H' u v
  | .d p, v, h => Dq.ext2 r px x (show Dq K (Ms Pr g) H v p from h)
  | .fl i, v, ⟨a, e, q⟩ => ⟨a, pre_get x.pm e, q⟩
  | .ne i, v, ⟨a, e, q⟩ => ⟨a, pre_get x.pn e, q⟩
  | .sc l, v, ⟨a, e, h⟩ => by
    refine ⟨a, e, h.elim (fun ⟨h, n⟩ => .inl ?_) .inr⟩
    rcases h with h | ⟨o, h⟩
    · obtain ⟨h1, h2⟩ := lst_ext2 px x h n
      exact ⟨.inl h1, h2⟩
    · refine ⟨.inr ⟨o, x.keep a _ h fun w => n (.inl w)⟩, fun m => ?_⟩
      rcases m with m | m
      · have := x.new a m fun w => n (.inl w)
        rw [this] at h; cases h
      · have := px.new a m fun w => n (.inr w)
        rw [this] at h; cases h
theorem VRs.ext2 (r : Rl K Pr g s H) (px : PrX Pr P2 H) (x : Ext g H g' H') : ∀ {u : List Val} {v : List V}, VRs K Pr g H u v → VRs K P2 g' H' u v
  | _, _, .nil => .nil
  | _, _, .cons h t => .cons (h.ext2 r px x) (VRs.ext2 r px x t)
theorem SR.ext2 (r : Rl K Pr g s H) (px : PrX Pr P2 H) (x : Ext g H g' H') {σa : Env} {σ : L2.St} (h : SR K Pr g H σa σ) : SR K P2 g' H' σa σ :=
  ⟨h.1, fun i u e => let ⟨v, e1, e2⟩ := h.2 i u e; ⟨v, e1, e2.ext2 r px x⟩⟩
end
def ItR (K : PySem.W.Frag) (Pr : Addr → Prop) (g : Wd) (H : Hp) (J : It) (u : Val) : Prop := ∀ (P2 : Addr → Prop) (g2 : Wd) (H2 : Hp) (s2 : Sto), PrX Pr P2 H → Ext g H g2 H2 → Rl K P2 g2 s2 H2 → ∀ i : Nat,
  (nth s2 u i = some none → J.stop i H2) ∧ ∀ x, nth s2 u i = some (some x) → J.go i H2 ∧ ∀ v H3, J.yld i H2 v H3 → Ext g2 H2 g2 H3 ∧ Rl K P2 g2 s2 H3 ∧ VR K P2 g2 H3 x v
def iV (K : PySem.W.Frag) (f : Env → Sto → R Val) : TI := fun σ H R' => ∃ (Pr : Addr → Prop) (g : Wd) (s : Sto) (σa : Env) (u : Val) (s' : Sto), Rl K Pr g s H ∧ SR K Pr g H σa σ ∧ f σa s = .ok u s' ∧ nth s' u 0 ≠ none ∧
  ∀ J H' g', Ext g H g' H' → Rl K Pr g' s' H' → ItR K Pr g' H' J u → R' J H'
abbrev Pi (X : Cx) (c : Ctx) (tg e : Expr) (ea : E) : Prop := PI X tg e (iV X.K (evE c ea))
theorem PI.imp {X : Cx} {tg e : Expr} {t t' : TI} (h : PI X tg e t) (i : ∀ σ H R, t' σ H R → t σ H R) : PI X tg e t' := ⟨fun pins s σ H R I hw => h.run pins s σ H R I (i _ _ _ hw)⟩
section
variable {K : PySem.W.Frag} {Pr : Addr → Prop} {g : Wd} {H : Hp} {s : Sto}
theorem get_all {xs : List V} {l : List D} (h : DqA K (Ms Pr g) H xs l) {i : Nat} {v : V} (hv : xs[i]? = some v) {p : D} (hp : l[i]? = some p) : Dq K (Ms Pr g) H v p := by
  obtain ⟨v', e1, e2⟩ := h.get hp
  rw [hv] at e1
  cases e1
  exact e2
theorem itr_list {a : Addr} {xs : List V} {l : List D} (h1 : H a = some (.lst xs)) (hn : ¬ Ms Pr g a) (h2 : DqA K (Ms Pr g) H xs l) (r0 : Rl K Pr g s H) : ItR K Pr g H (Itl K a) (.d (.list l)) := by
  intro P2 g2 H2 s2 px X2 R2 i
  obtain ⟨q1, q2⟩ := lst_ext2 px X2 h1 hn
  have q3 := h2.ext2 r0 px X2
  have hl := q3.length
  rw [nth_list]
  refine ⟨fun e => ?_, fun x e => ?_⟩
  · have e : (l[i]?).map Val.d = none := Option.some.inj e
    have e' := Option.map_eq_none_iff.mp e
    exact ⟨xs, .inl (.inl q1), by rw [hl]; exact List.getElem?_eq_none_iff.mp e'⟩
  · have e : (l[i]?).map Val.d = some x := Option.some.inj e
    obtain ⟨p, e1, rfl⟩ := Option.map_eq_some_iff.mp e
    obtain ⟨v, e2, e3⟩ := q3.get e1
    exact ⟨⟨xs, v, .inl (.inl q1), e2⟩, fun w H3 ⟨y1, y2⟩ => by
      subst y1
      exact ⟨Ext.refl, R2, get_all q3 (y2 xs (.inl (.inl q1))) e1⟩⟩
theorem itr_tup {a : Addr} {xs : List V} {l : List D} (h1 : SqT K H a xs) (h2 : DqA K (Ms Pr g) H xs l) (r0 : Rl K Pr g s H) : ItR K Pr g H (Itt K a) (.d (.tuple l)) := by
  intro P2 g2 H2 s2 px X2 R2 i
  have q1 := sqt_ext r0 X2 h1
  have q3 := h2.ext2 r0 px X2
  have hl := q3.length
  rw [nth_tup]
  refine ⟨fun e => ?_, fun x e => ?_⟩
  · have e : (l[i]?).map Val.d = none := Option.some.inj e
    have e' := Option.map_eq_none_iff.mp e
    exact ⟨xs, q1, by rw [hl]; exact List.getElem?_eq_none_iff.mp e'⟩
  · have e : (l[i]?).map Val.d = some x := Option.some.inj e
    obtain ⟨p, e1, rfl⟩ := Option.map_eq_some_iff.mp e
    obtain ⟨v, e2, e3⟩ := q3.get e1
    exact ⟨⟨xs, v, q1, e2⟩, fun w H3 ⟨y1, y2⟩ => by
      subst y1
      exact ⟨Ext.refl, R2, get_all q3 (y2 xs q1) e1⟩⟩
theorem itr_fl {j : Nat} {a : Addr} (ea : g.mu[j]? = some a) : ItR K Pr g H (Itl K a) (.fl j) := by
  intro P2 g2 H2 s2 px X2 R2 i
  have ea2 := pre_get X2.pm ea
  obtain ⟨cc, hc⟩ := R2.lt_mu ea2
  have q := R2.f j a cc ea2 hc
  cases cc with
  | di _ =>
    have en : nth s2 (.fl j) i = none := by unfold nth; simp only [hc]
    exact ⟨fun e => by (rw [en] at e; cases e), fun x e => by (rw [en] at e; cases e)⟩
  | li l =>
    obtain ⟨_, xs, q1, q3⟩ := q
    have hl := q3.length
    have en : nth s2 (.fl j) i = some ((l[i]?).map Val.d) := by unfold nth; simp only [hc]
    refine ⟨fun e => ?_, fun x e => ?_⟩
    · rw [en] at e
      have e' := Option.map_eq_none_iff.mp (Option.some.inj e)
      exact ⟨xs, .inl (.inl q1), by rw [hl]; exact List.getElem?_eq_none_iff.mp e'⟩
    · rw [en] at e
      obtain ⟨p, e1, rfl⟩ := Option.map_eq_some_iff.mp (Option.some.inj e)
      obtain ⟨v, e2, e3⟩ := q3.get e1
      exact ⟨⟨xs, v, .inl (.inl q1), e2⟩, fun w H3 ⟨y1, y2⟩ => by
        subst y1
        exact ⟨Ext.refl, R2, get_all q3 (y2 xs (.inl (.inl q1))) e1⟩⟩
theorem itr_ne {j : Nat} {a : Addr} (ea : g.nu[j]? = some a) : ItR K Pr g H (Itl K a) (.ne j) := by
  intro P2 g2 H2 s2 px X2 R2 i
  have ea2 := pre_get X2.pn ea
  obtain ⟨l, hc⟩ := R2.lt_nu ea2
  obtain ⟨xs, q1, q3⟩ := R2.n j a l ea2 hc
  have hl := q3.length
  have en : nth s2 (.ne j) i = some (l[i]?) := by unfold nth; simp only [hc]
  refine ⟨fun e => ?_, fun x e => ?_⟩
  · rw [en] at e
    exact ⟨xs, .inl (.inl q1), by rw [← hl]; exact List.getElem?_eq_none_iff.mp (Option.some.inj e)⟩
  · rw [en] at e
    obtain ⟨v, e2, e3⟩ := q3.get (Option.some.inj e)
    exact ⟨⟨xs, v, .inl (.inl q1), e2⟩, fun w H3 ⟨y1, y2⟩ => by
      subst y1
      have := y2 xs (.inl (.inl q1))
      rw [e2] at this
      cases this
      exact ⟨Ext.refl, R2, e3⟩⟩
end
/-- a list, a tuple -/
theorem ei_seq {tg e : Expr} {ea : E} (he : Pe X c e ea) : Pi X c tg e ea := by
  refine ⟨fun pins s σ H R' I h => ?_⟩
  obtain ⟨Pr, g, st, σa, u, s', R0, S0, e1, hn, k⟩ := h
  refine thn (he.run pins s σ H (fun v H' => ∃ g', Ext g H g' H' ∧ Rl X.K Pr g' s' H' ∧ VR X.K Pr g' H' u v) I ⟨Pr, g, st, σa, u, s', R0, S0, e1, fun v H' g' X' R' V => ⟨g', X', R', V⟩⟩) fun v s1 ⟨x, H1, I1, r1, g1, X1, R1, V1⟩ => ?_
  have L : ∀ (a : Addr) (xs : List V), x = .ref a → SqL X.K H1 a xs → ItR X.K Pr g1 H1 (Itl X.K a) u → wpAny (model X.prog X.w) X.A (pyIter v) (PIE X pins σ tg R') X.xe s1 := fun a xs e hq q => by
    subst e
    cases r1
    obtain ⟨its, rv, p, hz⟩ := I1.list hq
    refine wpAny_pyIter_list p.isList ?_
    refine ⟨s1.heap.objs.size, [s1.heap.objs.size], _, _, H1, rfl, I1.kept (t' := s1.toks) fun b o e => Heap.get?_push_of_some _ e, turn_list a _, ⟨_, Heap.get?_push_size _ rfl, rfl, rfl⟩, fun b hb => ?_, k _ H1 g1 X1 R1 q⟩
    have e : b = s1.heap.objs.size := by simpa using hb
    subst e
    exact I1.fpOk (Nat.le_refl _) (I1.hok.fresh (Nat.le_refl _))
  have T : ∀ (a : Addr) (xs : List V), x = .ref a → SqT X.K H1 a xs → ItR X.K Pr g1 H1 (Itt X.K a) u → wpAny (model X.prog X.w) X.A (pyIter v) (PIE X pins σ tg R') X.xe s1 := fun a xs e hq q => by
    subst e
    cases r1
    obtain ⟨its, rv, p, hz⟩ := I1.tuple hq
    refine wpAny_pyIter_tuple (show s1.heap.IsTuple a its.toArray from p) ?_
    refine ⟨s1.heap.objs.size, [s1.heap.objs.size], _, _, H1, rfl, I1.kept (t' := s1.toks) fun b o e => Heap.get?_push_of_some _ e, turn_tuple a _, ⟨_, Heap.get?_push_size _ rfl, rfl, rfl⟩, fun b hb => ?_, k _ H1 g1 X1 R1 q⟩
    have e : b = s1.heap.objs.size := by simpa using hb
    subst e
    exact I1.fpOk (Nat.le_refl _) (I1.hok.fresh (Nat.le_refl _))
  cases u with
  | d p =>
    cases p with
    | list l =>
      cases V1 with
      | lst h1 h2 h3 => exact L _ _ rfl (.inl (.inl h1)) (itr_list h1 h2 h3 R1)
    | tuple l =>
      cases V1 with
      | tup h1 h3 => exact T _ _ rfl h1 (itr_tup h1 h3 R1)
    | _ => exact absurd rfl hn
  | fl j =>
    obtain ⟨a, ea, rfl⟩ := V1
    obtain ⟨c, hc⟩ := R1.lt_mu ea
    have q := R1.f j a c ea hc
    cases c with
    | li l => obtain ⟨_, ys, q, _⟩ := q; exact L a ys rfl (.inl (.inl q)) (itr_fl ea)
    | di kvs => exact absurd (by unfold nth; simp only [hc]) hn
  | ne j =>
    obtain ⟨a, ea, rfl⟩ := V1
    obtain ⟨c, hc⟩ := R1.lt_nu ea
    obtain ⟨ys, q, _⟩ := R1.n j a c ea hc
    exact L a ys rfl (.inl (.inl q)) (itr_ne ea)
  | sc l => exact absurd rfl hn
end
end Em
end

section
set_option Elab.async false
set_option linter.all false
set_option maxRecDepth 100000
set_option maxHeartbeats 400000
/-! EmL: range and zip in loops; statements. -/
namespace Em
open PySem PySem.Spec PyProof.Rows L2 RZ
section
variable {X : Cx} {c : Ctx} {pos p : Pos}
theorem ev_biD {b : Bi} {es : List E} {σ : Env} {s s' : Sto} {u : Val} (e : evE c (.bi b .fr es) σ s = .ok u s') : ∃ vs, evEs c es σ s = .ok vs s' ∧ biS b .fr vs s' = .ok u s' := by
  rw [ev_bi] at e
  obtain ⟨vs, s1, e1, e⟩ := R.bd_eq e
  have hs : s' = s1 := by
    unfold biS at e
    cases h : (if stillB b = true then vs.mapM valD else snaps s1 (deepB b) vs) with
    | none => rw [h] at e; cases e
    | some as =>
      rw [h] at e
      rcases bi_cases e with ⟨l, _, hm⟩ | ⟨r, _, _, _, h4⟩
      · injection hm with _ h4; exact h4.symm
      · exact h4
  subst hs
  exact ⟨vs, e1, e⟩
theorem itr_range {K : PySem.W.Frag} {Pr : Addr → Prop} {g : Wd} {H : Hp} (a : Int) (n : Nat) : ItR K Pr g H (Itr a n) (.d (.list ((List.range n).map fun (i : Nat) => .int (a + i)))) := by
  intro P2 g2 H2 s2 px X2 R2 i
  rw [nth_list]
  refine ⟨fun e => ?_, fun x e => ?_⟩
  · have e' := Option.map_eq_none_iff.mp (Option.some.inj e)
    have := List.getElem?_eq_none_iff.mp e'
    rw [List.length_map, List.length_range] at this
    exact this
  · obtain ⟨d, e1, rfl⟩ := Option.map_eq_some_iff.mp (Option.some.inj e)
    obtain ⟨hi, e2⟩ := List.getElem?_eq_some_iff.mp e1
    rw [List.length_map, List.length_range] at hi
    rw [List.getElem_map, List.getElem_range] at e2
    subst e2
    refine ⟨hi, fun v H3 ⟨y1, y2⟩ => ?_⟩
    subst y1 y2
    exact ⟨Ext.refl, R2, Dq.int _⟩
theorem ei_range1 {tg a : Expr} {ea : E} (hg : Gl X "range") (hm : X.mg "range" = none) (ha : Pas X c [a] [ea]) (hs : starEach [a] X.env = [(false, eval a X.env)] := by rfl) : Pi X c tg (.Call (.Name "range" p) [a] [] pos) (.bi .range1 .fr [ea]) :=
  PI.imp (pi_range1 hg hm ha hs) fun σ H R' h => by
    obtain ⟨Pr, g, s, σa, u, s', R0, S0, e, hn, k⟩ := h
    obtain ⟨vs, e1, e2⟩ := ev_biD e
    refine ⟨Pr, g, s, σa, vs, s', R0, S0, e1, fun ws H' g' X' R1 V => ?_⟩
    obtain ⟨x, v, q, rfl, hx, hv, ⟨l, hl, hm'⟩ | ⟨r', hr, _, _⟩⟩ := un_bi rfl (fun _ _ => ⟨rfl, rfl⟩) e2 V
    · cases q with
      | int n =>
        have hl' : (if -(2 ^ 62) ≤ n ∧ n < 2 ^ 62 ∧ n ≤ sizeMax then some ((List.range n.toNat).map fun (i : Nat) => PyData.int (0 + (i : Int))) else none) = some l := hl
        by_cases hz : -(2 ^ 62) ≤ n ∧ n < 2 ^ 62 ∧ n ≤ sizeMax
        · rw [if_pos hz] at hl'
          have e3 := Option.some.inj hl'
          subst e3
          injection hm' with e4 _
          subst e4
          have e5 := hv.intC hx
          subst e5
          exact ⟨n, rfl, hz.1, hz.2.1, k _ H' g' X' R1 (itr_range 0 n.toNat)⟩
        · rw [if_neg hz] at hl'; cases hl'
      | _ => cases hl
    · cases q <;> cases hr
theorem ei_range2 {tg a b : Expr} {ea eb : E} (hg : Gl X "range") (hm : X.mg "range" = none) (ha : Pas X c [a, b] [ea, eb]) (hs : starEach [a, b] X.env = [(false, eval a X.env), (false, eval b X.env)] := by rfl) (hs2 : starEach [b] X.env = [(false, eval b X.env)] := by rfl) : Pi X c tg (.Call (.Name "range" p) [a, b] [] pos) (.bi .range2 .fr [ea, eb]) :=
  PI.imp (pi_range2 hg hm ha hs hs2) fun σ H R' h => by
    obtain ⟨Pr, g, s, σa, u, s', R0, S0, e, hn, k⟩ := h
    obtain ⟨vs, e1, e2⟩ := ev_biD e
    refine ⟨Pr, g, s, σa, vs, s', R0, S0, e1, fun ws H' g' X' R1 V => ?_⟩
    obtain ⟨x, y, v, w, q, q2, rfl, hx, hy, hv, hw, ⟨l, hl, hm'⟩ | ⟨r', hr, _, _⟩⟩ := bin_bi rfl (fun _ => ⟨rfl, rfl⟩) e2 V
    · cases q with
      | int i =>
        cases q2 with
        | int n =>
          have hl' : (if -(2 ^ 62) ≤ i ∧ i < 2 ^ 62 ∧ -(2 ^ 62) ≤ n ∧ n < 2 ^ 62 ∧ n - i ≤ sizeMax then some ((List.range (n - i).toNat).map fun (j : Nat) => PyData.int (i + (j : Int))) else none) = some l := hl
          by_cases hz : -(2 ^ 62) ≤ i ∧ i < 2 ^ 62 ∧ -(2 ^ 62) ≤ n ∧ n < 2 ^ 62 ∧ n - i ≤ sizeMax
          · rw [if_pos hz] at hl'
            have e3 := Option.some.inj hl'
            subst e3
            injection hm' with e4 _
            subst e4
            have e5 := hv.intC hx
            subst e5
            have e6 := hw.intC hy
            subst e6
            exact ⟨i, n, rfl, ⟨hz.1, hz.2.1, hz.2.2.1, hz.2.2.2.1⟩, k _ H' g' X' R1 (itr_range i (n - i).toNat)⟩
          · rw [if_neg hz] at hl'; cases hl'
        | _ => cases hl
      | _ => cases hl
    · cases q <;> cases q2 <;> cases hr
theorem zip_none {x y : List D} {i : Nat} (h : (List.zipWith (fun p q => PyData.tuple [p, q]) x y)[i]? = none) : x.length ≤ i ∨ y.length ≤ i := by
  have := List.getElem?_eq_none_iff.mp h
  rw [List.length_zipWith] at this
  omega
theorem zip_some {x y : List D} {i : Nat} {d : D} (h : (List.zipWith (fun p q => PyData.tuple [p, q]) x y)[i]? = some d) : ∃ p q, x[i]? = some p ∧ y[i]? = some q ∧ d = .tuple [p, q] := by
  rw [List.getElem?_zipWith] at h
  cases h1 : x[i]? with
  | none => rw [h1] at h; simp at h
  | some p =>
    cases h2 : y[i]? with
    | none => rw [h1, h2] at h; simp at h
    | some q =>
      rw [h1, h2] at h
      simp at h
      exact ⟨p, q, rfl, rfl, h.symm⟩
theorem ei_zip {tpos : Pos} {elts : List Expr} {kk : Nat} {a b : Expr} {ea eb : E} (hg : Gl X "zip") (hm : X.mg "zip" = none) (ha : Pas X c [a, b] [ea, eb])
    (hs : starEach [a, b] X.env = (false, eval a X.env) :: starEach [b] X.env := by rfl) (hpl : (backTo pos (starEach [b] X.env)).any (·.1) = false := by rfl) :
    Pi X c (.Tuple elts kk tpos) (.Call (.Name "zip" p) [a, b] [] pos) (.bi .zip .fr [ea, eb]) :=
  PI.imp (RZ.pi_zipA hg hm ha hs hpl) fun σ H R' h => by
    obtain ⟨Pr, g, s, σa, u, s', R0, S0, e, hn, k⟩ := h
    obtain ⟨vs, e1, e2⟩ := ev_biD e
    refine ⟨Pr, g, s, σa, vs, s', R0, S0, e1, fun ws H' g' X' R1 V => ?_⟩
    have e2 : (match vs.mapM valD with
      | some as => bi .zip .fr as s'
      | none => .bad) = R.ok u s' := e2
    cases hm' : vs.mapM valD with
    | none => rw [hm'] at e2; cases e2
    | some as =>
      rw [hm'] at e2
      have dq := valD_all V hm'
      rcases bi_cases e2 with ⟨l, hl, hml⟩ | ⟨r, _, hr, _⟩
      · rcases as with _ | ⟨q, _ | ⟨q2, _ | ⟨z, t⟩⟩⟩
        · cases hl
        · cases hl
        · cases dq with
          | cons d1 dq =>
            cases dq with
            | cons d2 dq =>
              cases dq
              have hl' : biL2 .zip q q2 = some l := hl
              cases q with
              | list x =>
                cases q2 with
                | list y =>
                  have e3 : List.zipWith (fun p q => PyData.tuple [p, q]) x y = l := Option.some.inj hl'
                  subst e3
                  injection hml with e4 _
                  subst e4
                  cases d1 with
                  | lst h1 n1 t1 =>
                    cases d2 with
                    | lst h2 n2 t2 =>
                      rename_i a1 xs1 b1 ys1
                      refine ⟨a1, b1, xs1, ys1, rfl, .inl ⟨.inl (.inl h1), .inl (.inl h2), k _ H' g' X' R1 ?_⟩⟩
                      intro P2 g2 H2 s2 px X2 R2 i
                      obtain ⟨p1, _⟩ := lst_ext2 px X2 h1 n1
                      obtain ⟨p2, _⟩ := lst_ext2 px X2 h2 n2
                      have w1 := t1.ext2 R1 px X2
                      have w2 := t2.ext2 R1 px X2
                      have z1 := w1.length
                      have z2 := w2.length
                      rw [nth_list]
                      refine ⟨fun e => ?_, fun x e => ?_⟩
                      · have := zip_none (Option.map_eq_none_iff.mp (Option.some.inj e))
                        exact ⟨xs1, ys1, .inl (.inl p1), .inl (.inl p2), by omega⟩
                      · obtain ⟨d, e1, rfl⟩ := Option.map_eq_some_iff.mp (Option.some.inj e)
                        obtain ⟨pp, qq, f1, f2, rfl⟩ := zip_some e1
                        obtain ⟨v1, f3, f4⟩ := w1.get f1
                        obtain ⟨v2, f5, f6⟩ := w2.get f2
                        refine ⟨⟨xs1, ys1, v1, v2, .inl (.inl p1), .inl (.inl p2), f3, f5⟩, fun v H3 y => ?_⟩
                        obtain ⟨T, x', y', rfl, hT, rfl, y1, y2⟩ := y
                        have y1 := y1 xs1 (.inl (.inl p1))
                        have y2 := y2 ys1 (.inl (.inl p2))
                        rw [f3] at y1; cases y1
                        rw [f5] at y2; cases y2
                        exact ⟨ext_new hT, R2.new hT, Dq.tup (.inl (.inl upd_same)) (.cons (f4.ext R2 (ext_new hT)) (.cons (f6.ext R2 (ext_new hT)) .nil))⟩
                | _ => cases hl'
              | tuple x =>
                cases q2 with
                | tuple y =>
                  have e3 : List.zipWith (fun p q => PyData.tuple [p, q]) x y = l := Option.some.inj hl'
                  subst e3
                  injection hml with e4 _
                  subst e4
                  cases d1 with
                  | tup h1 t1 =>
                    cases d2 with
                    | tup h2 t2 =>
                      rename_i a1 xs1 b1 ys1
                      refine ⟨a1, b1, xs1, ys1, rfl, .inr ⟨h1, h2, k _ H' g' X' R1 ?_⟩⟩
                      intro P2 g2 H2 s2 px X2 R2 i
                      have p1 := sqt_ext R1 X2 h1
                      have p2 := sqt_ext R1 X2 h2
                      have w1 := t1.ext2 R1 px X2
                      have w2 := t2.ext2 R1 px X2
                      have z1 := w1.length
                      have z2 := w2.length
                      rw [nth_list]
                      refine ⟨fun e => ?_, fun x e => ?_⟩
                      · have := zip_none (Option.map_eq_none_iff.mp (Option.some.inj e))
                        exact ⟨xs1, ys1, p1, p2, by omega⟩
                      · obtain ⟨d, e1, rfl⟩ := Option.map_eq_some_iff.mp (Option.some.inj e)
                        obtain ⟨pp, qq, f1, f2, rfl⟩ := zip_some e1
                        obtain ⟨v1, f3, f4⟩ := w1.get f1
                        obtain ⟨v2, f5, f6⟩ := w2.get f2
                        refine ⟨⟨xs1, ys1, v1, v2, p1, p2, f3, f5⟩, fun v H3 y => ?_⟩
                        obtain ⟨T, x', y', rfl, hT, rfl, y1, y2⟩ := y
                        have y1 := y1 xs1 p1
                        have y2 := y2 ys1 p2
                        rw [f3] at y1; cases y1
                        rw [f5] at y2; cases y2
                        exact ⟨ext_new hT, R2.new hT, Dq.tup (.inl (.inl upd_same)) (.cons (f4.ext R2 (ext_new hT)) (.cons (f6.ext R2 (ext_new hT)) .nil))⟩
                | _ => cases hl'
              | _ => cases q2 <;> cases hl'
        · cases hl
      · rcases as with _ | ⟨q, _ | ⟨q2, _ | ⟨z, t⟩⟩⟩
        · cases hr
        · cases hr
        · cases q <;> cases q2 <;> cases hr
        · cases hr
end
end Em
end

section
set_option Elab.async false
set_option linter.all false
set_option maxRecDepth 100000
set_option maxHeartbeats 400000
/-! EmM: statements. -/
namespace Em
open PySem PySem.Spec PyProof.Rows L2
section
variable {c : Ctx} {n0 : Nat}
theorem es_asg {tg : Tg} {e : E} : evS c n0 (.asg tg e) = fun σ s => (evE c e σ s).bd fun v s1 => match putVal tg v σ with
    | some σ' => .ok (.nx, σ') s1
    | none => .bad := by funext σ s; rw [evS]; try rfl
theorem es_asgs {is : List Nat} {es : List E} : evS c n0 (.asgs is es) = fun σ s => (evEs c es σ s).bd fun vs s1 => match putSlots is vs σ with
    | some σ' => .ok (.nx, σ') s1
    | none => .bad := by funext σ s; rw [evS]; try rfl
theorem es_asgx {o i e : E} : evS c n0 (.asgx o i e) = fun σ s => (evE c e σ s).bd fun v s1 => match v with
    | .d p => (evE c o σ s1).bd fun x s2 => (evE c i σ s2).bd fun y s3 => (setV x y p s3).bd fun _ s4 => .ok (.nx, σ) s4
    | _ => .bad := by funext σ s; rw [evS]; try rfl
theorem es_expr {e : E} : evS c n0 (.expr e) = fun σ s => (evE c e σ s).bd fun _ s1 => .ok (.nx, σ) s1 := by funext σ s; rw [evS]; try rfl
theorem es_ret {e : E} : evS c n0 (.ret e) = fun σ s => (evE c e σ s).bd fun v s1 => match finR n0 v s1 with
    | some r => .ok (.rt r, σ) s1
    | none => .bad := by funext σ s; rw [evS]; try rfl
theorem es_retn : evS c n0 .retn = fun σ s => .ok (.rt (.val (.d .none)), σ) s := by funext σ s; rw [evS]; try rfl
theorem es_rets {es : List E} : evS c n0 (.rets es) = fun σ s => (evEs c es σ s).bd fun vs s1 => match vs.mapM (ownS n0 s1) with
    | some ps => .ok (.rt (.val (.d (.tuple ps))), σ) s1
    | none => .bad := by funext σ s; rw [evS]; try rfl
theorem es_ite {t : E} {a b : List S} : evS c n0 (.ite t a b) = fun σ s => (tst (evE c t σ s)).bd fun x s1 => if x = true then evSs c n0 a σ s1 else evSs c n0 b σ s1 := by funext σ s; rw [evS]; try rfl
theorem es_for {tg : Tg} {it : E} {body : List S} : evS c n0 (.for_ tg it body) = fun σ s => (evE c it σ s).bd fun v s1 => loopS (fun σ1 x s2 => match putVal tg x σ1 with
      | some σ2 => evSs c n0 body σ2 s2
      | none => .bad) v c.fuel 0 σ s1 := by funext σ s; rw [evS]; try rfl
theorem es_while {t : E} {body : List S} : evS c n0 (.while_ t body) = fun σ s => loopW (fun σ1 s1 => tst (evE c t σ1 s1)) (fun σ1 s1 => evSs c n0 body σ1 s1) c.fuel σ s := by funext σ s; rw [evS]; try rfl
theorem es_pass : evS c n0 .pass = fun σ s => .ok (.nx, σ) s := by funext σ s; rw [evS]; try rfl
theorem es_brk : evS c n0 .brk = fun σ s => .ok (.bk, σ) s := by funext σ s; rw [evS]; try rfl
theorem es_cont : evS c n0 .cont = fun σ s => .ok (.ct, σ) s := by funext σ s; rw [evS]; try rfl
theorem es_raise {k : Nat} {es : List E} : evS c n0 (.raise k es) = fun _ _ => .bad := by funext σ s; rw [evS]; try rfl
theorem ess_nil : evSs c n0 [] = fun σ s => .ok (.nx, σ) s := by funext σ s; rw [evSs]; try rfl
theorem ess_cons {st : S} {r : List S} : evSs c n0 (st :: r) = fun σ s => (evS c n0 st σ s).bd fun y s1 => match y.1 with
    | .nx => evSs c n0 r y.2 s1
    | _ => .ok y s1 := by funext σ s; rw [evSs]; try rfl
end
/-- the lists that a caller had -/
def shr (g : Wd) (n0 : Nat) : Wd := ⟨g.mu.take n0, []⟩
def RV (K : PySem.W.Frag) (Pr : Addr → Prop) (g : Wd) (H : Hp) (n0 : Nat) : Rv → V → Prop
  | .val (.d p), v => Dq K (Ms Pr (shr g n0)) H v p
  | .val (.fl i), v => i < n0 ∧ ∃ a, g.mu[i]? = some a ∧ v = .ref a
  | .val _, _ => False
  | .new cc, v => ∃ a, v = .ref a ∧ g.W a ∧ a ∉ g.mu.take n0 ∧ CR K (Ms Pr ⟨g.mu.take n0 ++ [a], []⟩) H cc a
def EndsOk (K : PySem.W.Frag) (Pr : Addr → Prop) (g : Wd) (H : Hp) (n0 : Nat) (D : Ends) (y : Fl × Env) (s' : Sto) : Prop := match y.1 with
  | .nx => ∀ σ' H' g', Ext g H g' H' → Rl K Pr g' s' H' → SR K Pr g' H' y.2 σ' → D.nx σ' H'
  | .bk => ∀ σ' H' g', Ext g H g' H' → Rl K Pr g' s' H' → SR K Pr g' H' y.2 σ' → D.bk σ' H'
  | .ct => ∀ σ' H' g', Ext g H g' H' → Rl K Pr g' s' H' → SR K Pr g' H' y.2 σ' → D.ct σ' H'
  | .rt r => ∀ v H' g', Ext g H g' H' → Rl K Pr g' s' H' → RV K Pr g' H' n0 r v → D.rt v H'
def tS (K : PySem.W.Frag) (n0 : Nat) (f : Env → Sto → R (Fl × Env)) : TS := fun D σ H => ∃ (Pr : Addr → Prop) (g : Wd) (s : Sto) (σa : Env) (y : Fl × Env) (s' : Sto), n0 ≤ s.F.length ∧ Rl K Pr g s H ∧ SR K Pr g H σa σ ∧ f σa s = .ok y s' ∧ EndsOk K Pr g H n0 D y s'
section
variable {K : PySem.W.Frag} {Pr : Addr → Prop} {g g' : Wd} {H H' : Hp} {n0 : Nat} {D D' : Ends} {y : Fl × Env} {s s' : Sto}
theorem EndsOk.ext (h : EndsOk K Pr g H n0 D y s') (x : Ext g H g' H') : EndsOk K Pr g' H' n0 D y s' := by
  obtain ⟨f, σ⟩ := y
  cases f with
  | nx => exact fun σ' H2 g2 X2 R2 S2 => h σ' H2 g2 (x.trans X2) R2 S2
  | bk => exact fun σ' H2 g2 X2 R2 S2 => h σ' H2 g2 (x.trans X2) R2 S2
  | ct => exact fun σ' H2 g2 X2 R2 S2 => h σ' H2 g2 (x.trans X2) R2 S2
  | rt r => exact fun v H2 g2 X2 R2 S2 => h v H2 g2 (x.trans X2) R2 S2
theorem F_le (r : Rl K Pr g s H) (r' : Rl K Pr g' s' H') (x : Ext g H g' H') : s.F.length ≤ s'.F.length := by
  rw [← r.lf, ← r'.lf]
  exact x.pm.length_le
end
section
variable {X : Cx} {c : Ctx} {n0 : Nat} {st : Stmt} {sts : List Stmt} {es : S} {ess : List S} {e : Expr} {ea : E} {pos : Pos}
theorem PS.imp {X : Cx} {e : Stmt} {t t' : TS} (h : PS X e t) (i : ∀ D σ H, t' D σ H → t D σ H) : PS X e t' := ⟨fun pins s σ H D I hw => h.run pins s σ H D I (i _ _ _ hw)⟩
theorem PSs.imp {X : Cx} {e : List Stmt} {t t' : TS} (h : PSs X e t) (i : ∀ D σ H, t' D σ H → t D σ H) : PSs X e t' := ⟨fun pins s σ H D I hw => h.run pins s σ H D I (i _ _ _ hw)⟩
abbrev Ps (X : Cx) (c : Ctx) (n0 : Nat) (st : Stmt) (s : S) : Prop := PS X st (tS X.K n0 (evS c n0 s))
abbrev Pss (X : Cx) (c : Ctx) (n0 : Nat) (st : List Stmt) (s : List S) : Prop := PSs X st (tS X.K n0 (evSs c n0 s))
theorem st_nil : Pss X c n0 [] [] := PSs.imp pss_nil fun D σ H h => by
  obtain ⟨Pr, g, s, σa, y, s', hn, R0, S0, e, k⟩ := h
  rw [ess_nil] at e
  injection e with e1 e2
  subst e1; subst e2
  exact k σ H g Ext.refl R0 S0
theorem st_cons (h1 : Ps X c n0 st es) (h2 : Pss X c n0 sts ess) : Pss X c n0 (st :: sts) (es :: ess) :=
  PSs.imp (pss_cons h1 h2) fun D σ H h => by
    obtain ⟨Pr, g, s, σa, y, s', hn, R0, S0, e, k⟩ := h
    rw [ess_cons] at e
    obtain ⟨z, s1, e1, e⟩ := R.bd_eq e
    refine ⟨Pr, g, s, σa, z, s1, hn, R0, S0, e1, ?_⟩
    obtain ⟨f, σ1⟩ := z
    cases f with
    | nx => exact fun σ' H' g' X' R' S' => ⟨Pr, g', s1, σ1, y, s', Nat.le_trans hn (F_le R0 R' X'), R', S', e, k.ext X'⟩
    | bk => cases e; exact k
    | ct => cases e; exact k
    | rt r => cases e; exact k
theorem st_doc {x j pos'} : Ps X c n0 (.Expr (.Constant (.str x) j pos) pos') .pass := PS.imp ps_doc fun D σ H h => by
  obtain ⟨Pr, g, s, σa, y, s', hn, R0, S0, e, k⟩ := h
  rw [es_pass] at e
  injection e with e1 e2
  subst e1; subst e2
  exact k σ H g Ext.refl R0 S0
theorem st_pass : Ps X c n0 (.Pass pos) .pass := PS.imp ps_pass fun D σ H h => by
  obtain ⟨Pr, g, s, σa, y, s', hn, R0, S0, e, k⟩ := h
  rw [es_pass] at e
  injection e with e1 e2
  subst e1; subst e2
  exact k σ H g Ext.refl R0 S0
theorem st_brk : Ps X c n0 (.Break pos) .brk := PS.imp ps_break fun D σ H h => by
  obtain ⟨Pr, g, s, σa, y, s', hn, R0, S0, e, k⟩ := h
  rw [es_brk] at e
  injection e with e1 e2
  subst e1; subst e2
  exact k σ H g Ext.refl R0 S0
theorem st_cont : Ps X c n0 (.Continue pos) .cont := PS.imp ps_continue fun D σ H h => by
  obtain ⟨Pr, g, s, σa, y, s', hn, R0, S0, e, k⟩ := h
  rw [es_cont] at e
  injection e with e1 e2
  subst e1; subst e2
  exact k σ H g Ext.refl R0 S0
/-- a raise that is never come to -/
theorem st_raise {k : Nat} {as : List E} : Ps X c n0 st (.raise k as) := PS.imp ps_never fun D σ H h => by
  obtain ⟨Pr, g, s, σa, y, s', hn, R0, S0, e, k⟩ := h
  rw [es_raise] at e
  cases e
theorem st_expr (he : Pe X c e ea) (hs : swapsWith e none pos.line X.env = pure false := by rfl) : Ps X c n0 (.Expr e pos) (.expr ea) := PS.imp (ps_expr he hs) fun D σ H h => by
  obtain ⟨Pr, g, s, σa, y, s', hn, R0, S0, e, k⟩ := h
  rw [es_expr] at e
  obtain ⟨v, s1, e1, e⟩ := R.bd_eq e
  injection e with e2 e3
  subst e2; subst e3
  exact ⟨Pr, g, s, σa, v, s1, R0, S0, e1, fun v H' g' X' R' _ => k σ H' g' X' R' (S0.ext R0 X')⟩
theorem asg_imp {te : Tg} {D : Ends} {σ : L2.St} {H : Hp} (h : tS X.K n0 (evS c n0 (.asg te ea)) D σ H) : tAsg (tR X.K (evE c ea)) (gT X.K te) D σ H := by
  obtain ⟨Pr, g, s, σa, y, s', hn, R0, S0, e, k⟩ := h
  rw [es_asg] at e
  obtain ⟨v, s1, e1, e⟩ := R.bd_eq e
  cases h : putVal te v σa with
  | none => simp only [h] at e; cases e
  | some σ1 =>
    simp only [h] at e
    injection e with e2 e3
    subst e2; subst e3
    exact ⟨Pr, g, s, σa, v, s1, R0, S0, e1, fun w H' g' X' R' V' => ⟨Pr, g', s1, σa, v, σ1, R', S0.ext R0 X', V', h, fun σ2 S2 _ => k σ2 H' g' X' R' S2⟩⟩
theorem st_set {i : Nat} {x : Str} {pos' : Pos} (hN : X.N.Nodup) (hi : X.N[i]? = some x) (he : Pe X c e ea) (hx : Loc X.env.scope x := by first | exact .inl rfl | exact .inr rfl) (hs : swapsWith e (some (.Name x pos')) pos.line X.env = pure false := by rfl) (hf : X.fn x = true ∨ X.env.scope.names.lookup x = some .local := by first | exact .inl rfl | exact .inr rfl) :
    Ps X c n0 (.Assign [.Name x pos'] e pos) (.asg (.slot i) ea) := PS.imp (ps_set hN hi hx he hs hf) fun D σ H h => by
  obtain ⟨Pr, g, s, σa, u, s', R0, S0, e, k⟩ := asg_imp h
  refine ⟨Pr, g, s, σa, u, s', R0, S0, e, fun v H' g' X' R' V' => ?_⟩
  obtain ⟨Pr2, g2, s2, σb, x, σ', R2, S2, V2, e2, k2⟩ := k v H' g' X' R' V'
  obtain ⟨_, rfl⟩ := put_slot e2
  exact k2 _ (S2.set V2) fun vs h => wipe_set (h i (by rw [Tg.slots]; exact List.mem_singleton_self i))
theorem st_asg {tg : Expr} {t : Tg} (he : Pe X c e ea) (hg : Pg X tg t) (hs : swapsWithSole [tg] e pos.line X.env = pure false := by rfl) (hw : swappedStores [tg] e X.env = pure none := by rfl)
    (h1 : (assignEach [tg] X.env).map (·.2) = [assign tg X.env] := by rfl) : Ps X c n0 (.Assign [tg] e pos) (.asg t ea) := PS.imp (ps_asg he hg hs hw h1) fun D σ H h => asg_imp h
theorem st_par {i j : Nat} {x y : Str} {a b : Expr} {ea eb : E} {px py pt : Pos} {kt k2 pt2} (hc : X.calm = true) (hN : X.N.Nodup) (hi : X.N[i]? = some x) (hj : X.N[j]? = some y) (ha : Pas X c [a, b] [ea, eb])
    (hij : i ≠ j := by decide) (hx : X.env.scope.names.lookup x = some .local := by rfl) (hy : X.env.scope.names.lookup y = some .local := by rfl)
    (hw : swappedStores [.Tuple [.Name x px, .Name y py] kt pt] (.Tuple [a, b] k2 pt2) X.env = pure (some [x, y]) := by rfl)
    (hs : swapsWithSole [.Tuple [.Name x px, .Name y py] kt pt] (.Tuple [a, b] k2 pt2) pos.line X.env = pure false := by rfl) :
    Ps X c n0 (.Assign [.Tuple [.Name x px, .Name y py] kt pt] (.Tuple [a, b] k2 pt2) pos) (.asgs [i, j] [ea, eb]) := PS.imp (ps_par hc hN hi hj hij hx hy ha hw hs) fun D σ H h => by
  obtain ⟨Pr, g, s, σa, z, s', hn, R0, S0, e, k⟩ := h
  rw [es_asgs] at e
  obtain ⟨vs, s1, e1, e⟩ := R.bd_eq e
  have hl := evs_len e1
  rcases vs with _ | ⟨u, _ | ⟨w, _ | ⟨_, _⟩⟩⟩
  · cases hl
  · cases hl
  · cases h : putSlots [i, j] [u, w] σa with
    | none => simp only [h] at e; cases e
    | some σ1 =>
      simp only [h] at e
      injection e with e2 e3
      subst e2; subst e3
      unfold putSlots putSlots putSlots at h
      by_cases q1 : i < σa.length
      · rw [if_pos q1] at h
        by_cases q2 : j < (σa.set i (some u)).length
        · rw [if_pos q2] at h
          have h := Option.some.inj h
          subst h
          refine ⟨Pr, g, s, σa, [u, w], s1, R0, S0, e1, fun ws H' g' X' R' V' => ?_⟩
          obtain ⟨v1, v2, rfl, V1, V2⟩ := V'.two
          exact ⟨v1, v2, rfl, k _ H' g' X' R' (((S0.ext R0 X').set V1).set V2)⟩
        · rw [if_neg q2] at h; cases h
      · rw [if_neg q1] at h; cases h
  · cases hl
theorem own_dq {K : PySem.W.Frag} {Pr : Addr → Prop} {g : Wd} {H : Hp} {s : Sto} {n0 : Nat} {v : V} {p : D} (h : Dq K (Ms Pr g) H v p) : Dq K (Ms Pr (shr g n0)) H v p :=
  Dq.mono p h (fun a xs e n => ⟨e, fun m => n (m.elim (fun w => w.elim (fun w => .inl (.inl (List.mem_of_mem_take w))) fun w => nomatch w) .inr)⟩) (fun a xs e => e) fun a e n => ⟨e, fun m => n (m.elim (fun w => w.elim (fun w => .inl (.inl (List.mem_of_mem_take w))) fun w => nomatch w) .inr)⟩
theorem own_dqA {K : PySem.W.Frag} {Pr : Addr → Prop} {g g' : Wd} {H : Hp} {v : List V} {p : List D} (h : DqA K (Ms Pr g) H v p) (hg : ∀ a, g'.W a → g.W a) : DqA K (Ms Pr g') H v p :=
  DqA.mono p h (fun a xs e n => ⟨e, fun m => n (m.elim (fun w => .inl (hg a w)) .inr)⟩) (fun a xs e => e) fun a e n => ⟨e, fun m => n (m.elim (fun w => .inl (hg a w)) .inr)⟩
theorem own_kqA {K : PySem.W.Frag} {Pr : Addr → Prop} {g g' : Wd} {H : Hp} {v : List (Key × V)} {p : List (Key × D)} (h : KqA K (Ms Pr g) H v p) (hg : ∀ a, g'.W a → g.W a) : KqA K (Ms Pr g') H v p :=
  h.mono fun v p h => Dq.mono p h (fun a xs e n => ⟨e, fun m => n (m.elim (fun w => .inl (hg a w)) .inr)⟩) (fun a xs e => e) fun a e n => ⟨e, fun m => n (m.elim (fun w => .inl (hg a w)) .inr)⟩
theorem mem_take_lt {α : Type} {l : List α} {a : α} {n : Nat} (h : a ∈ l.take n) : ∃ i, i < n ∧ l[i]? = some a := by
  obtain ⟨i, hi⟩ := List.mem_iff_getElem?.mp h
  rw [List.getElem?_take] at hi
  split at hi
  · rename_i q; exact ⟨i, q, hi⟩
  · cases hi
theorem nd_ix {α : Type} {l : List α} (hd : l.Nodup) {i j : Nat} {a : α} (h1 : l[i]? = some a) (h2 : l[j]? = some a) : i = j := by
  obtain ⟨p1, q1⟩ := List.getElem?_eq_some_iff.mp h1
  obtain ⟨p2, q2⟩ := List.getElem?_eq_some_iff.mp h2
  exact (List.getElem_inj hd).mp (q1.trans q2.symm)
theorem own1_dq {K : PySem.W.Frag} {Pr : Addr → Prop} {g : Wd} {H : Hp} {s : Sto} {n0 : Nat} (r : Rl K Pr g s H) {u : Val} {v : V} {p : D} (V0 : VR K Pr g H u v) (h : own1 n0 s u = some p) :
    Dq K (Ms Pr (shr g n0)) H v p ∧ ∀ b, b ∈ g.nu → ∀ (g' : Wd), (∀ a, g'.W a → a ∈ g.mu.take n0 ∨ a = b) → Dq K (Ms Pr g') H v p := by
  cases u with
  | d q =>
    have e : q = p := Option.some.inj h
    subst e
    refine ⟨own_dq (s := s) V0, fun b hb g' hg => Dq.mono _ V0 (fun a xs e n => ⟨e, fun m => n (m.elim (fun w => ?_) .inr)⟩) (fun a xs e => e) fun a e n => ⟨e, fun m => n (m.elim (fun w => ?_) .inr)⟩⟩
    · rcases hg a w with w | w
      · exact .inl (.inl (List.mem_of_mem_take w))
      · exact .inl (.inr (w ▸ hb))
    · rcases hg a w with w | w
      · exact .inl (.inl (List.mem_of_mem_take w))
      · exact .inl (.inr (w ▸ hb))
  | fl i =>
    have h : (if n0 ≤ i then s.snapF (.fl i) else none) = some p := h
    by_cases hi : n0 ≤ i
    · rw [if_pos hi] at h
      obtain ⟨a, ea, rfl⟩ := V0
      obtain ⟨cc, hc⟩ := r.lt_mu ea
      have q := r.f i a cc ea hc
      unfold Sto.snapF at h
      simp only [hc] at h
      cases cc with
      | di _ => cases h
      | li l =>
        have e' : PyData.list l = p := Option.some.inj h
        subst e'
        obtain ⟨_, xs, h1, h2⟩ := q
        have nd := List.nodup_append.mp r.nd
        have na : a ∉ g.mu.take n0 := fun m => by
          obtain ⟨j, hj, ej⟩ := mem_take_lt m
          have := nd_ix nd.1 ea ej
          omega
        have npr := r.np a (.inl (List.mem_of_getElem? ea))
        refine ⟨.lst h1 (fun m => m.elim (fun w => w.elim na fun w => nomatch w) npr) (own_dqA h2 fun b w => w.elim (fun w => .inl (List.mem_of_mem_take w)) fun w => nomatch w), fun b hb g' hg => .lst h1 (fun m => ?_) (own_dqA h2 fun b' w => ?_)⟩
        · rcases m with w | w
          · rcases hg a w with w | w
            · exact na w
            · subst w
              exact nd.2.2 a (List.mem_of_getElem? ea) a hb rfl
          · exact npr w
        · rcases hg b' w with w | w
          · exact .inl (List.mem_of_mem_take w)
          · exact .inr (w ▸ hb)
    · rw [if_neg hi] at h; cases h
  | ne i => cases h
  | sc l => cases h
theorem own1_all {K : PySem.W.Frag} {Pr : Addr → Prop} {g : Wd} {H : Hp} {s : Sto} {n0 : Nat} (r : Rl K Pr g s H) {b : Addr} (hb : b ∈ g.nu) {g' : Wd} (hg : ∀ a, g'.W a → a ∈ g.mu.take n0 ∨ a = b) : ∀ {us : List Val} {vs : List V} {ps : List D}, VRs K Pr g H us vs → us.mapM (own1 n0 s) = some ps → DqA K (Ms Pr g') H vs ps
  | _, _, ps, .nil, e => by
    have e' : ([] : List D) = ps := by simpa using e
    subst e'; exact .nil
  | _, _, ps, .cons (u := u) (us := us) h t, e => by
    rw [List.mapM_cons] at e
    cases q : own1 n0 s u with
    | none => rw [q] at e; cases e
    | some p =>
      cases q2 : us.mapM (own1 n0 s) with
      | none => rw [q, q2] at e; cases e
      | some qs =>
        rw [q, q2] at e
        have e' : p :: qs = ps := Option.some.inj e
        subst e'
        exact .cons ((own1_dq r h q).2 b hb g' hg) (own1_all r hb hg t q2)
theorem ownS_dq {K : PySem.W.Frag} {Pr : Addr → Prop} {g : Wd} {H : Hp} {s : Sto} {n0 : Nat} (r : Rl K Pr g s H) {u : Val} {v : V} {p : D} (V0 : VR K Pr g H u v) (h : ownS n0 s u = some p) : Dq K (Ms Pr (shr g n0)) H v p := by
  cases u with
  | ne j =>
    obtain ⟨a, ea, rfl⟩ := V0
    obtain ⟨vs, hc⟩ := r.lt_nu ea
    obtain ⟨xs, q1, q2⟩ := r.n j a vs ea hc
    unfold ownS at h
    simp only [hc] at h
    cases q : vs.mapM (own1 n0 s) with
    | none => rw [q] at h; cases h
    | some ps =>
      rw [q] at h
      have e' : PyData.list ps = p := Option.some.inj h
      subst e'
      have nd := List.nodup_append.mp r.nd
      have hb := List.mem_of_getElem? ea
      refine .lst q1 (fun m => m.elim (fun w => w.elim (fun w => nd.2.2 a (List.mem_of_mem_take w) a hb rfl) fun w => nomatch w) (r.np a (.inr hb))) (own1_all (g' := shr g n0) r hb (fun b w => w.elim (fun w => .inl w) fun w => nomatch w) q2 q)
  | d q => exact (own1_dq r V0 h).1
  | fl i => exact (own1_dq r V0 h).1
  | sc l => cases h
theorem ownS_all {K : PySem.W.Frag} {Pr : Addr → Prop} {g : Wd} {H : Hp} {s : Sto} {n0 : Nat} (r : Rl K Pr g s H) : ∀ {us : List Val} {vs : List V} {ps : List D}, VRs K Pr g H us vs → us.mapM (ownS n0 s) = some ps → DqA K (Ms Pr (shr g n0)) H vs ps
  | _, _, ps, .nil, e => by
    have e' : ([] : List D) = ps := by simpa using e
    subst e'; exact .nil
  | _, _, ps, .cons (u := u) (us := us) h t, e => by
    rw [List.mapM_cons] at e
    cases q : ownS n0 s u with
    | none => rw [q] at e; cases e
    | some p =>
      cases q2 : us.mapM (ownS n0 s) with
      | none => rw [q, q2] at e; cases e
      | some qs =>
        rw [q, q2] at e
        have e' : p :: qs = ps := Option.some.inj e
        subst e'
        exact .cons (ownS_dq r h q) (ownS_all r t q2)
theorem finR_ok {K : PySem.W.Frag} {Pr : Addr → Prop} {g : Wd} {H : Hp} {s : Sto} {n0 : Nat} (r : Rl K Pr g s H) {u : Val} {v : V} {q : Rv} (V0 : VR K Pr g H u v) (h : finR n0 u s = some q) : RV K Pr g H n0 q v := by
  cases u with
  | d p =>
    have e : Rv.val (.d p) = q := Option.some.inj h
    subst e
    exact own_dq (s := s) V0
  | fl i =>
    unfold finR at h
    by_cases hi : i < n0
    · simp only [if_pos hi] at h
      cases h
      exact ⟨hi, V0⟩
    · simp only [if_neg hi] at h
      obtain ⟨a, ea, rfl⟩ := V0
      obtain ⟨cc, hc⟩ := r.lt_mu ea
      rw [hc] at h
      cases h
      have q := r.f i a cc ea hc
      have nd := List.nodup_append.mp r.nd
      refine ⟨a, rfl, .inl (List.mem_of_getElem? ea), fun m => ?_, ?_⟩
      · obtain ⟨j, hj, ej⟩ := mem_take_lt m
        have := nd_ix nd.1 ea ej
        omega
      · cases cc with
        | di _ =>
          obtain ⟨z, xs, h1, h2⟩ := q
          exact ⟨z, xs, h1, own_kqA h2 fun b w => w.elim (fun w => (List.mem_append.mp w).elim (fun w => .inl (List.mem_of_mem_take w)) fun w => .inl (by rw [List.mem_singleton.mp w]; exact List.mem_of_getElem? ea)) fun w => nomatch w⟩
        | li l =>
          obtain ⟨z, xs, h1, h2⟩ := q
          exact ⟨z, xs, h1, own_dqA h2 fun b w => w.elim (fun w => (List.mem_append.mp w).elim (fun w => .inl (List.mem_of_mem_take w)) fun w => .inl (by rw [List.mem_singleton.mp w]; exact List.mem_of_getElem? ea)) fun w => nomatch w⟩
  | ne j =>
    have h : (match ownS n0 s (.ne j) with
      | some (.list l) => if l.length ≤ sizeMax then some (Rv.new (.li l)) else none
      | _ => none) = some q := h
    cases e1 : ownS n0 s (.ne j) with
    | none => rw [e1] at h; cases h
    | some p =>
      rw [e1] at h
      obtain ⟨a, ea, rfl⟩ := V0
      obtain ⟨vs, hc⟩ := r.lt_nu ea
      obtain ⟨xs, q1, q2⟩ := r.n j a vs ea hc
      unfold ownS at e1
      simp only [hc] at e1
      cases q3 : vs.mapM (own1 n0 s) with
      | none => rw [q3] at e1; cases e1
      | some ps =>
        rw [q3] at e1
        have e' : PyData.list ps = p := Option.some.inj e1
        subst e'
        have h : (if ps.length ≤ sizeMax then some (Rv.new (.li ps)) else none) = some q := h
        have hz : ps.length ≤ sizeMax := by
          by_cases hz : ps.length ≤ sizeMax
          · exact hz
          · rw [if_neg hz] at h; cases h
        rw [if_pos hz] at h
        cases h
        have nd := List.nodup_append.mp r.nd
        have hb := List.mem_of_getElem? ea
        have d := own1_all (g' := ⟨g.mu.take n0 ++ [a], []⟩) r hb (fun b w => w.elim (fun w => (List.mem_append.mp w).imp id List.mem_singleton.mp) fun w => nomatch w) q2 q3
        exact ⟨a, rfl, .inr hb, fun m => nd.2.2 a (List.mem_of_mem_take m) a hb rfl, by rw [← sizeMax_eq]; exact hz, xs, q1, d⟩
  | sc l => cases h
theorem st_ret (he : Pe X c e ea) : Ps X c n0 (.Return (some e) pos) (.ret ea) := PS.imp (ps_ret he) fun D σ H h => by
  obtain ⟨Pr, g, s, σa, y, s', hn, R0, S0, e, k⟩ := h
  rw [es_ret] at e
  obtain ⟨u, s1, e1, e⟩ := R.bd_eq e
  cases h : finR n0 u s1 with
  | none => rw [h] at e; cases e
  | some q =>
    rw [h] at e
    injection e with e2 e3
    subst e2; subst e3
    exact ⟨Pr, g, s, σa, u, s1, R0, S0, e1, fun v H' g' X' R' V' => k v H' g' X' R' (finR_ok R' V' h)⟩
theorem st_retn : Ps X c n0 (.Return none pos) .retn := PS.imp ps_retN fun D σ H h => by
  obtain ⟨Pr, g, s, σa, y, s', hn, R0, S0, e, k⟩ := h
  rw [es_retn] at e
  injection e with e1 e2
  subst e1; subst e2
  exact k .non H g Ext.refl R0 Dq.non
theorem st_rets {as : List Expr} {eas : List E} {kk : Nat} {tpos : Pos} (he : Pas X c as eas) (hz : eas.length ≤ 1000 := by decide) : Ps X c n0 (.Return (some (.Tuple as kk tpos)) pos) (.rets eas) := PS.imp (ps_ret (pe_tup he)) fun D σ H h => by
  obtain ⟨Pr, g, s, σa, y, s', hn, R0, S0, e, k⟩ := h
  rw [es_rets] at e
  obtain ⟨us, s1, e1, e⟩ := R.bd_eq e
  have hl := evs_len e1
  cases h : us.mapM (ownS n0 s1) with
  | none => simp only [h] at e; cases e
  | some ps =>
    simp only [h] at e
    injection e with e2 e3
    subst e2; subst e3
    refine ⟨Pr, g, s, σa, us, s1, R0, S0, e1, fun vs H' g' X' R' V' => ⟨by have := V'.length; have := sizeLine_eq; omega, fun p hp => ?_⟩⟩
    have d := ownS_all R' V' h
    have x := ext_new (g := g') (o := HO.tup vs) hp
    refine k _ _ g' (X'.trans x) (R'.new hp) (Dq.tup (.inl (.inl upd_same)) (DqA.mono _ d (fun a xs e n => ⟨?_, n⟩) (fun a xs e => ?_) fun a e n => ⟨?_, n⟩))
    · rw [upd_ne (ne_of_none e hp)]; exact e
    · exact sqt_ext R' x e
    · rw [upd_ne (ne_of_none e hp)]; exact e
theorem st_if {t : Expr} {et : E} {a b : List Stmt} {ea eb : List S} (ht : Pt X c t et) (ha : Pss X c n0 a ea) (hb : Pss X c n0 b eb) : Ps X c n0 (.If t a b pos) (.ite et ea eb) := PS.imp (ps_if ht ha hb) fun D σ H h => by
  obtain ⟨Pr, g, s, σa, y, s', hn, R0, S0, e, k⟩ := h
  rw [es_ite] at e
  obtain ⟨x, s1, e1, e⟩ := R.bd_eq e
  refine ⟨Pr, g, s, σa, x, s1, R0, S0, e1, fun H' g' X' R' => ?_⟩
  have hn' := Nat.le_trans hn (F_le R0 R' X')
  cases x with
  | true => exact ⟨Pr, g', s1, σa, y, s', hn', R', S0.ext R0 X', e, k.ext X'⟩
  | false => exact ⟨Pr, g', s1, σa, y, s', hn', R', S0.ext R0 X', e, k.ext X'⟩
theorem loopS_step {f : Env → Val → Sto → R (Fl × Env)} {v : Val} {m i : Nat} {σ : Env} {s s' : Sto} {y : Fl × Env} (e : loopS f v m i σ s = .ok y s') : ∃ m', m = m' + 1 ∧ ((nth s v i = some none ∧ y = (.nx, σ) ∧ s' = s) ∨
    ∃ x z s1, nth s v i = some (some x) ∧ f σ x s = .ok z s1 ∧ match z.1 with
      | .nx => loopS f v m' (i + 1) z.2 s1 = .ok y s'
      | .ct => loopS f v m' (i + 1) z.2 s1 = .ok y s'
      | .bk => y = (.nx, z.2) ∧ s' = s1
      | .rt w => y = (.rt w, z.2) ∧ s' = s1) := by
  cases m with
  | zero => rw [loopS] at e; cases e
  | succ m =>
    refine ⟨m, rfl, ?_⟩
    rw [loopS] at e
    cases h : nth s v i with
    | none => simp only [h] at e; cases e
    | some o =>
      cases o with
      | none => simp only [h] at e; cases e; exact .inl ⟨rfl, rfl, rfl⟩
      | some x =>
        simp only [h] at e
        obtain ⟨z, s1, e1, e⟩ := R.bd_eq e
        refine .inr ⟨x, z, s1, rfl, e1, ?_⟩
        obtain ⟨fl, σz⟩ := z
        cases fl with
        | nx => exact e
        | ct => exact e
        | bk => cases e; exact ⟨rfl, rfl⟩
        | rt w => cases e; exact ⟨rfl, rfl⟩
theorem st_for {tg it : Expr} {etg : Tg} {eit : E} {body : List Stmt} {eb : List S} (hp : PassesOwn (model X.prog X.w) X.A X.env X.xe) (hc : X.calm = true) (hi : Pi X c tg it eit) (hg : Pg X tg etg) (hb : Pss X c n0 body eb)
    (hs : ∀ x, foldedSetIterable it X.env x = pure x := by intro _; rfl) : Ps X c n0 (.For tg it body [] pos) (.for_ etg eit eb) := PS.imp (ps_for hp hc hi hg hb hs) fun D σ H h => by
  obtain ⟨Pr, g, s, σa, y, s', hn, R0, S0, e, k⟩ := h
  rw [es_for] at e
  obtain ⟨u, s1, e1, e⟩ := R.bd_eq e
  obtain ⟨_, hm, hst⟩ := loopS_step e
  have hn0 : nth s1 u 0 ≠ none := by
    rcases hst with ⟨h, _⟩ | ⟨_, _, _, h, _⟩ <;> rw [h] <;> exact fun z => nomatch z
  refine ⟨Pr, g, s, σa, u, s1, R0, S0, e1, hn0, fun J H1 g1 X1 R1 IJ => ?_⟩
  refine ⟨fun i m σ' H' => ∃ g2 s2 σb, Ext g1 H1 g2 H' ∧ Rl X.K Pr g2 s2 H' ∧ SR X.K Pr g2 H' σb σ' ∧ loopS (fun σ1 x s2 => match putVal etg x σ1 with
      | some σ2 => evSs c n0 eb σ2 s2
      | none => .bad) u m i σb s2 = .ok y s', ⟨c.fuel, g1, s1, σa, Ext.refl, R1, S0.ext R0 X1, e⟩, ?_⟩
  rintro i m σ' H' ⟨g2, s2, σb, X2, R2, S2, e2⟩
  obtain ⟨m', rfl, ⟨h1, rfl, rfl⟩ | ⟨x, z, s3, h1, h2, h3⟩⟩ := loopS_step e2
  · exact .inl ⟨(IJ Pr g2 H' _ PrX.refl X2 R2 i).1 h1, k σ' H' g2 (X1.trans X2) R2 S2⟩
  · obtain ⟨go, yl⟩ := (IJ Pr g2 H' s2 PrX.refl X2 R2 i).2 x h1
    refine .inr ⟨go, fun σ' H' => ∃ g2 s2 σb, Ext g1 H1 g2 H' ∧ Rl X.K Pr g2 s2 H' ∧ SR X.K Pr g2 H' σb σ' ∧ loopS (fun σ1 x s2 => match putVal etg x σ1 with
      | some σ2 => evSs c n0 eb σ2 s2
      | none => .bad) u m' (i + 1) σb s2 = .ok y s', fun σ' H' w => ⟨m', Nat.lt_succ_self _, w⟩, fun v H3 yv => ?_⟩
    obtain ⟨X3, R3, V3⟩ := yl v H3 yv
    cases h4 : putVal etg x σb with
    | none => simp only [h4] at h2; cases h2
    | some σ2 =>
      simp only [h4] at h2
      refine ⟨Pr, g2, s2, σb, x, σ2, R3, S2.ext R2 X3, V3, h4, fun σ3 S3 _ => ⟨Pr, g2, s2, σ2, z, s3, ?_, R3, S3, h2, ?_⟩⟩
      · exact Nat.le_trans hn (F_le R0 R3 (X1.trans (X2.trans X3)))
      · obtain ⟨fl, σz⟩ := z
        cases fl with
        | nx => exact fun σ4 H4 g4 X4 R4 S4 => ⟨g4, s3, σz, (X2.trans X3).trans X4, R4, S4, h3⟩
        | ct => exact fun σ4 H4 g4 X4 R4 S4 => ⟨g4, s3, σz, (X2.trans X3).trans X4, R4, S4, h3⟩
        | bk =>
          obtain ⟨rfl, rfl⟩ := h3
          exact fun σ4 H4 g4 X4 R4 S4 => k σ4 H4 g4 (X1.trans ((X2.trans X3).trans X4)) R4 S4
        | rt w =>
          obtain ⟨rfl, rfl⟩ := h3
          exact fun v4 H4 g4 X4 R4 S4 => k v4 H4 g4 (X1.trans ((X2.trans X3).trans X4)) R4 S4
theorem st_while {t : Expr} {et : E} {body : List Stmt} {eb : List S} (hp : PassesOwn (model X.prog X.w) X.A X.env X.xe) (ht : Pt X c t et) (hb : Pss X c n0 body eb) : Ps X c n0 (.While t body [] pos) (.while_ et eb) := PS.imp (ps_while hp ht hb) fun D σ H h => by
  obtain ⟨Pr, g, s, σa, y, s', hn, R0, S0, e, k⟩ := h
  rw [es_while] at e
  refine ⟨fun m σ' H' => ∃ g2 s2 σb, Ext g H g2 H' ∧ Rl X.K Pr g2 s2 H' ∧ SR X.K Pr g2 H' σb σ' ∧ loopW (fun σ1 s1 => tst (evE c et σ1 s1)) (fun σ1 s1 => evSs c n0 eb σ1 s1) m σb s2 = .ok y s', ⟨c.fuel, g, s, σa, Ext.refl, R0, S0, e⟩, ?_⟩
  rintro m σ' H' ⟨g2, s2, σb, X2, R2, S2, e2⟩
  cases m with
  | zero => rw [loopW] at e2; cases e2
  | succ m =>
    rw [loopW] at e2
    obtain ⟨b, s3, e3, e2⟩ := R.bd_eq e2
    refine ⟨Pr, g2, s2, σb, b, s3, R2, S2, e3, fun H3 g3 X3 R3 => ?_⟩
    cases b with
    | false =>
      have e2 : R.ok ((Fl.nx, σb) : Fl × Env) s3 = .ok y s' := e2
      injection e2 with e4 e5
      subst e4; subst e5
      exact k σ' H3 g3 (X2.trans X3) R3 (S2.ext R2 X3)
    | true =>
      have e2 : ((evSs c n0 eb σb s3).bd fun z s' => match z.1 with
        | .nx => loopW (fun σ1 s1 => tst (evE c et σ1 s1)) (fun σ1 s1 => evSs c n0 eb σ1 s1) m z.2 s'
        | .ct => loopW (fun σ1 s1 => tst (evE c et σ1 s1)) (fun σ1 s1 => evSs c n0 eb σ1 s1) m z.2 s'
        | .bk => .ok (.nx, z.2) s'
        | .rt w => .ok (.rt w, z.2) s') = .ok y s' := e2
      obtain ⟨z, s4, e4, e2⟩ := R.bd_eq e2
      refine ⟨fun σ' H' => ∃ g2 s2 σb, Ext g H g2 H' ∧ Rl X.K Pr g2 s2 H' ∧ SR X.K Pr g2 H' σb σ' ∧ loopW (fun σ1 s1 => tst (evE c et σ1 s1)) (fun σ1 s1 => evSs c n0 eb σ1 s1) m σb s2 = .ok y s', fun σ' H' w => ⟨m, Nat.lt_succ_self _, w⟩,
        Pr, g3, s3, σb, z, s4, Nat.le_trans hn (F_le R0 R3 (X2.trans X3)), R3, S2.ext R2 X3, e4, ?_⟩
      obtain ⟨fl, σz⟩ := z
      cases fl with
      | nx => exact fun σ5 H5 g5 X5 R5 S5 => ⟨g5, s4, σz, (X2.trans X3).trans X5, R5, S5, e2⟩
      | ct => exact fun σ5 H5 g5 X5 R5 S5 => ⟨g5, s4, σz, (X2.trans X3).trans X5, R5, S5, e2⟩
      | bk =>
        cases e2
        exact fun σ5 H5 g5 X5 R5 S5 => k σ5 H5 g5 ((X2.trans X3).trans X5) R5 S5
      | rt w =>
        cases e2
        exact fun v5 H5 g5 X5 R5 S5 => k v5 H5 g5 ((X2.trans X3).trans X5) R5 S5
end
end Em
end

section
set_option Elab.async false
set_option linter.all false
set_option maxRecDepth 100000
set_option maxHeartbeats 400000
/-! EmN: comprehensions; stores to items. -/
namespace Em
open PySem PySem.Spec PyProof.Rows L2
section
variable {K : PySem.W.Frag} {Pr : Addr → Prop} {g g' : Wd} {H H' : Hp} {s s' : Sto} {D : Addr}
/-- a list under way is held off -/
def PrD (Pr : Addr → Prop) (D : Addr) (a : Addr) : Prop := Pr a ∨ a = D
theorem prx_D (hn : H D = none) : PrX Pr (PrD Pr D) H := ⟨fun _ h => .inl h, fun a h n => (h.resolve_left n) ▸ hn⟩
theorem Rl.prot (r : Rl K Pr g s H) (hn : H D = none) (xs : List V) : Rl K (PrD Pr D) g s (upd H D (.lst xs)) := by
  have x : Ext g H g (upd H D (.lst xs)) := ext_new hn
  have px : PrX Pr (PrD Pr D) H := prx_D hn
  have ne : ∀ a, (∃ o, H a = some o) → a ≠ D := fun a ⟨o, e⟩ => ne_of_none e hn
  refine ⟨r.lf, r.ln, r.nd, fun a w q => ?_, fun a q => ?_, fun i a c e1 e2 => ?_, fun i a vs e1 e2 => ?_⟩
  · rcases q with q | q
    · exact r.np a w q
    · obtain ⟨ys, e⟩ := r.wl w
      exact ne a ⟨_, e⟩ q
  · rcases q with q | q
    · obtain ⟨ys, e⟩ := r.pr a q
      exact ⟨ys, x.keep a _ e fun w => r.np a w q⟩
    · subst q; exact ⟨.inl xs, upd_same⟩
  · have q := r.f i a c e1 e2
    cases c with
    | di _ =>
      obtain ⟨z, ys, q1, q2⟩ := q
      exact ⟨z, ys, by rw [upd_ne (ne a ⟨_, q1⟩)]; exact q1, q2.ext2 r px x⟩
    | li l =>
      obtain ⟨z, ys, q1, q2⟩ := q
      exact ⟨z, ys, by rw [upd_ne (ne a ⟨_, q1⟩)]; exact q1, q2.ext2 r px x⟩
  · obtain ⟨ys, q1, q2⟩ := r.n i a vs e1 e2
    exact ⟨ys, by rw [upd_ne (ne a ⟨_, q1⟩)]; exact q1, q2.ext2 r px x⟩
/-- the list that is held off is changed -/
theorem Dq.prW {v : V} {p : PyData} {xs ys : List V} (hP : Pr D) (hD : H D = some (.lst xs)) (h : Dq K (Ms Pr g) H v p) : Dq K (Ms Pr g) (upd H D (.lst ys)) v p :=
  Dq.mono p h (fun a zs e n => ⟨by rw [upd_ne (show a ≠ D from fun z => n (.inr (z ▸ hP)))]; exact e, n⟩) (fun a zs e => by
    have ne : ∀ o, H a = some o → (∀ ws, o ≠ .lst ws) → a ≠ D := fun o e q z => by subst z; rw [hD] at e; cases e; exact q _ rfl
    rcases e with (e | ⟨o, e⟩) | e
    · exact .inl (.inl (by rw [upd_ne (ne _ e fun _ z => nomatch z)]; exact e))
    · exact .inl (.inr ⟨o, by rw [upd_ne (ne _ e fun _ z => nomatch z)]; exact e⟩)
    · exact .inr e) fun a e n => ⟨by rw [upd_ne (show a ≠ D from fun z => n (.inr (z ▸ hP)))]; exact e, n⟩
theorem DqA.prW {xs ys : List V} (hP : Pr D) (hD : H D = some (.lst xs)) : ∀ {vs : List V} {ps : List PyData}, DqA K (Ms Pr g) H vs ps → DqA K (Ms Pr g) (upd H D (.lst ys)) vs ps
  | _, _, .nil => .nil
  | _, _, .cons h t => .cons (h.prW hP hD) (DqA.prW hP hD t)
theorem KqA.prW {xs ys : List V} (hP : Pr D) (hD : H D = some (.lst xs)) {vs : List (Key × V)} {ps : List (Key × PyData)} (h : KqA K (Ms Pr g) H vs ps) : KqA K (Ms Pr g) (upd H D (.lst ys)) vs ps := h.mono fun _ _ h => h.prW hP hD
theorem VR.prW {xs ys : List V} (hP : Pr D) (hD : H D = some (.lst xs)) : ∀ {u : Val} {v : V}, VR K Pr g H u v → VR K Pr g (upd H D (.lst ys)) u v
  | .d p, v, h => Dq.prW hP hD (show Dq K (Ms Pr g) H v p from h)
  | .fl i, v, h => h
  | .ne i, v, h => h
  | .sc l, v, ⟨a, e, h⟩ => by
    refine ⟨a, e, h.elim (fun ⟨h, n⟩ => .inl ⟨?_, n⟩) .inr⟩
    have ne : a ≠ D := fun z => n (.inr (z ▸ hP))
    rcases h with h | ⟨o, h⟩
    · exact .inl (by rw [upd_ne ne]; exact h)
    · exact .inr ⟨o, by rw [upd_ne ne]; exact h⟩
theorem VRs.prW {xs ys : List V} (hP : Pr D) (hD : H D = some (.lst xs)) : ∀ {u : List Val} {v : List V}, VRs K Pr g H u v → VRs K Pr g (upd H D (.lst ys)) u v
  | _, _, .nil => .nil
  | _, _, .cons h t => .cons (h.prW hP hD) (VRs.prW hP hD t)
theorem SR.prW {xs ys : List V} (hP : Pr D) (hD : H D = some (.lst xs)) {σa : Env} {σ : L2.St} (h : SR K Pr g H σa σ) : SR K Pr g (upd H D (.lst ys)) σa σ :=
  ⟨h.1, fun i u e => let ⟨v, e1, e2⟩ := h.2 i u e; ⟨v, e1, e2.prW hP hD⟩⟩
theorem Rl.prW {xs ys : List V} (hP : Pr D) (hD : H D = some (.lst xs)) (r : Rl K Pr g s H) : Rl K Pr g s (upd H D (.lst ys)) := by
  have ne : ∀ a, g.W a → a ≠ D := fun a w z => r.np a w (z ▸ hP)
  refine ⟨r.lf, r.ln, r.nd, r.np, fun a q => ?_, fun i a c e1 e2 => ?_, fun i a vs e1 e2 => ?_⟩
  · by_cases z : a = D
    · subst z; exact ⟨.inl ys, upd_same⟩
    · rw [upd_ne z]; exact r.pr a q
  · have q := r.f i a c e1 e2
    have na := ne a (.inl (List.mem_of_getElem? e1))
    cases c with
    | di _ =>
      obtain ⟨z, zs, q1, q2⟩ := q
      exact ⟨z, zs, by rw [upd_ne na]; exact q1, q2.prW hP hD⟩
    | li l =>
      obtain ⟨z, zs, q1, q2⟩ := q
      exact ⟨z, zs, by rw [upd_ne na]; exact q1, q2.prW hP hD⟩
  · obtain ⟨zs, q1, q2⟩ := r.n i a vs e1 e2
    exact ⟨zs, by rw [upd_ne (ne a (.inr (List.mem_of_getElem? e1)))]; exact q1, q2.prW hP hD⟩
/-- fewer held off, the heap as it is -/
theorem VR.less {P2 : Addr → Prop} (hM : ∀ a, Ms P2 g' a → Ms Pr g a) (pm : g.mu <+: g'.mu) (pn : g.nu <+: g'.nu) : ∀ {u : Val} {v : V}, VR K Pr g H u v → VR K P2 g' H u v
  | .d p, v, h => Dq.mono p (show Dq K (Ms Pr g) H v p from h) (fun a xs e n => ⟨e, fun m => n (hM a m)⟩) (fun a xs e => e) fun a e n => ⟨e, fun m => n (hM a m)⟩
  | .fl i, v, ⟨a, e, q⟩ => ⟨a, pre_get pm e, q⟩
  | .ne i, v, ⟨a, e, q⟩ => ⟨a, pre_get pn e, q⟩
  | .sc l, v, ⟨a, e, h⟩ => ⟨a, e, h.elim (fun ⟨h, n⟩ => .inl ⟨h, fun m => n (hM a m)⟩) .inr⟩
theorem VRs.less {P2 : Addr → Prop} (hM : ∀ a, Ms P2 g' a → Ms Pr g a) (pm : g.mu <+: g'.mu) (pn : g.nu <+: g'.nu) : ∀ {u : List Val} {v : List V}, VRs K Pr g H u v → VRs K P2 g' H u v
  | _, _, .nil => .nil
  | _, _, .cons h t => .cons (h.less hM pm pn) (VRs.less hM pm pn t)
theorem DqA.less {P2 : Addr → Prop} (hM : ∀ a, Ms P2 g' a → Ms Pr g a) {vs : List V} {ps : List PyData} (h : DqA K (Ms Pr g) H vs ps) : DqA K (Ms P2 g') H vs ps := DqA.mono ps h (fun a xs e n => ⟨e, fun m => n (hM a m)⟩) (fun a xs e => e) fun a e n => ⟨e, fun m => n (hM a m)⟩
theorem KqA.less {P2 : Addr → Prop} (hM : ∀ a, Ms P2 g' a → Ms Pr g a) {vs : List (Key × V)} {ps : List (Key × PyData)} (h : KqA K (Ms Pr g) H vs ps) : KqA K (Ms P2 g') H vs ps := h.mono fun v p h => Dq.mono p h (fun a xs e n => ⟨e, fun m => n (hM a m)⟩) (fun a xs e => e) fun a e n => ⟨e, fun m => n (hM a m)⟩
/-- the list that was under way is a list of the frame's -/
theorem mkV_at (r : Rl K (PrD Pr D) g s H) (nP : ¬ Pr D) {m : Mode} {l : List Val} {u : Val} (e : mkV m l s = .ok u s') {xs : List V} (hD : H D = some (.lst xs)) (h : VRs K (PrD Pr D) g H l xs) (hz : xs.length ≤ sizeLine) :
    ∃ g', (g.mu <+: g'.mu) ∧ (g.nu <+: g'.nu) ∧ (∀ a, g'.W a → g.W a ∨ a = D) ∧ Rl K Pr g' s' H ∧ VR K Pr g' H u (.ref D) := by
  have nW : ¬ g.W D := fun w => r.np D w (.inr rfl)
  have fl : ∀ m, m ≠ .ne → (match l.mapM valD with
    | some ds => mkL m ds s
    | none => .bad) = R.ok u s' → ∃ g', (g.mu <+: g'.mu) ∧ (g.nu <+: g'.nu) ∧ (∀ a, g'.W a → g.W a ∨ a = D) ∧ Rl K Pr g' s' H ∧ VR K Pr g' H u (.ref D) := fun m hm e => by
    cases q : l.mapM valD with
    | none => rw [q] at e; cases e
    | some ds =>
      rw [q] at e
      have d := valD_all h q
      cases m with
      | fr =>
        injection e with e1 e2
        subst e1; subst e2
        have hM : ∀ a, Ms Pr g a → Ms (PrD Pr D) g a := fun a m => m.imp id .inl
        refine ⟨g, List.prefix_rfl, List.prefix_rfl, fun a w => .inl w, ⟨r.lf, r.ln, r.nd, fun a w q => r.np a w (.inl q), fun a q => r.pr a (.inl q), fun i a c e1 e2 => ?_, fun i a vs e1 e2 => ?_⟩, Dq.lst hD (fun m => m.elim nW nP) (d.less hM)⟩
        · have q := r.f i a c e1 e2
          cases c with
          | di _ => obtain ⟨z, zs, q1, q2⟩ := q; exact ⟨z, zs, q1, q2.less hM⟩
          | li l => obtain ⟨z, zs, q1, q2⟩ := q; exact ⟨z, zs, q1, q2.less hM⟩
        · obtain ⟨zs, q1, q2⟩ := r.n i a vs e1 e2
          exact ⟨zs, q1, q2.less hM List.prefix_rfl List.prefix_rfl⟩
      | fl =>
        injection e with e1 e2
        subst e1; subst e2
        have pm : g.mu <+: (⟨g.mu ++ [D], g.nu⟩ : Wd).mu := List.prefix_append _ _
        have wW : ∀ a, (⟨g.mu ++ [D], g.nu⟩ : Wd).W a → g.W a ∨ a = D := fun a w => w.elim (fun w => (List.mem_append.mp w).elim (fun w => .inl (.inl w)) fun w => .inr (List.mem_singleton.mp w)) fun w => .inl (.inr w)
        have hM : ∀ a, Ms Pr (⟨g.mu ++ [D], g.nu⟩ : Wd) a → Ms (PrD Pr D) g a := fun a m => m.elim (fun w => (wW a w).elim .inl fun w => .inr (.inr w)) fun w => .inr (.inl w)
        have nd := List.nodup_append.mp r.nd
        have at_ : (g.mu ++ [D])[s.F.length]? = some D := by rw [← r.lf]; simp
        refine ⟨⟨g.mu ++ [D], g.nu⟩, pm, List.prefix_rfl, wW, ⟨by simp [r.lf], r.ln, ?_, fun a w q => ?_, fun a q => r.pr a (.inl q), fun i a c e1 e2 => ?_, fun i a vs e1 e2 => ?_⟩, ⟨D, at_, rfl⟩⟩
        · show (g.mu ++ [D] ++ g.nu).Nodup
          rw [List.append_assoc, List.nodup_append]
          refine ⟨nd.1, List.nodup_cons.mpr ⟨fun h => nW (.inr h), nd.2.1⟩, fun a ha b hb e => ?_⟩
          subst e
          rcases List.mem_cons.mp hb with e | hb
          · exact nW (.inl (e ▸ ha))
          · exact nd.2.2 a ha a hb rfl
        · rcases wW a w with w | w
          · exact r.np a w (.inl q)
          · exact nP (w ▸ q)
        · have e1 : (g.mu ++ [D])[i]? = some a := e1
          have e2 : (s.F ++ [Cell.li ds])[i]? = some c := e2
          by_cases hi : i < s.F.length
          · rw [List.getElem?_append_left (by rw [r.lf]; exact hi)] at e1
            rw [List.getElem?_append_left hi] at e2
            have q := r.f i a c e1 e2
            cases c with
            | di _ => obtain ⟨z, zs, q1, q2⟩ := q; exact ⟨z, zs, q1, q2.less hM⟩
            | li l => obtain ⟨z, zs, q1, q2⟩ := q; exact ⟨z, zs, q1, q2.less hM⟩
          · rw [List.getElem?_append_right (by omega)] at e2
            have hi2 : i = s.F.length := by
              have := (List.getElem?_eq_some_iff.mp e2).1
              simp at this
              omega
            subst hi2
            have e3 : D = a := Option.some.inj (at_.symm.trans e1)
            subst e3
            simp at e2
            subst e2
            exact ⟨by rw [← d.length]; exact hz, xs, hD, d.less hM⟩
        · obtain ⟨zs, q1, q2⟩ := r.n i a vs e1 e2
          exact ⟨zs, q1, q2.less hM pm List.prefix_rfl⟩
      | ne => exact absurd rfl hm
  cases m with
  | fr => exact fl .fr (by decide) e
  | fl => exact fl .fl (by decide) e
  | ne =>
    injection e with e1 e2
    subst e1; subst e2
    have pn : g.nu <+: (⟨g.mu, g.nu ++ [D]⟩ : Wd).nu := List.prefix_append _ _
    have wW : ∀ a, (⟨g.mu, g.nu ++ [D]⟩ : Wd).W a → g.W a ∨ a = D := fun a w => w.elim (fun w => .inl (.inl w)) fun w => (List.mem_append.mp w).elim (fun w => .inl (.inr w)) fun w => .inr (List.mem_singleton.mp w)
    have hM : ∀ a, Ms Pr (⟨g.mu, g.nu ++ [D]⟩ : Wd) a → Ms (PrD Pr D) g a := fun a m => m.elim (fun w => (wW a w).elim .inl fun w => .inr (.inr w)) fun w => .inr (.inl w)
    have at_ : (g.nu ++ [D])[s.N.length]? = some D := by rw [← r.ln]; simp
    refine ⟨⟨g.mu, g.nu ++ [D]⟩, List.prefix_rfl, pn, wW, ⟨r.lf, by simp [r.ln], ?_, fun a w q => ?_, fun a q => r.pr a (.inl q), fun i a c e1 e2 => ?_, fun i a vs e1 e2 => ?_⟩, ⟨D, at_, rfl⟩⟩
    · show (g.mu ++ (g.nu ++ [D])).Nodup
      rw [← List.append_assoc, List.nodup_append]
      refine ⟨r.nd, by simp, fun a ha b hb e => ?_⟩
      subst e
      have e := List.mem_singleton.mp hb
      exact nW ((List.mem_append.mp (e ▸ ha)).elim .inl .inr)
    · rcases wW a w with w | w
      · exact r.np a w (.inl q)
      · exact nP (w ▸ q)
    · have q := r.f i a c e1 e2
      cases c with
      | di _ => obtain ⟨z, zs, q1, q2⟩ := q; exact ⟨z, zs, q1, q2.less hM⟩
      | li l => obtain ⟨z, zs, q1, q2⟩ := q; exact ⟨z, zs, q1, q2.less hM⟩
    · have e1 : (g.nu ++ [D])[i]? = some a := e1
      have e2 : (s.N ++ [l])[i]? = some vs := e2
      by_cases hi : i < s.N.length
      · rw [List.getElem?_append_left (by rw [r.ln]; exact hi)] at e1
        rw [List.getElem?_append_left hi] at e2
        obtain ⟨zs, q1, q2⟩ := r.n i a vs e1 e2
        exact ⟨zs, q1, q2.less hM List.prefix_rfl pn⟩
      · rw [List.getElem?_append_right (by omega)] at e2
        have hi2 : i = s.N.length := by
          have := (List.getElem?_eq_some_iff.mp e2).1
          simp at this
          omega
        subst hi2
        have e3 : D = a := Option.some.inj (at_.symm.trans e1)
        subst e3
        simp at e2
        subst e2
        exact ⟨xs, hD, h.less hM List.prefix_rfl pn⟩
end
section
variable {X : Cx} {c : Ctx} {pos : Pos}
/-- a comprehension's turn -/
def lcF (c : Ctx) (elt : E) (tg : Tg) (cond : Option E) (own : List Nat) (σ : Env) : Val → Sto → R (Option Val) := fun x s2 => match putVal tg x (wipe σ own) with
  | none => .bad
  | some σ2 => (match cond with
    | none => R.ok true s2
    | some t => tst (evE c t σ2 s2)).bd fun b s3 => if b = true then (evE c elt σ2 s3).bd fun y s4 => .ok (some y) s4 else .ok none s3
theorem ev_lc {m : Mode} {elt it : E} {tg : Tg} {cond : Option E} {own : List Nat} : evE c (.lc m elt tg it cond own) = fun σ s => (evE c it σ s).bd fun v s1 => (loopC (lcF c elt tg cond own σ) v c.fuel 0 s1 []).bd fun vs s5 => mkV m vs s5 := by
  funext σ s; rw [evE]; rfl
def cnd (c : Ctx) (cond : Option E) : Env → Sto → R Bool := fun σ s => match cond with
  | none => R.ok true s
  | some t => tst (evE c t σ s)
abbrev Pts (X : Cx) (c : Ctx) (ifs : List Expr) (cond : Option E) : Prop := PTs X ifs (tT X.K (cnd c cond))
theorem PTs.imp {X : Cx} {e : List Expr} {t t' : TT} (h : PTs X e t) (i : ∀ σ H Q, t' σ H Q → t σ H Q) : PTs X e t' := ⟨fun pins s σ H Q I hw => h.run pins s σ H Q I (i _ _ _ hw)⟩
theorem ec_nil : Pts X c [] none := PTs.imp pts_nil fun σ H Q h => by
  obtain ⟨Pr, g, s, σa, b, s', R0, S0, e, k⟩ := h
  injection e with e1 e2
  subst e1; subst e2
  exact k H g Ext.refl R0
theorem ec_one {t : Expr} {et : E} (h : Pt X c t et) : Pts X c [t] (some et) := pts_one h
theorem loopC_step {f : Val → Sto → R (Option Val)} {v : Val} {m i : Nat} {s s' : Sto} {acc vs : List Val} (e : loopC f v m i s acc = .ok vs s') : ∃ m', m = m' + 1 ∧ ((nth s v i = some none ∧ vs = acc ∧ s' = s) ∨
    ∃ x z s1, nth s v i = some (some x) ∧ f x s = .ok z s1 ∧ match z with
      | some y => acc.length < sizeMax ∧ loopC f v m' (i + 1) s1 (acc ++ [y]) = .ok vs s'
      | none => loopC f v m' (i + 1) s1 acc = .ok vs s') := by
  cases m with
  | zero => rw [loopC] at e; cases e
  | succ m =>
    refine ⟨m, rfl, ?_⟩
    rw [loopC] at e
    cases h : nth s v i with
    | none => simp only [h] at e; cases e
    | some o =>
      cases o with
      | none => simp only [h] at e; cases e; exact .inl ⟨rfl, rfl, rfl⟩
      | some x =>
        simp only [h] at e
        obtain ⟨z, s1, e1, e⟩ := R.bd_eq e
        refine .inr ⟨x, z, s1, rfl, e1, ?_⟩
        cases z with
        | none => exact e
        | some y =>
          simp only at e
          by_cases hz : acc.length < sizeMax
          · rw [if_pos hz] at e; exact ⟨hz, e⟩
          · rw [if_neg hz] at e; cases e
theorem lc_read {etg : Tg} {eit eelt : E} {cond : Option E} {own : List (Str × Nat)} {m : Mode} (hown : ∀ i ∈ etg.slots, i ∈ own.map (·.2)) {σ : L2.St} {H : Hp} {Q : VK}
    (h : tR X.K (evE c (.lc m eelt etg eit cond (own.map (·.2)))) σ H Q) : tLc (iV X.K (evE c eit)) (gT X.K etg) (tT X.K (cnd c cond)) (tR X.K (evE c eelt)) (own.map (·.2)) σ H Q := by
  obtain ⟨Pr, g, s, σa, u, s', R0, S0, e, k⟩ := h
  rw [ev_lc] at e
  obtain ⟨v, s1, e1, e⟩ := R.bd_eq e
  obtain ⟨vs, s5, e2, e3⟩ := R.bd_eq e
  obtain ⟨_, hm, hst⟩ := loopC_step e2
  have hn0 : nth s1 v 0 ≠ none := by
    rcases hst with ⟨h, _⟩ | ⟨_, _, _, h, _⟩ <;> rw [h] <;> exact fun z => nomatch z
  refine ⟨Pr, g, s, σa, v, s1, R0, S0, e1, hn0, fun J H1 g1 X1 R1 IJ D hD => ?_⟩
  have S1 := S0.ext R0 X1
  have px : PrX Pr (PrD Pr D) H1 := prx_D hD
  have x0 : Ext g1 H1 g1 (upd H1 D (.lst [])) := ext_new hD
  have nP : ¬ Pr D := fun q => by
    obtain ⟨ys, z⟩ := R1.pr D q
    rw [hD] at z; cases z
  refine ⟨fun i m H' => ∃ g2 s2 acc xs, Ext g1 H1 g2 H' ∧ Rl X.K (PrD Pr D) g2 s2 H' ∧ SR X.K (PrD Pr D) g2 H' σa σ ∧ H' D = some (.lst xs) ∧ VRs X.K (PrD Pr D) g2 H' acc xs ∧ acc.length ≤ sizeMax ∧ loopC (lcF c eelt etg cond (own.map (·.2)) σa) v m i s2 acc = .ok vs s5,
    ⟨c.fuel, g1, s1, [], [], x0, R1.prot hD [], S1.ext2 R1 px x0, upd_same, .nil, Nat.zero_le _, e2⟩, ?_⟩
  rintro i m H' ⟨g2, s2, acc, xs, X2, R2, S2, hD2, V2, hz0, e4⟩
  have IJ' := IJ (PrD Pr D) g2 H' s2 px X2 R2 i
  obtain ⟨m', rfl, ⟨h1, rfl, rfl⟩ | ⟨x, z, s3, h1, h2, h3⟩⟩ := loopC_step e4
  · refine .inl ⟨IJ'.1 h1, ?_⟩
    have hz : xs.length ≤ sizeLine := by rw [← V2.length, ← sizeMax_eq]; exact hz0
    obtain ⟨g3, pm, pn, wW, R3, V3⟩ := mkV_at R2 nP e3 hD2 V2 hz
    refine k _ H' g3 (X1.trans ⟨X2.pm.trans pm, X2.pn.trans pn, X2.keep, fun a w n => ?_⟩) R3 V3
    rcases wW a w with w | w
    · exact X2.new a w n
    · rw [w]; exact hD
  · obtain ⟨go, yl⟩ := IJ'.2 x h1
    refine .inr ⟨go, fun H' => ∃ g2 s2 acc xs, Ext g1 H1 g2 H' ∧ Rl X.K (PrD Pr D) g2 s2 H' ∧ SR X.K (PrD Pr D) g2 H' σa σ ∧ H' D = some (.lst xs) ∧ VRs X.K (PrD Pr D) g2 H' acc xs ∧ acc.length ≤ sizeMax ∧ loopC (lcF c eelt etg cond (own.map (·.2)) σa) v m' (i + 1) s2 acc = .ok vs s5,
      fun H' w => ⟨m', Nat.lt_succ_self _, w⟩, fun w H3 yv => ?_⟩
    obtain ⟨X3, R3, V3⟩ := yl w H3 yv
    have hD3 := X3.keep D _ hD2 fun w => R2.np D w (.inr rfl)
    unfold lcF at h2
    cases h4 : putVal etg x (Em.wipe σa (own.map (·.2))) with
    | none => simp only [h4] at h2; cases h2
    | some σ2 =>
      simp only [h4] at h2
      obtain ⟨b, s4, h5, h6⟩ := R.bd_eq h2
      refine ⟨PrD Pr D, g2, s2, Em.wipe σa (own.map (·.2)), x, σ2, R3, (S2.ext R2 X3).wipe _, V3, h4, fun σ3 S3 W3 => ⟨?_, PrD Pr D, g2, s2, σ2, b, s4, R3, S3, h5, fun H4 g4 X4 R4 => ?_⟩⟩
      · rw [W3 _ hown]
        have ww : ∀ (vs ws : List Nat) (σ : L2.St), (∀ i ∈ ws, i ∈ vs) → L2.wipe (L2.wipe σ ws) vs = L2.wipe σ vs := by
          intro vs ws
          induction ws with
          | nil => intro σ _; rfl
          | cons a as ih =>
            intro σ h
            show L2.wipe ((L2.wipe σ as).set a none) vs = _
            rw [wipe_set (h a List.mem_cons_self), ih σ fun i hi => h i (List.mem_cons_of_mem _ hi)]
        exact ww _ _ σ fun i hi => hi
      · have hD4 := X4.keep D _ hD3 fun w => R3.np D w (.inr rfl)
        have X34 := X3.trans X4
        cases b with
        | false =>
          have h6 : R.ok (none : Option Val) s4 = .ok z s3 := h6
          injection h6 with h7 h8
          subst h7; subst h8
          exact ⟨g4, s4, acc, xs, X2.trans X34, R4, S2.ext R2 X34, hD4, V2.ext R2 X34, hz0, h3⟩
        | true =>
          have h6 : ((evE c eelt σ2 s4).bd fun y s4 => R.ok (some y) s4) = .ok z s3 := h6
          obtain ⟨y, s6, h7, h8⟩ := R.bd_eq h6
          injection h8 with h9 h10
          subst h9; subst h10
          refine ⟨PrD Pr D, g4, s4, σ2, y, s6, R4, S3.ext R3 X4, h7, fun w5 H5 g5 X5 R5 V5 => ?_⟩
          have hD5 := X5.keep D _ hD4 fun w => R4.np D w (.inr rfl)
          have X35 := X34.trans X5
          have hlen := V2.length
          refine ⟨xs, hD5, by rw [← hlen, ← sizeMax_eq]; exact h3.1, g5, s6, acc ++ [y], xs ++ [w5], ?_, R5.prW (.inr rfl) hD5, (S2.ext R2 X35).prW (.inr rfl) hD5, upd_same, ?_, by rw [List.length_append, List.length_singleton]; exact h3.1, h3.2⟩
          · have X25 := X2.trans X35
            refine ⟨X25.pm, X25.pn, fun a o q n => ?_, X25.new⟩
            rw [upd_ne (ne_of_none q hD)]
            exact X25.keep a o q n
          · exact ((V2.ext R2 X35).append (.cons V5 .nil)).prW (.inr rfl) hD5
theorem em_lc {elt tg it : Expr} {ifs : List Expr} {scope : Scope} {own : List (Str × Nat)} {etg : Tg} {eit eelt : E} {cond : Option E} {m : Mode} (hc : X.calm = true) (hN : X.N.Nodup) (ok : BlkOk X.N X.env.scope scope own) (hi : Pi X c tg it eit)
    (hg : ∀ (s : Shared) (H : Hp) (C : Addr) (cl : List (Str × Addr)) (fp : List Addr), Pg (X.blk s H scope (compEnvC scope cl C X.env) fp) tg etg) (ht : ∀ (s : Shared) (H : Hp) (C : Addr) (cl : List (Str × Addr)) (fp : List Addr), Pts (X.blk s H scope (compEnvC scope cl C X.env) fp) c ifs cond)
    (he : ∀ (s : Shared) (H : Hp) (C : Addr) (cl : List (Str × Addr)) (fp : List Addr), Pe (X.blk s H scope (compEnvC scope cl C X.env) fp) c elt eelt) (hown : ∀ i ∈ etg.slots, i ∈ own.map (·.2) := by decide) (hs : ∀ x, foldedSetIterable it X.env x = pure x := by intro _; rfl) :
    Pe X c (.ListComp elt [⟨tg, it, ifs, 0⟩] scope pos) (.lc m eelt etg eit cond (own.map (·.2))) :=
  PE.imp (pe_lc hc hN hi ok hg ht he hs) fun σ H Q h => lc_read hown h
theorem st_setLc {i : Nat} {y : Str} {py spos : Pos} {elt tg it : Expr} {ifs : List Expr} {scope : Scope} {own : List (Str × Nat)} {etg : Tg} {eit eelt : E} {cond : Option E} {m : Mode} {n0 : Nat} (hc : X.calm = true) (hN : X.N.Nodup) (hy : X.N[i]? = some y)
    (hsw : swapsWith (.ListComp elt [⟨tg, it, ifs, 0⟩] scope pos) (some (.Name y py)) spos.line X.env = pure true) (ok : BlkOk X.N X.env.scope scope own) (hi : Pi X c tg it eit)
    (hg : ∀ (s : Shared) (H : Hp) (C : Addr) (cl : List (Str × Addr)) (fp : List Addr), Pg (X.blk s H scope (compEnvC scope cl C X.env) fp) tg etg) (ht : ∀ (s : Shared) (H : Hp) (C : Addr) (cl : List (Str × Addr)) (fp : List Addr), Pts (X.blk s H scope (compEnvC scope cl C X.env) fp) c ifs cond)
    (he : ∀ (s : Shared) (H : Hp) (C : Addr) (cl : List (Str × Addr)) (fp : List Addr), Pe (X.blk s H scope (compEnvC scope cl C X.env) fp) c elt eelt) (hyl : X.env.scope.names.lookup y = some .local := by rfl) (hown : ∀ i ∈ etg.slots, i ∈ own.map (·.2) := by decide) (hs : ∀ x, foldedSetIterable it X.env x = pure x := by intro _; rfl) :
    Ps X c n0 (.Assign [.Name y py] (.ListComp elt [⟨tg, it, ifs, 0⟩] scope pos) spos) (.asg (.slot i) (.lc m eelt etg eit cond (own.map (·.2)))) :=
  PS.imp (ps_setLc hc hN hy hyl hsw hi ok hg ht he hs) fun D σ H h => by
    obtain ⟨Pr, g, s, σa, u, s', R0, S0, e, k⟩ := asg_imp h
    refine lc_read hown ⟨Pr, g, s, σa, u, s', R0, S0, e, fun v H' g' X' R' V' => ?_⟩
    obtain ⟨Pr2, g2, s2, σb, x, σ', R2, S2, V2, e2, k2⟩ := k v H' g' X' R' V'
    obtain ⟨_, rfl⟩ := put_slot e2
    exact k2 _ (S2.set V2) fun vs h => wipe_set (h i (by rw [Tg.slots]; exact List.mem_singleton_self i))
/-! ### o[i] = e -/
theorem setV_cases {x y : Val} {p : PyData} {s s' : Sto} {u : Unit} (e : setV x y p s = .ok u s') : ∃ j i l k, x = .fl j ∧ y = .d (.int i) ∧ s.F[j]? = some (.li l) ∧ place l.length i = some k ∧ s' = { s with F := s.F.set j (.li (l.set k p)) } := by
  cases x with
  | fl j =>
    cases y with
    | d q =>
      cases q with
      | int i =>
        have e : (match s.F[j]? with
          | some (.li l) => match place l.length i with
            | some k => R.ok () { s with F := s.F.set j (.li (l.set k p)) }
            | none => .bad
          | _ => .bad) = R.ok u s' := e
        cases h : s.F[j]? with
        | none => rw [h] at e; cases e
        | some cc =>
          rw [h] at e
          cases cc with
          | di _ => cases e
          | li l =>
            simp only at e
            cases h2 : place l.length i with
            | none => simp only [h2] at e; cases e
            | some k =>
              simp only [h2] at e
              injection e with _ e2
              exact ⟨j, i, l, k, rfl, rfl, h, h2, e2.symm⟩
      | _ => cases e
    | _ => cases e
  | _ => cases y <;> first | cases e | (rename_i q; cases q <;> cases e)
def rSet (K : PySem.W.Frag) : TSet := fun vo vi vv H Q => ∃ (Pr : Addr → Prop) (g : Wd) (s : Sto) (x y : Val) (p : PyData) (u : Unit) (s' : Sto), Rl K Pr g s H ∧ VR K Pr g H x vo ∧ VR K Pr g H y vi ∧ Dq K (Ms Pr g) H vv p ∧ setV x y p s = .ok u s' ∧
  ∀ H', Ext g H g H' → Rl K Pr g s' H' → Q H'
theorem pset_rule : PSet X (rSet X.K) := by
  intro pins s σ H vo vi vv ov iv u Q I ro ri rv h
  obtain ⟨Pr, g, st, x, y, p, w, s', R0, V1, V2, V3, e, k⟩ := h
  obtain ⟨j, i, l, kk, rfl, rfl, h1, h2, rfl⟩ := setV_cases e
  obtain ⟨a, ea, rfl⟩ := V1
  cases V2
  obtain ⟨z, xs, q1, q2⟩ := R0.f j a _ ea h1
  have hl := q2.length
  obtain ⟨x1, r1⟩ := write_mu R0 ea (q2.set V3 kk) (by rw [List.length_set]; exact z)
  exact set_list pins s σ H _ _ _ ov iv u Q I ro ri rv ⟨a, xs, i, kk, rfl, rfl, q1, by rw [hl]; exact h2, k _ x1 r1⟩
theorem st_asgx {o i e : Expr} {eo ei ee : E} {n0 : Nat} {tpos : Pos} (ho : Pe X c o eo) (hi : Pe X c i ei) (he : Pe X c e ee)
    (ha : ∀ v, assign (.Subscript o i tpos) X.env v = (do
      let ov ← holding [v] (eval o X.env)
      let iv ← holding [v, ov] (eval i X.env)
      standAt tpos
      holding [v, ov, iv] (setItem ov iv v)
      release [v, ov, iv] []) := by intro _; rfl)
    (hs : swapsWithSole [.Subscript o i tpos] e pos.line X.env = pure false := by rfl) (hw : swappedStores [.Subscript o i tpos] e X.env = pure none := by rfl)
    (h1 : (assignEach [.Subscript o i tpos] X.env).map (·.2) = [assign (.Subscript o i tpos) X.env] := by rfl) : Ps X c n0 (.Assign [.Subscript o i tpos] e pos) (.asgx eo ei ee) :=
  PS.imp (ps_asg he (pg_sub ho hi pset_rule ha) hs hw h1) fun D σ H h => by
    obtain ⟨Pr, g, s, σa, y, s', hn, R0, S0, e, k⟩ := h
    rw [es_asgx] at e
    obtain ⟨v, s1, e1, e⟩ := R.bd_eq e
    refine ⟨Pr, g, s, σa, v, s1, R0, S0, e1, fun w H1 g1 X1 R1 V1 => ?_⟩
    cases v with
    | d p =>
      have e : ((evE c eo σa s1).bd fun x s2 => (evE c ei σa s2).bd fun y s3 => (setV x y p s3).bd fun _ s4 => R.ok ((Fl.nx, σa) : Fl × Env) s4) = .ok y s' := e
      obtain ⟨x, s2, e2, e⟩ := R.bd_eq e
      obtain ⟨z, s3, e3, e⟩ := R.bd_eq e
      obtain ⟨t, s4, e4, e⟩ := R.bd_eq e
      injection e with e5 e6
      subst e5; subst e6
      exact ⟨Pr, g1, s1, σa, x, s2, R1, S0.ext R0 X1, e2, fun w2 H2 g2 X2 R2 V2 => ⟨Pr, g2, s2, σa, z, s3, R2, (S0.ext R0 X1).ext R1 X2, e3, fun w3 H3 g3 X3 R3 V3 =>
        ⟨Pr, g3, s3, x, z, p, t, s4, R3, V2.ext R2 X3, V3, ((show Dq X.K (Ms Pr g1) H1 w p from V1).ext R1 X2).ext R2 X3, e4, fun H4 X4 R4 => k σ H4 g3 (((X1.trans X2).trans X3).trans X4) R4 ((((S0.ext R0 X1).ext R1 X2).ext R2 X3).ext R3 X4)⟩⟩⟩
    | _ => cases e
end
end Em
end

section
set_option Elab.async false
set_option linter.all false
set_option maxRecDepth 100000
set_option maxHeartbeats 400000
/-! EmO: defs and their calls. -/
namespace Em
open PySem PySem.Spec PyProof.Rows L2
/-- a def keeps its promise (nothing is raised); no guard is open around the call -/
structure FnG (P : Program) (w : World) (K : PySem.W.Frag) (mg : Str → Option Value) (base : Heap) (k : Nat) (f : Addr) (fd : FuncData) (ps : List Str) (sp : Sp) : Prop where
  len : ∀ vs H Q E, sp vs H Q E → vs.length = ps.length
  run : ∀ (A : Around) (outer : List PySem.Env) (s : Shared) (H : Hp) (args : Args) (us : List Value) (vs : List V) (Q : VK) (E : XK), Room k A → A.guards = some [] → Env0 P w K mg base A outer s H → BindsTo s fd args (ps.zip us) → Vals vs us → sp vs H Q E →
    codeAny (model P w) A (.call (.ref f) args) (L2.CR C8.CX0 outer P w H s Q E) s
theorem deeper_guards (A : Around) (env : PySem.Env) : (A.deeper env).guards = A.guards := rfl
theorem fn_ofG {P : Program} {w : World} {K : PySem.W.Frag} {mg : Str → Option Value} {base : Heap} {k : Nat} {f : Addr} {name qual : Str} {params : Arguments} {body : List Stmt} {scope : Scope} {dV kV doc pm cdv ct oc : Value} {an od : Option Addr}
    {osl : Array (Option Value)} {N ps : List Str} {sp : Sp} (lk : K.lookup f = some ⟨oc, od, .func (PySem.W.fnOf name qual params body scope dV kV doc pm an cdv ct), osl⟩) (hcd : PySem.W.codeIn K cdv qual = true) (S : FnScope N ps scope)
    (len : ∀ vs H Q E, sp vs H Q E → vs.length = ps.length)
    (hbody : ∀ (A : Around) (outer : List PySem.Env) (s : Shared) (H : Hp) (vs : List V) (Q : VK) (E : XK), Room k (A.deeper (envOfC qual scope s.heap.objs.size f cdv)) → A.guards = some [] → sp vs H Q E →
      ∃ t, PSs (cxOf C8.CX0 P w K mg base N qual scope f cdv A outer s H E) body t ∧ t { nx := fun _ H' => Q .non H', rt := Q } (L2.start N vs) H) :
    FnG P w K mg base (k + 1) f (PySem.W.fnOf name qual params body scope dV kV doc pm an cdv ct) ps sp := by
  refine ⟨len, fun A outer s H args us vs Q E hr hgd e0 hb r hsp => ?_⟩
  have hl := len _ _ _ _ hsp
  have KX : K.In s.heap := e0.mod.kin.keeps fun b o e => (e0.bs b o e).1
  have lim : s.heap.NoLimit := e0.mod.nolimit.keeps fun b o e => (e0.bs b o e).1
  have hkind : ∀ y ∈ ps.zip us, scope.names.lookup y.1 = some .local ∨ (scope.names.lookup y.1 = some .cell ∧ ((cellsFrom (s.heap.objs.size + 1) scope.names []).lookup y.1).isSome = true) := fun ⟨n, v⟩ hy => by
    rcases S.par n (List.of_mem_zip hy).1 with q | q
    · exact .inl q
    · exact .inr ⟨q, PySem.W.cellsFrom_some _ _ _ (.inl q)⟩
  refine codeAny_call_function hr.depth (KX _ _ lk) rfl S.co S.gen rfl (PySem.W.codeRec_of KX hcd) (hb _ _ _ _ ?_)
  refine wpAny_newFunctionEnv_cells S.kind hkind fun env he s1 x => ?_
  subst he
  refine ⟨lim.keeps x.toInCall.keep, codeAny_func ?_⟩
  obtain ⟨t, ht, hq⟩ := hbody A outer s H vs Q E (hr.deeper _) hgd hsp
  have I : L2.Inv (cxOf C8.CX0 P w K mg base N qual scope f cdv A outer s H E) [] (L2.start N vs) H s1 := inv_start S hr.hd e0 hl r x
  refine wpAny_mono (ht.run [] s1 (L2.start N vs) H _ I hq) (fun fl s' hs => ?_) fun e s' hs => hs
  have fin : ∀ {σ' : L2.St} {H' : Hp} {v : V} {u : Value}, L2.Inv (cxOf C8.CX0 P w K mg base N qual scope f cdv A outer s H E) [] σ' H' s' → RelV v u → Q v H' → CE outer P w H s Q u s' :=
    fun {σ' H' v u} J rv q => ⟨v, H', J.os, J.bare, J.base, J.hok, rv, q⟩
  cases fl with
  | ret u =>
    obtain ⟨v, σ', H', J, rv, q⟩ := hs
    exact fin J rv q
  | next =>
    obtain ⟨σ', H', J, q⟩ := hs
    exact fin (v := V.non) (u := Value.none) J rfl q
  | brk =>
    obtain ⟨_, _, _, q⟩ := hs
    exact False.elim q
  | cont =>
    obtain ⟨_, _, _, q⟩ := hs
    exact False.elim q
section
variable {X : Cx} {k n : Nat} {f : Addr} {fd : FuncData} {ps ks : List Str} {sp : Sp} {x : Str} {p pos : Pos} {e : Expr} {es : List Expr} {kws : List Keyword} {t tk : TA} {g : List Value → List Value → List Value} {gV : List V → List V → List V}
theorem run_fnG {pins : List (Addr × Obj)} {σ : L2.St} {H : Hp} {s : Shared} {Q : VK} {args : Args} {us : List Value} {vs : List V} (F : FnG X.prog X.w X.K X.mg X.base k f fd ps sp) (hr : Room k X.A) (hgd : X.A.guards = some []) (hb : BindsTo s fd args (ps.zip us))
    (I : L2.Inv X pins σ H s) (r : Vals vs us) (h : sp vs H Q C8.E0) : codeAny (model X.prog X.w) X.A (.call (.ref f) args) (fun r s' => match r with
      | .ok (.ret u) => EP X pins σ Q u s'
      | .ok _ => False
      | .error e => X.xe e s') s :=
  codeAny_mono (F.run X.A X.stack s H args us vs Q C8.E0 hr hgd I.env0 hb r h) fun r s' hq => by
    cases r with
    | error e => exact False.elim hq
    | ok fl =>
      cases fl with
      | ret u => exact I.after hq
      | next => exact False.elim hq
      | brk => exact False.elim hq
      | cont => exact False.elim hq
theorem call_fnG {pins : List (Addr × Obj)} {σ : L2.St} {H : Hp} {s : Shared} {Q : VK} {as : List Value} {kw : List (Str × Value)} {us : List Value} {vs : List V} (F : FnG X.prog X.w X.K X.mg X.base k f fd ps sp) (hr : Room k X.A) (hgd : X.A.guards = some []) (hb : BindsTo s fd ⟨as, kw⟩ (ps.zip us))
    (I : L2.Inv X pins σ H s) (r : Vals vs us) (h : sp vs H Q C8.E0) : wpAny (model X.prog X.w) X.A (call (.ref f) as kw) (EP X pins σ Q) X.xe s := by
  refine wpAny_call (codeAny_mono (run_fnG (pins := pins) (σ := σ) F hr hgd hb I r h) fun r s' hq => ?_)
  cases r with
  | error e => exact hq
  | ok fl =>
    cases fl with
    | ret u => exact hq
    | next => exact False.elim hq
    | brk => exact False.elim hq
    | cont => exact False.elim hq
def tCallG (sp : Sp) (t : TA) : TE := fun σ H Q => t σ H fun vs H1 => sp vs H1 Q C8.E0
theorem pe_callG (F : FnG X.prog X.w X.K X.mg X.base k f fd ps sp) (hr : Room k X.A) (hgd : X.A.guards = some []) (hg : Gl X x) (hm : X.mg x = some (.ref f)) (hk : PySem.W.keepIn X.K (.ref f) = true) (hb : Binds X.K fd ps [])
    (ha : PA X (e :: es) t) (hdb : (x == ("__debug__" : Str)) = false := by decide) (he : starEach (e :: es) X.env = (false, eval e X.env) :: starEach es X.env := by rfl) (hpl : (backTo pos (starEach es X.env)).any (·.1) = false := by rfl) :
    PE X (.Call (.Name x p) (e :: es) [] pos) (tCallG sp t) := by
  refine ⟨fun pins s σ H Q I h => ?_⟩
  refine wpAny_Call_Name_kw (ld_glob I hg hm ?_ hdb)
  refine PySem.W.callWith_K (h₀ := X.base) I.ok.mod.kin hk (thn (ha.run pos pins s σ H _ I h) fun us s1 ⟨vs, H1, I1, r, q⟩ => ⟨I1.kIn, ?_⟩) he hpl
  have b := hb s1 us I1.kIn (by rw [List.append_nil, ← r.length]; exact F.len _ _ _ _ q)
  rw [List.append_nil] at b
  exact call_fnG F hr hgd b I1 r q
theorem pe_callG0 (F : FnG X.prog X.w X.K X.mg X.base k f fd ps sp) (hr : Room k X.A) (hgd : X.A.guards = some []) (hg : Gl X x) (hm : X.mg x = some (.ref f)) (hk : PySem.W.keepIn X.K (.ref f) = true) (hb : Binds X.K fd ps [])
    (hdb : (x == ("__debug__" : Str)) = false := by decide) : PE X (.Call (.Name x p) [] [] pos) (tCallG sp tNil) := by
  refine ⟨fun pins s σ H Q I h => ?_⟩
  refine wpAny_Call_Name_kw (ld_glob I hg hm ?_ hdb)
  have b := hb s [] I.kIn (by exact F.len _ _ _ _ h)
  rw [List.append_nil] at b
  exact PySem.W.callWith_K0 I.kIn hk (call_fnG F hr hgd b I .nil h)
/-- with keywords -/
def tCallKG (n m : Nat) (sp : Sp) (gV : List V → List V → List V) (t tk : TA) : TE := fun σ H Q => t σ H fun vs H1 => tk σ H1 fun zs H2 => vs.length = n ∧ zs.length = m ∧ sp (gV vs zs) H2 Q C8.E0
theorem pe_callKG (F : FnG X.prog X.w X.K X.mg X.base k f fd ps sp) (hr : Room k X.A) (hgd : X.A.guards = some []) (hg : Gl X x) (hm : X.mg x = some (.ref f)) (hk : PySem.W.keepIn X.K (.ref f) = true) (hb : KBn X.K fd ps n ks g gV)
    (ha : PA X (e :: es) t) (hkw : PK X kws tk) (hall : (backToKw pos (keywordEach kws X.env)).all (·.1.isSome) = true := by rfl) (hks : (backToKw pos (keywordEach kws X.env)).filterMap (·.1) = ks := by rfl)
    (hdb : (x == ("__debug__" : Str)) = false := by decide) (he : starEach (e :: es) X.env = (false, eval e X.env) :: starEach es X.env := by rfl)
    (hpl : ((backTo pos (starEach (e :: es) X.env)).any (·.1) || (backToKw pos (keywordEach kws X.env)).any (·.1.isNone)) = false := by rfl) :
    PE X (.Call (.Name x p) (e :: es) kws pos) (tCallKG n ks.length sp gV t tk) := by
  refine ⟨fun pins s σ H Q I h => ?_⟩
  refine wpAny_Call_Name_kw (ld_glob I hg hm ?_ hdb)
  refine PySem.W.callWith_KW (h₀ := X.base) I.ok.mod.kin hk hall (thn (ha.run pos pins s σ H _ I h) fun us s1 ⟨vs, H1, I1, r, q⟩ => ?_) hpl he
  refine thn (hkw.run pos pins s1 σ H1 _ I1 q) fun ws s2 ⟨zs, H2, I2, rz, l1, l2, q2⟩ => ⟨I2.kIn, ?_⟩
  rw [hks]
  exact call_fnG F hr hgd (hb.to s2 us ws I2.kIn (r.length.symm.trans l1) (rz.length.symm.trans l2)) I2 (hb.rel r rz) q2
theorem pe_callKG0 (F : FnG X.prog X.w X.K X.mg X.base k f fd ps sp) (hr : Room k X.A) (hgd : X.A.guards = some []) (hg : Gl X x) (hm : X.mg x = some (.ref f)) (hk : PySem.W.keepIn X.K (.ref f) = true) (hb : KBn X.K fd ps 0 ks g gV)
    (hkw : PK X kws tk) (hall : (backToKw pos (keywordEach kws X.env)).all (·.1.isSome) = true := by rfl) (hks : (backToKw pos (keywordEach kws X.env)).filterMap (·.1) = ks := by rfl)
    (hdb : (x == ("__debug__" : Str)) = false := by decide)
    (hpl : ((backTo pos (starEach [] X.env)).any (·.1) || (backToKw pos (keywordEach kws X.env)).any (·.1.isNone)) = false := by rfl) :
    PE X (.Call (.Name x p) [] kws pos) (tCallKG 0 ks.length sp gV tNil tk) := by
  refine ⟨fun pins s σ H Q I h => ?_⟩
  refine wpAny_Call_Name_kw (ld_glob I hg hm ?_ hdb)
  refine PySem.W.callWith_KW0 (h₀ := X.base) I.ok.mod.kin hk hall ?_ hpl
  refine thn (hkw.run pos pins s σ H _ I h) fun ws s2 ⟨zs, H2, I2, rz, l1, l2, q2⟩ => ⟨I2.kIn, ?_⟩
  rw [hks]
  exact call_fnG F hr hgd (hb.to s2 [] ws I2.kIn rfl (rz.length.symm.trans l2)) I2 (hb.rel .nil rz) q2
end
end Em
end

section
set_option Elab.async false
set_option linter.all false
set_option maxRecDepth 100000
set_option maxHeartbeats 400000
/-! EmP: calls of own defs; a def from its body. -/
namespace Em
open PySem PySem.Spec PyProof.Rows L2
/-- the promise: what the evaluator says -/
def spF (K : PySem.W.Frag) (P : Prog) (n f : Nat) (np : Nat) : Sp := fun vs H Q _ => ∃ (Pr : Addr → Prop) (g : Wd) (F : List Cell) (us : List Val) (u : Val) (s' : Sto), us.length = np ∧ Rl K Pr g ⟨F, []⟩ H ∧ VRs K Pr g H us vs ∧ evF P n f us [] F = .ok u s' ∧
  ∀ v H' g', Ext g H g' H' → Rl K Pr g' s' H' → VR K Pr g' H' u v → Q v H'
section
variable {c : Ctx}
theorem ev_call {f : Nat} {m : Mode} {es : List E} {kws : List (Nat × E)} : evE c (.call f m es kws) = fun σ s => (evEs c es σ s).bd fun vs s1 => (evKs c kws σ s1).bd fun ks s2 =>
      if vs.all argOk && ks.all (fun p => argOk p.2) then called m s2 (c.call f vs ks s2.F) else .bad := by funext σ s; rw [evE]; try rfl
theorem evk_nil : evKs c [] = fun _ s => .ok [] s := by funext σ s; rw [evKs]; try rfl
theorem evk_cons {n : Nat} {e : E} {es : List (Nat × E)} : evKs c ((n, e) :: es) = fun σ s => (evE c e σ s).bd fun v s1 => (evKs c es σ s1).bd fun vs s2 => .ok ((n, v) :: vs) s2 := by funext σ s; rw [evKs]; try rfl
end
theorem called_cases {m : Mode} {s s' : Sto} {r : R Val} {u : Val} (e : called m s r = .ok u s') : ∃ w s1, r = .ok w s1 ∧ ((∃ p, w = .d p ∧ u = .d p ∧ s' = { s with F := s1.F }) ∨ (∃ i, w = .fl i ∧ u = .fl i ∧ s' = { s with F := s1.F }) ∨
    ∃ i l, w = .fl i ∧ s.F.length ≤ i ∧ s1.F[i]? = some (.li l) ∧ u = .d (.list l) ∧ s' = { s with F := s1.F.take s.F.length }) := by
  cases r with
  | ok w s1 =>
    refine ⟨w, s1, rfl, ?_⟩
    cases w with
    | d p =>
      have e : R.ok (Val.d p) { s with F := s1.F } = R.ok u s' := e
      injection e with e1 e2
      exact .inl ⟨p, rfl, e1.symm, e2.symm⟩
    | fl i =>
      by_cases hi : i < s.F.length
      · simp only [called, if_pos hi] at e
        injection e with e1 e2
        exact .inr (.inl ⟨i, rfl, e1.symm, e2.symm⟩)
      · cases m with
        | fl =>
          simp only [called, if_neg hi] at e
          injection e with e1 e2
          exact .inr (.inl ⟨i, rfl, e1.symm, e2.symm⟩)
        | fr =>
          simp only [called, if_neg hi] at e
          cases h : s1.F[i]? with
          | none => rw [h] at e; cases e
          | some cc =>
            rw [h] at e
            cases cc with
            | di _ => cases e
            | li l =>
              injection e with e1 e2
              exact .inr (.inr ⟨i, l, rfl, by omega, h, e1.symm, e2.symm⟩)
        | ne => simp only [called, if_neg hi] at e; cases e
    | ne i => cases e
    | sc l => cases e
  | ex _ _ _ => cases e
  | bad => cases e
section
variable {K : PySem.W.Frag} {Pr : Addr → Prop} {g g' : Wd} {H H' : Hp} {s : Sto}
/-- a callee sees the flat lists; the lists of lists are held off -/
def PrN (Pr : Addr → Prop) (g : Wd) (a : Addr) : Prop := Pr a ∨ a ∈ g.nu
theorem ms_in (a : Addr) : Ms (PrN Pr g) ⟨g.mu, []⟩ a ↔ Ms Pr g a := by
  constructor
  · rintro ((h | h) | (h | h))
    · exact .inl (.inl h)
    · exact nomatch h
    · exact .inr h
    · exact .inl (.inr h)
  · rintro ((h | h) | h)
    · exact .inl (.inl h)
    · exact .inr (.inr h)
    · exact .inr (.inl h)
theorem call_in (r : Rl K Pr g s H) : Rl K (PrN Pr g) ⟨g.mu, []⟩ ⟨s.F, []⟩ H := by
  have nd := List.nodup_append.mp r.nd
  refine ⟨r.lf, rfl, by rw [List.append_nil]; exact nd.1, fun a w q => ?_, fun a q => ?_, fun i a c e1 e2 => ?_, fun i a vs e1 _ => by cases e1⟩
  · have w' : a ∈ g.mu := w.elim id fun w => nomatch w
    rcases q with q | q
    · exact r.np a (.inl w') q
    · exact nd.2.2 a w' a q rfl
  · rcases q with q | q
    · exact r.pr a q
    · exact r.wl (.inr q)
  · have q := r.f i a c e1 e2
    cases c with
    | di _ => obtain ⟨z, xs, q1, q2⟩ := q; exact ⟨z, xs, q1, q2.less fun a m => (ms_in a).mp m⟩
    | li l => obtain ⟨z, xs, q1, q2⟩ := q; exact ⟨z, xs, q1, q2.less fun a m => (ms_in a).mp m⟩
theorem call_args {us : List Val} {vs : List V} (h : VRs K Pr g H us vs) (ha : us.all argOk = true) : VRs K (PrN Pr g) ⟨g.mu, []⟩ H us vs := by
  induction h with
  | nil => exact .nil
  | cons h t ih =>
    rename_i u us v vs
    rw [List.all_cons, Bool.and_eq_true] at ha
    refine .cons ?_ (ih ha.2)
    cases u with
    | d p => exact Dq.mono p (show Dq K (Ms Pr g) H v p from h) (fun a xs e n => ⟨e, fun m => n ((ms_in a).mp m)⟩) (fun a xs e => e) fun a e n => ⟨e, fun m => n ((ms_in a).mp m)⟩
    | fl i => exact h
    | ne i => exact absurd ha.1 Bool.false_ne_true
    | sc l =>
      obtain ⟨a, e, h⟩ := h
      exact ⟨a, e, h.elim (fun ⟨h, n⟩ => .inl ⟨h, fun m => n ((ms_in a).mp m)⟩) .inr⟩
/-- behind the call -/
theorem call_out (r : Rl K Pr g s H) {s1 : Sto} (x : Ext ⟨g.mu, []⟩ H g' H') (r' : Rl K (PrN Pr g) g' s1 H') (hN : s1.N = []) :
    Ext g H ⟨g'.mu, g.nu⟩ H' ∧ Rl K Pr ⟨g'.mu, g.nu⟩ ⟨s1.F, s.N⟩ H' ∧ ∀ a, Ms Pr ⟨g'.mu, g.nu⟩ a ↔ Ms (PrN Pr g) g' a := by
  have hnu : g'.nu = [] := List.eq_nil_of_length_eq_zero (by rw [r'.ln, hN]; rfl)
  have nd := List.nodup_append.mp r.nd
  have nd' := List.nodup_append.mp r'.nd
  have W' : ∀ a, g'.W a → a ∈ g'.mu := fun a w => w.elim id fun w => by rw [hnu] at w; cases w
  have hM : ∀ a, Ms Pr ⟨g'.mu, g.nu⟩ a ↔ Ms (PrN Pr g) g' a := by
    intro a
    constructor
    · rintro ((h | h) | h)
      · exact .inl (.inl h)
      · exact .inr (.inr h)
      · exact .inr (.inl h)
    · rintro (h | (h | h))
      · exact .inl (.inl (W' a h))
      · exact .inr h
      · exact .inl (.inr h)
  have X : Ext g H ⟨g'.mu, g.nu⟩ H' := ⟨x.pm, List.prefix_rfl, fun a o e n => x.keep a o e fun w => n (w.elim .inl fun w => nomatch w), fun a w n => x.new a (w.elim .inl fun w => absurd (.inr w) n) fun w => n (w.elim .inl fun w => nomatch w)⟩
  refine ⟨X, ⟨r'.lf, r.ln, ?_, fun a w q => ?_, fun a q => r'.pr a (.inl q), fun i a c e1 e2 => ?_, fun i a vs e1 e2 => ?_⟩, hM⟩
  · show (g'.mu ++ g.nu).Nodup
    rw [List.nodup_append]
    exact ⟨nd'.1, nd.2.1, fun a ha b hb e => r'.np a (.inl ha) (.inr (e ▸ hb))⟩
  · rcases w with w | w
    · exact r'.np a (.inl w) (.inl q)
    · exact r.np a (.inr w) q
  · have q := r'.f i a c e1 e2
    cases c with
    | di _ => obtain ⟨z, xs, q1, q2⟩ := q; exact ⟨z, xs, q1, q2.less fun a m => (hM a).mp m⟩
    | li l => obtain ⟨z, xs, q1, q2⟩ := q; exact ⟨z, xs, q1, q2.less fun a m => (hM a).mp m⟩
  · obtain ⟨xs, q1, q2⟩ := r.n i a vs e1 e2
    have hb := List.mem_of_getElem? e1
    exact ⟨xs, x.keep a _ q1 (fun w => w.elim (fun w => nd.2.2 a w a hb rfl) fun w => nomatch w), q2.ext r X⟩
end
theorem evF_N {P : Prog} {n f : Nat} {vs : List Val} {ks : List (Nat × Val)} {F : List Cell} {u : Val} {s : Sto} (e : evF P n f vs ks F = .ok u s) : s.N = [] := by
  cases n with
  | zero => rw [evF] at e; cases e
  | succ n =>
    rw [evF] at e
    cases h : P.fn f with
    | none => simp only [h] at e; cases e
    | some d =>
      simp only [h] at e
      cases h2 : order d.npar vs ks with
      | none => simp only [h2] at e; cases e
      | some us =>
        simp only [h2] at e
        obtain ⟨y, s1, e1, e⟩ := R.bd_eq e
        obtain ⟨fl, σ⟩ := y
        cases fl with
        | nx => cases e; rfl
        | rt v => cases v <;> cases e <;> rfl
        | bk => cases e
        | ct => cases e
theorem order_nil {n : Nat} {us : List Val} (h : us.length = n) : order n us [] = some us := by
  unfold order
  subst h
  simp
theorem order_len {n : Nat} {vs : List Val} {ks : List (Nat × Val)} {us : List Val} (h : order n vs ks = some us) : vs.length + ks.length = n := by
  unfold order at h
  by_cases hn : vs.length + ks.length = n
  · exact hn
  · rw [if_neg hn] at h; cases h
theorem evF_order {P : Prog} {n f : Nat} {d : Def} (hd : P.fn f = some d) {vs : List Val} {ks : List (Nat × Val)} {us : List Val} (h : order d.npar vs ks = some us) (hl : us.length = d.npar) (F : List Cell) : evF P n f vs ks F = evF P n f us [] F := by
  cases n with
  | zero => rw [evF, evF]
  | succ n => rw [evF, evF]; simp only [hd, h, order_nil hl]
section
variable {X : Cx} {P : Prog} {n k : Nat} {i : Nat} {f : Addr} {fd : FuncData} {ps : List Str} {np : Nat} {x : Str} {p pos : Pos} {e : Expr} {es : List Expr} {eas : List E} {m : Mode}
/-- a call's end, from what the callee gives -/
theorem call_read {us : List Val} {s1 s' : Sto} {u : Val} {vs : List V} {H1 : Hp} {g1 : Wd} {Pr : Addr → Prop} {Q : VK} (R1 : Rl X.K Pr g1 s1 H1) (V1 : VRs X.K Pr g1 H1 us vs) (ha : us.all argOk = true) (hl : us.length = np)
    (e : called m s1 (evF P n i us [] s1.F) = .ok u s') (k : ∀ v H' g', Ext g1 H1 g' H' → Rl X.K Pr g' s' H' → VR X.K Pr g' H' u v → Q v H') : spF X.K P n i np vs H1 Q C8.E0 := by
  obtain ⟨w, s2, ew, hw⟩ := called_cases e
  refine ⟨PrN Pr g1, ⟨g1.mu, []⟩, s1.F, us, w, s2, hl, call_in R1, call_args V1 ha, ew, fun v H' g' X' R' V' => ?_⟩
  obtain ⟨X2, R2, hM⟩ := call_out R1 X' R' (evF_N ew)
  rcases hw with ⟨q, rfl, rfl, rfl⟩ | ⟨j, rfl, rfl, rfl⟩ | ⟨j, l, rfl, hj, h1, rfl, rfl⟩
  · exact k v H' _ X2 R2 (Dq.mono q V' (fun a xs e n => ⟨e, fun m => n ((hM a).mp m)⟩) (fun a xs e => e) fun a e n => ⟨e, fun m => n ((hM a).mp m)⟩)
  · exact k v H' _ X2 R2 V'
  · obtain ⟨a, ea, rfl⟩ := V'
    obtain ⟨z, xs, q1, q2⟩ := R2.f j a _ ea h1
    obtain ⟨r, hr⟩ := X2.pm
    have lm := R1.lf
    have htk : s2.F.take s1.F.length = s2.F.take g1.mu.length := by rw [lm]
    have hpre : g1.mu <+: g'.mu := X2.pm
    have nd2 := List.nodup_append.mp R2.nd
    have na : a ∉ g1.mu := fun hm => by
      obtain ⟨t, ht⟩ := List.mem_iff_getElem?.mp hm
      have ht' := pre_get hpre ht
      have := nd_ix nd2.1 ea ht'
      have := (List.getElem?_eq_some_iff.mp ht).1
      omega
    have x1 : Ext g1 H1 g1 H' := ⟨List.prefix_rfl, List.prefix_rfl, X2.keep, fun a w n => absurd w n⟩
    have hM1 : ∀ b, Ms Pr g1 b → Ms Pr ⟨g'.mu, g1.nu⟩ b := fun b m => m.imp (fun w => w.imp (fun w => hpre.subset w) id) id
    refine k _ H' g1 x1 ⟨?_, R1.ln, R1.nd, R1.np, R2.pr, fun t b cc e1 e2 => ?_, fun t b vs e1 e2 => ?_⟩ (Dq.lst q1 (fun m => ?_) (q2.less hM1))
    · show g1.mu.length = (s2.F.take s1.F.length).length
      have h5 := R2.lf
      have h6 := hpre.length_le
      rw [List.length_take, ← h5]
      show g1.mu.length = min s1.F.length g'.mu.length
      omega
    · have e2 : (s2.F.take s1.F.length)[t]? = some cc := e2
      have ht := (List.getElem?_eq_some_iff.mp e1).1
      rw [List.getElem?_take, if_pos (by omega)] at e2
      have q := R2.f t b cc (pre_get hpre e1) e2
      cases cc with
      | di _ => obtain ⟨z, ys, q3, q4⟩ := q; exact ⟨z, ys, q3, q4.less hM1⟩
      | li l' => obtain ⟨z, ys, q3, q4⟩ := q; exact ⟨z, ys, q3, q4.less hM1⟩
    · obtain ⟨ys, q3, q4⟩ := R2.n t b vs e1 e2
      obtain ⟨zs, q5, q6⟩ := R1.n t b vs e1 e2
      have q7 : H' b = some (.lst zs) := by
        have hb := List.mem_of_getElem? e1
        have nd1 := List.nodup_append.mp R1.nd
        exact X'.keep b _ q5 fun w => w.elim (fun w => nd1.2.2 b w b hb rfl) fun w => nomatch w
      exact ⟨zs, q7, q6.ext R1 x1⟩
    · rcases m with (m | m) | m
      · exact na m
      · exact nd2.2.2 a (List.mem_of_getElem? ea) a m rfl
      · exact R2.np a (.inl (List.mem_of_getElem? ea)) m
theorem em_call (F : FnG X.prog X.w X.K X.mg X.base k f fd ps (spF X.K P n i np)) (hr : Room k X.A) (hgd : X.A.guards = some []) (hg : Gl X x) (hm : X.mg x = some (.ref f)) (hk : PySem.W.keepIn X.K (.ref f) = true) (hb : Binds X.K fd ps [])
    (ha : Pas X ⟨evF P n, P.glob, P.fuel⟩ (e :: es) eas) (hl : eas.length = np := by rfl) (hdb : (x == ("__debug__" : Str)) = false := by decide) (he : starEach (e :: es) X.env = (false, eval e X.env) :: starEach es X.env := by rfl) (hpl : (backTo pos (starEach es X.env)).any (·.1) = false := by rfl) :
    Pe X ⟨evF P n, P.glob, P.fuel⟩ (.Call (.Name x p) (e :: es) [] pos) (.call i m eas []) :=
  PE.imp (pe_callG F hr hgd hg hm hk hb ha hdb he hpl) fun σ H Q h => by
    obtain ⟨Pr, g, s, σa, u, s', R0, S0, e, k⟩ := h
    rw [ev_call] at e
    obtain ⟨us, s1, e1, e⟩ := R.bd_eq e
    obtain ⟨ks, s2, e2, e⟩ := R.bd_eq e
    rw [evk_nil] at e2
    injection e2 with e3 e4
    subst e3; subst e4
    by_cases ho : (us.all argOk && ([] : List (Nat × Val)).all (fun p => argOk p.2)) = true
    · rw [if_pos ho] at e
      rw [Bool.and_eq_true] at ho
      refine ⟨Pr, g, s, σa, us, s1, R0, S0, e1, fun vs H' g' X' R' V' => call_read R' V' ho.1 (by rw [evs_len e1]; exact hl) e fun v H2 g2 X2 R2 V2 => k v H2 g2 (X'.trans X2) R2 V2⟩
    · rw [if_neg ho] at e; cases e
theorem em_call0 (F : FnG X.prog X.w X.K X.mg X.base k f fd ps (spF X.K P n i 0)) (hr : Room k X.A) (hgd : X.A.guards = some []) (hg : Gl X x) (hm : X.mg x = some (.ref f)) (hk : PySem.W.keepIn X.K (.ref f) = true) (hb : Binds X.K fd ps [])
    (hdb : (x == ("__debug__" : Str)) = false := by decide) :
    Pe X ⟨evF P n, P.glob, P.fuel⟩ (.Call (.Name x p) [] [] pos) (.call i m [] []) :=
  PE.imp (pe_callG0 F hr hgd hg hm hk hb hdb) fun σ H Q h => by
    obtain ⟨Pr, g, s, σa, u, s', R0, S0, e, k⟩ := h
    rw [ev_call, evs_nil, evk_nil] at e
    have e : called m s (evF P n i [] [] s.F) = .ok u s' := e
    exact call_read R0 .nil rfl rfl e k
end
end Em
end

section
set_option Elab.async false
set_option linter.all false
set_option maxRecDepth 100000
set_option maxHeartbeats 400000
/-! EmQ: calls with keywords; a def from its body. -/
namespace Em
open PySem PySem.Spec PyProof.Rows L2
/-- the keywords' values behind the positional ones, in the parameters' order -/
def gOrd (perm : List Nat) {α : Type} (us ws : List α) : List α := us ++ perm.filterMap (ws[·]?)
theorem perm_vals {xs : List V} {us : List Value} (h : Vals xs us) : ∀ perm : List Nat, Vals (perm.filterMap (xs[·]?)) (perm.filterMap (us[·]?))
  | [] => .nil
  | i :: is => by
    cases e : xs[i]? with
    | none =>
      rw [List.filterMap_cons_none e, List.filterMap_cons_none (h.none_of e)]
      exact perm_vals h is
    | some x =>
      obtain ⟨u, e2, r⟩ := h.get e
      rw [List.filterMap_cons_some e, List.filterMap_cons_some e2]
      exact .cons r (perm_vals h is)
section
variable {K : PySem.W.Frag} {Pr : Addr → Prop} {g : Wd} {H : Hp}
theorem perm_vrs {us : List Val} {vs : List V} (h : VRs K Pr g H us vs) : ∀ perm : List Nat, VRs K Pr g H (perm.filterMap (us[·]?)) (perm.filterMap (vs[·]?))
  | [] => .nil
  | i :: is => by
    cases e : us[i]? with
    | none =>
      have e2 : vs[i]? = none := by
        have := List.getElem?_eq_none_iff.mp e
        exact List.getElem?_eq_none_iff.mpr (by rw [← h.length]; exact this)
      rw [List.filterMap_cons_none e, List.filterMap_cons_none e2]
      exact perm_vrs h is
    | some x =>
      obtain ⟨v, e2, r⟩ := h.get e
      rw [List.filterMap_cons_some e, List.filterMap_cons_some e2]
      exact .cons r (perm_vrs h is)
end
theorem kbn_of {K : PySem.W.Frag} {x qual : Str} {params : Arguments} {body : List Stmt} {scope : Scope} {f : Addr} {fd : FuncData} {ps : List Str} (F : FunD K x qual params body scope [] [] f fd) (n : Nat) (ks : List Str) (perm : List Nat)
    (h : ∀ (kV doc pm : Value) (an : Option Addr) (cdv ct : Value) (us ws : List Value), us.length = n → ws.length = ks.length → bindArgs (PySem.W.fnOf x qual params body scope .none kV doc pm an cdv ct) ⟨us, ks.zip ws⟩ = pure (ps.zip (gOrd perm us ws))) :
    KBn K fd ps n ks (gOrd perm) (gOrd perm) := by
  obtain ⟨oc, od, dV, kV, doc, pm, an, cdv, ct, osl, rfl, lk, hcd, hD, hK⟩ := F.ex
  rcases hD with ⟨_, rfl⟩ | ⟨e, _⟩
  · exact ⟨fun s us ws X h1 h2 => .of_eq (h kV doc pm an cdv ct us ws h1 h2), fun r1 r2 => r1.append (perm_vals r2 perm)⟩
  · exact absurd rfl e
section
variable {X : Cx} {c : Ctx} {e : Expr} {ea : E} {kws : List Keyword} {ekws : List (Nat × E)} {nm : Option Str} {kpos : Pos}
def evK' (c : Ctx) (ekws : List (Nat × E)) : Env → Sto → R (List Val) := fun σ s => (evKs c ekws σ s).bd fun ks s1 => .ok (ks.map (·.2)) s1
abbrev Pk (X : Cx) (c : Ctx) (kws : List Keyword) (ekws : List (Nat × E)) : Prop := PK X kws (tA X.K (evK' c ekws))
theorem PK.imp {X : Cx} {e : List Keyword} {t t' : TA} (h : PK X e t) (i : ∀ σ H Q, t' σ H Q → t σ H Q) : PK X e t' := ⟨fun pos pins s σ H Q I hw => h.run pos pins s σ H Q I (i _ _ _ hw)⟩
theorem ek_nil : Pk X c [] [] := PK.imp pk_nil fun σ H Q h => by
  obtain ⟨Pr, g, s, σa, u, s', R0, S0, e, k⟩ := h
  unfold evK' at e
  rw [evk_nil] at e
  injection e with e1 e2
  subst e1; subst e2
  exact k [] H g Ext.refl R0 .nil
theorem ek_cons {n : Nat} (h : Pe X c e ea) (t : Pk X c kws ekws) : Pk X c (⟨nm, e, kpos⟩ :: kws) ((n, ea) :: ekws) :=
  PK.imp (pk_cons h t) fun σ H Q h => by
    obtain ⟨Pr, g, s, σa, u, s', R0, S0, e, k⟩ := h
    unfold evK' at e
    rw [evk_cons] at e
    obtain ⟨y, s2, e1, e⟩ := R.bd_eq e
    obtain ⟨x, s1, e2, e1⟩ := R.bd_eq e1
    obtain ⟨xs, s3, e3, e1⟩ := R.bd_eq e1
    injection e1 with e4 e5
    subst e4; subst e5
    injection e with e6 e7
    subst e6; subst e7
    exact ⟨Pr, g, s, σa, x, s1, R0, S0, e2, fun v H' g' X' R' V => ⟨Pr, g', s1, σa, xs.map (·.2), s3, R', S0.ext R0 X', by unfold evK'; rw [e3]; rfl, fun vs H2 g2 X2 R2 V2 => k _ H2 g2 (X'.trans X2) R2 (.cons (V.ext R' X2) V2)⟩⟩
theorem evk_zip : ∀ {ekws : List (Nat × E)} {σ : Env} {s s' : Sto} {ks : List (Nat × Val)}, evKs c ekws σ s = .ok ks s' → ks = (ekws.map (·.1)).zip (ks.map (·.2))
  | [], _, _, _, _, e => by rw [evk_nil] at e; cases e; rfl
  | (n, e0) :: r, _, _, _, _, e => by
    rw [evk_cons] at e
    obtain ⟨x, s1, e2, e⟩ := R.bd_eq e
    obtain ⟨xs, s3, e3, e⟩ := R.bd_eq e
    cases e
    show (n, x) :: xs = (n, x) :: (r.map (·.1)).zip (xs.map (·.2))
    rw [← evk_zip e3]
theorem evk_len {ekws : List (Nat × E)} {σ : Env} {s s' : Sto} {ks : List (Nat × Val)} (e : evKs c ekws σ s = .ok ks s') : ks.length = ekws.length := by
  induction ekws generalizing s ks with
  | nil => rw [evk_nil] at e; cases e; rfl
  | cons a r ih =>
    rw [evk_cons] at e
    obtain ⟨x, s1, e2, e⟩ := R.bd_eq e
    obtain ⟨xs, s3, e3, e⟩ := R.bd_eq e
    cases e
    exact congrArg (· + 1) (ih e3)
end
section
variable {X : Cx} {P : Prog} {n k : Nat} {i : Nat} {f : Addr} {fd : FuncData} {ps ks : List Str} {np nn : Nat} {x : Str} {p pos : Pos} {e : Expr} {es : List Expr} {eas : List E} {m : Mode} {kws : List Keyword} {ekws : List (Nat × E)} {perm : List Nat} {d : Def}
theorem callK_read {σ : L2.St} {H : Hp} {Q : VK} (hd : P.fn i = some d) (hnp : d.npar = np) (hl : eas.length = nn) (hkl : ekws.length = ks.length) (hperm : (∀ j ∈ perm, j < ks.length) ∧ nn + perm.length = np)
    (hord : ∀ us ws : List Val, us.length = nn → ws.length = ks.length → order np us ((ekws.map (·.1)).zip ws) = some (gOrd perm us ws))
    (h : tR X.K (evE ⟨evF P n, P.glob, P.fuel⟩ (.call i m eas ekws)) σ H Q) : tCallKG nn ks.length (spF X.K P n i np) (gOrd perm) (tA X.K (evEs ⟨evF P n, P.glob, P.fuel⟩ eas)) (tA X.K (evK' ⟨evF P n, P.glob, P.fuel⟩ ekws)) σ H Q := by
  obtain ⟨Pr, g, s, σa, u, s', R0, S0, e, k⟩ := h
  rw [ev_call] at e
  obtain ⟨us, s1, e1, e⟩ := R.bd_eq e
  obtain ⟨kk, s2, e2, e⟩ := R.bd_eq e
  have l1 := evs_len e1
  have l2 := evk_len e2
  have z := evk_zip e2
  by_cases ho : (us.all argOk && kk.all (fun p => argOk p.2)) = true
  · rw [if_pos ho] at e
    rw [Bool.and_eq_true] at ho
    refine ⟨Pr, g, s, σa, us, s1, R0, S0, e1, fun vs H1 g1 X1 R1 V1 => ⟨Pr, g1, s1, σa, kk.map (·.2), s2, R1, S0.ext R0 X1, by unfold evK'; rw [e2]; rfl, fun zs H2 g2 X2 R2 V2 => ⟨by rw [← V1.length, l1, hl], by rw [← V2.length, List.length_map, l2, hkl], ?_⟩⟩⟩
    have lk : (kk.map (·.2)).length = ks.length := by rw [List.length_map, l2, hkl]
    have hlen : (gOrd perm us (kk.map (·.2))).length = np := by
      unfold gOrd
      rw [List.length_append, l1, hl]
      have : ∀ perm : List Nat, (∀ j ∈ perm, j < ks.length) → (perm.filterMap ((kk.map (·.2))[·]?)).length = perm.length := by
        intro perm
        induction perm with
        | nil => intro _; rfl
        | cons a r ih =>
          intro h
          have ha := h a List.mem_cons_self
          rw [List.filterMap_cons_some (List.getElem?_eq_getElem (by rw [lk]; exact ha))]
          exact congrArg (· + 1) (ih fun j hj => h j (List.mem_cons_of_mem _ hj))
      rw [this perm hperm.1]
      exact hperm.2
    have ord := hord us (kk.map (·.2)) (by rw [l1, hl]) lk
    rw [← z] at ord
    have e' : called m s2 (evF P n i (gOrd perm us (kk.map (·.2))) [] s2.F) = .ok u s' := by
      rw [← evF_order hd (by rw [hnp]; exact ord) (by rw [hlen, hnp])]
      exact e
    refine call_read R2 ((V1.ext R1 X2).append (perm_vrs V2 perm)) ?_ hlen e' fun v H3 g3 X3 R3 V3 => k v H3 g3 ((X1.trans X2).trans X3) R3 V3
    rw [List.all_append, Bool.and_eq_true]
    refine ⟨ho.1, ?_⟩
    rw [List.all_eq_true]
    intro w hw
    obtain ⟨j, _, hj⟩ := List.mem_filterMap.mp hw
    have hm := List.mem_of_getElem? hj
    obtain ⟨q, hq, rfl⟩ := List.mem_map.mp hm
    exact List.all_eq_true.mp ho.2 q hq
  · rw [if_neg ho] at e; cases e
theorem em_callK (F : FnG X.prog X.w X.K X.mg X.base k f fd ps (spF X.K P n i np)) (hr : Room k X.A) (hgd : X.A.guards = some []) (hg : Gl X x) (hm : X.mg x = some (.ref f)) (hk : PySem.W.keepIn X.K (.ref f) = true) (hb : KBn X.K fd ps nn ks (gOrd perm) (gOrd perm))
    (hd : P.fn i = some d) (ha : Pas X ⟨evF P n, P.glob, P.fuel⟩ (e :: es) eas) (hkw : Pk X ⟨evF P n, P.glob, P.fuel⟩ kws ekws)
    (hord : ∀ us ws : List Val, us.length = nn → ws.length = ks.length → order np us ((ekws.map (·.1)).zip ws) = some (gOrd perm us ws))
    (hnp : d.npar = np := by rfl) (hl : eas.length = nn := by rfl) (hkl : ekws.length = ks.length := by rfl) (hperm : (∀ j ∈ perm, j < ks.length) ∧ nn + perm.length = np := by decide)
    (hall : (backToKw pos (keywordEach kws X.env)).all (·.1.isSome) = true := by rfl) (hks : (backToKw pos (keywordEach kws X.env)).filterMap (·.1) = ks := by rfl)
    (hdb : (x == ("__debug__" : Str)) = false := by decide) (he : starEach (e :: es) X.env = (false, eval e X.env) :: starEach es X.env := by rfl)
    (hpl : ((backTo pos (starEach (e :: es) X.env)).any (·.1) || (backToKw pos (keywordEach kws X.env)).any (·.1.isNone)) = false := by rfl) :
    Pe X ⟨evF P n, P.glob, P.fuel⟩ (.Call (.Name x p) (e :: es) kws pos) (.call i m eas ekws) :=
  PE.imp (pe_callKG F hr hgd hg hm hk hb ha hkw hall hks hdb he hpl) fun σ H Q h => callK_read hd hnp hl hkl hperm hord h
theorem em_callK0 (F : FnG X.prog X.w X.K X.mg X.base k f fd ps (spF X.K P n i np)) (hr : Room k X.A) (hgd : X.A.guards = some []) (hg : Gl X x) (hm : X.mg x = some (.ref f)) (hk : PySem.W.keepIn X.K (.ref f) = true) (hb : KBn X.K fd ps 0 ks (gOrd perm) (gOrd perm))
    (hd : P.fn i = some d) (hkw : Pk X ⟨evF P n, P.glob, P.fuel⟩ kws ekws)
    (hord : ∀ us ws : List Val, us.length = 0 → ws.length = ks.length → order np us ((ekws.map (·.1)).zip ws) = some (gOrd perm us ws))
    (hnp : d.npar = np := by rfl) (hkl : ekws.length = ks.length := by rfl) (hperm : (∀ j ∈ perm, j < ks.length) ∧ 0 + perm.length = np := by decide)
    (hall : (backToKw pos (keywordEach kws X.env)).all (·.1.isSome) = true := by rfl) (hks : (backToKw pos (keywordEach kws X.env)).filterMap (·.1) = ks := by rfl)
    (hdb : (x == ("__debug__" : Str)) = false := by decide)
    (hpl : ((backTo pos (starEach [] X.env)).any (·.1) || (backToKw pos (keywordEach kws X.env)).any (·.1.isNone)) = false := by rfl) :
    Pe X ⟨evF P n, P.glob, P.fuel⟩ (.Call (.Name x p) [] kws pos) (.call i m [] ekws) :=
  PE.imp (pe_callKG0 F hr hgd hg hm hk hb hkw hall hks hdb hpl) fun σ H Q h => by
    obtain ⟨Pr, g, s, σa, us, s1, R0, S0, e1, k⟩ := callK_read (eas := []) hd hnp rfl hkl hperm hord h
    rw [evs_nil] at e1
    injection e1 with e2 e3
    subst e2; subst e3
    exact k [] H g Ext.refl R0 .nil
end
/-! ### a def from its body -/
section
variable {P' : Program} {w : World} {K : PySem.W.Frag} {mg : Str → Option Value} {base : Heap} {P : Prog}
theorem fnG_zero {f : Addr} {fd : FuncData} {ps : List Str} {i np : Nat} : FnG P' w K mg base 0 f fd ps (spF K P 0 i np) :=
  have no : ∀ vs H Q E, ¬ spF K P 0 i np vs H Q E := fun vs H Q E ⟨Pr, g, F, us, u, s', _, _, _, e, _⟩ => by rw [evF] at e; cases e
  ⟨fun vs H Q E h => (no _ _ _ _ h).elim, fun A outer s H args us vs Q E _ _ _ _ _ h => (no _ _ _ _ h).elim⟩
theorem shr_ok {Pr : Addr → Prop} {g : Wd} {H : Hp} {s : Sto} {n0 : Nat} (r : Rl K Pr g s H) : Rl K Pr (shr g n0) ⟨s.F.take n0, []⟩ H := by
  have nd := List.nodup_append.mp r.nd
  have hW : ∀ a, (shr g n0).W a → g.W a := fun a w => w.elim (fun w => .inl (List.mem_of_mem_take w)) fun w => nomatch w
  refine ⟨?_, rfl, ?_, fun a w q => r.np a (hW a w) q, r.pr, fun i a c e1 e2 => ?_, fun i a vs e1 _ => by cases e1⟩
  · show (g.mu.take n0).length = (s.F.take n0).length
    rw [List.length_take, List.length_take, r.lf]
  · show (g.mu.take n0 ++ []).Nodup
    rw [List.append_nil]
    exact nd.1.sublist (List.take_sublist _ _)
  · have e1 : (g.mu.take n0)[i]? = some a := e1
    have e2 : (s.F.take n0)[i]? = some c := e2
    have hi : i < n0 := by
      have := (List.getElem?_eq_some_iff.mp e1).1
      rw [List.length_take] at this
      omega
    rw [List.getElem?_take, if_pos hi] at e1 e2
    have q := r.f i a c e1 e2
    cases c with
    | di _ => obtain ⟨z, xs, q1, q2⟩ := q; exact ⟨z, xs, q1, q2.less fun a m => m.imp (hW a) id⟩
    | li l => obtain ⟨z, xs, q1, q2⟩ := q; exact ⟨z, xs, q1, q2.less fun a m => m.imp (hW a) id⟩
theorem fnG_of {x qual : Str} {params : Arguments} {body : List Stmt} {scope : Scope} {f : Addr} {fd : FuncData} {N ps : List Str} {i n : Nat} {d : Def} (Fd : FunD K x qual params body scope [] [] f fd) (S : FnScope N ps scope) (hd : P.fn i = some d)
    (hb : ∀ (cdv : Value) (A : Around) (outer : List PySem.Env) (s : Shared) (H : Hp) (E : XK) (n0 : Nat), Room n (A.deeper (envOfC qual scope s.heap.objs.size f cdv)) → A.guards = some [] →
      Pss (cxOf C8.CX0 P' w K mg base N qual scope f cdv A outer s H E) ⟨evF P n, P.glob, P.fuel⟩ n0 body d.body)
    (hN : d.names.length = N.length := by rfl) (hnp : d.npar = ps.length := by rfl) : FnG P' w K mg base (n + 1) f fd ps (spF K P (n + 1) i ps.length) := by
  obtain ⟨oc, od, dV, kV, doc, pm, an, cdv, ct, osl, rfl, lk, hcd, _, _⟩ := Fd.ex
  refine fn_ofG lk hcd S (fun vs H Q E ⟨Pr, g, F, us, u, s', hl, _, V, _, _⟩ => by rw [← V.length]; exact hl) fun A outer s H vs Q E hr hgd h => ?_
  obtain ⟨Pr, g, F, us, u, s', hl, R0, V0, e, k⟩ := h
  refine ⟨_, hb cdv A outer s H E F.length hr hgd, ?_⟩
  rw [evF] at e
  simp only [hd, order_nil (show us.length = d.npar by rw [hnp]; exact hl)] at e
  obtain ⟨y, s1, e1, e⟩ := R.bd_eq e
  have hlen := V0.length
  have S0 : SR K Pr g H (Em.start d us) (L2.start N vs) := by
    unfold Em.start L2.start
    refine ⟨by rw [List.length_append, List.length_append, List.length_map, List.length_map, List.length_replicate, List.length_replicate, hN, hlen], fun j w ej => ?_⟩
    by_cases hj : j < us.length
    · rw [List.getElem?_append_left (by rw [List.length_map]; exact hj), List.getElem?_map] at ej
      rw [List.getElem?_append_left (by rw [List.length_map, ← hlen]; exact hj), List.getElem?_map]
      cases q : us[j]? with
      | none => rw [q] at ej; cases ej
      | some w' =>
        rw [q] at ej
        cases ej
        obtain ⟨v, e2, r⟩ := V0.get q
        exact ⟨v, by rw [e2]; rfl, r⟩
    · rw [List.getElem?_append_right (by rw [List.length_map]; omega), List.getElem?_replicate] at ej
      split at ej <;> cases ej
  have hg : g.nu = [] := List.eq_nil_of_length_eq_zero R0.ln
  -- the caller's lists are what they were
  have back : ∀ {g' : Wd} {H' : Hp}, Ext g H g' H' → Rl K Pr g' s1 H' → shr g' F.length = g := fun {g' H'} X' R' => by
    have h1 := X'.pm
    have h2 : g.mu.length = F.length := R0.lf
    unfold shr
    rw [← h2]
    obtain ⟨t, ht⟩ := h1
    cases g with
    | mk m n =>
      have hg : n = [] := hg
      subst hg
      have ht : m ++ t = g'.mu := ht
      rw [← ht]
      simp
  have toX : ∀ {g' : Wd} {H' : Hp}, Ext g H g' H' → Ext g H g H' := fun {g' H'} X' => ⟨List.prefix_rfl, List.prefix_rfl, X'.keep, fun a w n => absurd w n⟩
  have toR : ∀ {g' : Wd} {H' : Hp}, Ext g H g' H' → Rl K Pr g' s1 H' → Rl K Pr g ⟨s1.F.take F.length, []⟩ H' := fun {g' H'} X' R' => by
    have := shr_ok (n0 := F.length) R'
    rw [back X' R'] at this
    exact this
  refine ⟨Pr, g, ⟨F, []⟩, Em.start d us, y, s1, Nat.le_refl _, R0, S0, e1, ?_⟩
  obtain ⟨fl, σf⟩ := y
  cases fl with
  | nx =>
    have e : finish F.length (.val (.d .none)) s1 = .ok u s' := e
    injection e with e2 e3
    subst e2; subst e3
    exact fun σ' H' g' X' R' _ => k .non H' g (toX X') (toR X' R') Dq.non
  | bk => cases e
  | ct => cases e
  | rt r =>
    have e : finish F.length r s1 = .ok u s' := e
    intro v H' g' X' R' V'
    cases r with
    | val q =>
      injection e with e2 e3
      subst e2; subst e3
      refine k v H' g (toX X') (toR X' R') ?_
      cases q with
      | d p =>
        have V' : Dq K (Ms Pr (shr g' F.length)) H' v p := V'
        rw [back X' R'] at V'
        exact V'
      | fl i =>
        obtain ⟨hi, a, ea, rfl⟩ := V'
        obtain ⟨t, ht⟩ := X'.pm
        rw [← ht, List.getElem?_append_left (by rw [R0.lf]; exact hi)] at ea
        exact ⟨a, ea, rfl⟩
      | ne i => exact V'.elim
      | sc l => exact V'.elim
    | new cc =>
      injection e with e2 e3
      subst e2; subst e3
      obtain ⟨a, rfl, wa, na, ca⟩ := V'
      have hb : g'.mu.take F.length = g.mu := by
        have := congrArg Wd.mu (back X' R')
        exact this
      rw [hb] at na ca
      have nP := R'.np a wa
      have R2 := toR X' R'
      have nW : ¬ g.W a := fun w => w.elim na fun w => by rw [hg] at w; cases w
      have hM : ∀ b, Ms Pr g b → Ms Pr ⟨g.mu ++ [a], []⟩ b := fun b m => m.imp (fun w => w.imp (fun w => List.mem_append_left _ w) fun w => by rw [hg] at w; exact w) id
      have at_ : (g.mu ++ [a])[F.length]? = some a := by
        have : g.mu.length = F.length := R0.lf
        rw [← this]; simp
      have lF : (s1.F.take F.length).length = F.length := by rw [← R2.lf]; exact R0.lf
      refine k _ H' ⟨g.mu ++ [a], []⟩ ⟨List.prefix_append _ _, by rw [hg]; exact List.prefix_rfl, X'.keep, fun b w n => ?_⟩ ⟨?_, rfl, ?_, fun b w q => ?_, R2.pr, fun i b c2 f1 f2 => ?_, fun i b vs f1 _ => by cases f1⟩ ⟨a, at_, rfl⟩
      · rcases w with w | w
        · rcases List.mem_append.mp w with w | w
          · exact absurd (.inl w) n
          · have : b = a := List.mem_singleton.mp w
            subst this
            exact X'.new b wa nW
        · cases w
      · show (g.mu ++ [a]).length = (s1.F.take F.length ++ [cc]).length
        rw [List.length_append, List.length_append, lF]
        have : g.mu.length = F.length := R0.lf
        rw [this]; rfl
      · show (g.mu ++ [a] ++ []).Nodup
        rw [List.append_nil, List.nodup_append]
        have nd := (List.nodup_append.mp R0.nd).1
        exact ⟨nd, by simp, fun b hb2 b' hb3 e => na (by rw [← List.mem_singleton.mp hb3, ← e]; exact hb2)⟩
      · rcases w with w | w
        · rcases List.mem_append.mp w with w | w
          · exact R2.np b (.inl w) q
          · exact nP (by rw [← List.mem_singleton.mp w]; exact q)
        · cases w
      · have f1 : (g.mu ++ [a])[i]? = some b := f1
        have f2 : (s1.F.take F.length ++ [cc])[i]? = some c2 := f2
        by_cases hi : i < F.length
        · rw [List.getElem?_append_left (by rw [R0.lf]; exact hi)] at f1
          rw [List.getElem?_append_left (by rw [lF]; exact hi)] at f2
          rw [List.getElem?_take, if_pos hi] at f2
          have q := R'.f i b c2 (pre_get X'.pm f1) f2
          cases c2 with
          | di _ =>
            obtain ⟨z, xs, q1, q2⟩ := q
            refine ⟨z, xs, q1, q2.less fun t m => m.imp (fun w => w.elim (fun w => (List.mem_append.mp w).elim (fun w => .inl (X'.pm.subset w)) fun w => ?_) fun w => nomatch w) id⟩
            rw [List.mem_singleton.mp w]
            exact wa
          | li l =>
            obtain ⟨z, xs, q1, q2⟩ := q
            refine ⟨z, xs, q1, q2.less fun t m => m.imp (fun w => w.elim (fun w => (List.mem_append.mp w).elim (fun w => .inl (X'.pm.subset w)) fun w => ?_) fun w => nomatch w) id⟩
            rw [List.mem_singleton.mp w]
            exact wa
        · rw [List.getElem?_append_right (by rw [lF]; omega), lF] at f2
          have hi2 : i = F.length := by
            have := (List.getElem?_eq_some_iff.mp f2).1
            simp at this
            omega
          subst hi2
          have e3 : a = b := Option.some.inj (at_.symm.trans f1)
          subst e3
          simp at f2
          subst f2
          exact ca
end
end Em
end

section
set_option Elab.async false
set_option linter.all false
set_option maxRecDepth 100000
set_option maxHeartbeats 800000
/-! EmR: a law's end. -/
namespace Em
open PySem PySem.Spec PyProof.Rows L2
/-- the law's promise at the heap behind the top (as L2.law_call, the guards known) -/
theorem law_callG {P : Program} {w : World} {K : PySem.W.Frag} {mg mb : Str → Option Value} {k : Nat} {fa a : Addr} {fd : FuncData} {x : Str} {sp : Sp} {s₁ : Shared} {vs : List Value} {ns : List Int}
    (KX : K.In s₁.heap) (hns : s₁.heap.Ns mainGlobals mg) (hb : s₁.heap.Ns builtinsNs mb) (hbb : ∀ x : Str, x ≠ "__name__" → mb x = bootBuiltins x) (hlim : s₁.heap.NoLimit) (hg : s₁.gens = #[])
    (ha : s₁.heap.get? a = some { cls := .type "list", data := .seq vs.toArray }) (hi : IntsAre vs ns) (hl : ns.length ≤ sizeLine) (hr : Room k callerA)
    (F : ∀ base : Heap, K.In base → base.Ns mainGlobals mg → FnG P w K mg base k fa fd [x] sp) (hbind : ∀ (s : Shared) (u : Value), BindsTo s fd ⟨[u], []⟩ [(x, u)])
    (hsp : ∀ H : Hp, Only H → SqL K H a (ns.map V.int) → sp [.ref a] H (fun v _ => v = .bl true) C8.E0) :
    codeAny (model P w) callerA (.call (.ref fa) ⟨[.ref a], []⟩) (fun r s' => r = .ok (.ret (.bool true)) ∧ OldK s₁.heap s'.heap ∧ s'.os = s₁.os ∧ AllBare s'.gens) s₁ := by
  have rv := vals_ints hi
  have lenV := hi.length
  have core : ∀ H : Hp, Only H → SqL K H a (ns.map V.int) → HOk P w H s₁.heap → (∀ b, H b ≠ none → b = a) → (H a ≠ none → K.lookup a = none) →
      codeAny (model P w) callerA (.call (.ref fa) ⟨[.ref a], []⟩) (fun r s' => r = .ok (.ret (.bool true)) ∧ OldK s₁.heap s'.heap ∧ s'.os = s₁.os ∧ AllBare s'.gens) s₁ := by
    intro H hO hS hok hA hK
    have base_of : ∀ {b : Addr} {o : Obj}, s₁.heap.get? b = some o → H b = none → (hidT s₁.heap H).get? b = some o := fun e n => hidT_get e n
    have noA : ∀ {b : Addr} {o : Obj} {es : Array DictEntry} {ep : Nat}, s₁.heap.get? b = some o → o.data = .dict es ep → H b = none := fun {b o es ep} e d => by
      cases q : H b with
      | none => rfl
      | some u =>
        have e' : b = a := hA b (by rw [q]; simp)
        subst e'
        rw [ha] at e; cases e
        have d' : Data.seq vs.toArray _ = Data.dict es ep := d
        cases d'
    have nsK : ∀ {b : Addr} {m : Str → Option Value}, s₁.heap.Ns b m → (hidT s₁.heap H).Ns b m := fun {b m} ⟨o, es, ep, e, d, r⟩ => ⟨o, es, ep, base_of e (noA e d), d, r⟩
    have hKb : K.In (hidT s₁.heap H) := fun b o e => base_of (KX b o e) (by
      cases q : H b with
      | none => rfl
      | some u =>
        have e' : b = a := hA b (by rw [q]; simp)
        subst e'
        rw [hK (by rw [q]; simp)] at e; cases e)
    have hM : Mod K mg (hidT s₁.heap H) := ⟨hKb, nsK hns, ⟨mb, nsK hb, hbb⟩, let ⟨mc, h1, h2⟩ := hlim; ⟨mc, nsK h1, h2⟩⟩
    have e0 : Env0 P w K mg (hidT s₁.heap H) callerA [] s₁ H := ⟨rfl, hM, fun b o e => of_hidT e, Nat.le_of_eq (hidT_size _ _), trivial, fun b hb => absurd (show b ∈ ([] : List Addr) from hb) (by simp), hok, .of_eq hg⟩
    refine codeAny_mono ((F _ hKb (nsK hns)).run callerA [] s₁ H ⟨[.ref a], []⟩ [.ref a] [.ref a] _ _ hr rfl e0 (hbind s₁ (.ref a)) (.cons rfl .nil) (hsp H hO hS)) fun r s' h => ?_
    cases r with
    | error e => exact False.elim h
    | ok fl =>
      cases fl with
      | next => exact False.elim h
      | brk => exact False.elim h
      | cont => exact False.elim h
      | ret u =>
        obtain ⟨v, H', os, bare, un, hok', r', q⟩ := h
        have q' : v = .bl true := q
        subst q'
        obtain rfl : u = Value.bool true := r'
        refine ⟨rfl, OldK.of_keep fun b o e => ?_, os, bare⟩
        cases q : H b with
        | none => exact un.keep b o e q (by intro z; exact absurd (show b ∈ ([] : List Addr) from z) (by simp)) (by simp)
        | some u =>
          rcases hO b with z | ⟨ob, xs, z⟩
          · rw [q] at z; cases z
          · have z2 := un.frzs b ob _ z
            obtain ⟨e1, _⟩ := hok b _ z
            obtain ⟨e2, _⟩ := hok' b _ z2
            rw [e] at e1; cases e1
            exact e2
  cases hk : K.lookup a with
  | some o =>
    have e := KX a o hk
    rw [ha] at e
    cases e
    refine core (fun _ => none) (fun _ => .inl rfl) (.inr ⟨_, vs.toArray, _, hk, rfl, rfl, rfl, by rw [List.size_toArray, lenV]; exact hl, by simpa using rv⟩) (fun b u z => by have z' : (none : Option HO) = some u := z; cases z') (fun b z => absurd rfl z) fun z => absurd rfl z
  | none =>
    refine core (fun b => if b = a then some (.frz { cls := .type "list", data := .seq vs.toArray } (.lst (ns.map V.int))) else none) (fun b => ?_) (.inl (.inr ⟨{ cls := .type "list", data := .seq vs.toArray }, if_pos rfl⟩)) (fun b u z => ?_) (fun b z => ?_) fun _ => hk
    · by_cases hb : b = a
      · exact .inr ⟨_, _, if_pos hb⟩
      · exact .inl (if_neg hb)
    · by_cases hb : b = a
      · have z' := (if_pos hb).symm.trans z
        cases z'
        subst hb
        exact ⟨ha, by rw [List.length_map]; exact hl, vs, _, rv, ha⟩
      · have z' := (if_neg hb).symm.trans z
        cases z'
    · by_cases hb : b = a
      · exact hb
      · exact absurd (if_neg hb) z
/-- .. and the evaluator's answer at every script -/
theorem walk_ofG {l : PySem.W.OpenLaw} {n k : Nat} {q : Program} {loose : List Str} {XP : (Str → Option Value) → Heap → Prop} {YP : World → Heap → Prop} {d : DefRec} {x : Str} {Pg : Prog} {i : Nat}
    (hn : l.most = some n) (hn2 : n ≤ sizeLine) (hdf : d.params.defaults = []) (hr : Room k callerA)
    (law : ∀ ns : List Int, ns.length ≤ n → ∃ s', evF Pg k i [.sc ns] [] [] = .ok (.d (.bool true)) s')
    (F : ∀ (w : World) (mg : Str → Option Value) (fa : Addr) (h : Heap), YP w h → h.Ns mainGlobals mg → mg d.name = some (.ref fa) →
      ∃ (K : PySem.W.Frag) (fd : FuncData), K.In h ∧ (∀ (s : Shared) (u : Value), BindsTo s fd ⟨[u], []⟩ [(x, u)]) ∧
        ∀ base : Heap, K.In base → base.Ns mainGlobals mg → FnG l.prog w K mg base k fa fd [x] (spF K Pg k i 1)) :
    PySem.W.WalkO q loose XP YP l.row.toRowW d [] (fun f vs => PySem.call f vs) := by
  refine Att.attach_call hn hdf fun w s₀ s₁ mg mb fa o pm cd doc a vs ns G Y ho hd hcd hmg hobj hints hlen hg => ?_
  obtain ⟨K, fd, KX, hb, hF⟩ := F w mg fa _ Y G.T.g hmg
  refine law_callG KX G.T.g G.T.b G.T.builtins G.T.nolimit hg hobj hints (Nat.le_trans hlen hn2) hr hF hb fun H hO hS => ?_
  obtain ⟨s', e⟩ := law ns hlen
  refine ⟨fun _ => False, ⟨[], []⟩, [], [.sc ns], _, s', rfl, ⟨rfl, rfl, List.nodup_nil, fun _ w _ => (w.elim (fun w => nomatch w) fun w => nomatch w : False), fun _ h => h.elim, fun i b c e1 _ => by simp at e1, fun i b c e1 _ => by simp at e1⟩, .cons ⟨a, rfl, ?_⟩ .nil, e, fun v H' g' _ _ V' => by cases V'; rfl⟩
  rcases hS with hS | hS
  · exact .inl ⟨hS, fun m => m.elim (fun w => w.elim (fun w => nomatch w) fun w => nomatch w) id⟩
  · exact .inr hS
end Em
end

section
set_option Elab.async false
set_option linter.all false
set_option maxRecDepth 100000
set_option maxHeartbeats 400000
/-! EmS: more expressions: chains, powers, empty dicts, str, reversed sequences. -/
namespace Em
open PySem PySem.Spec PyProof.Rows L2
section
variable {c : Ctx}
theorem ev_chain {o1 o2 : Op2} {a b e : E} : evE c (.chain o1 o2 a b e) = fun σ s => (evE c a σ s).bd fun x s1 => (evE c b σ s1).bd fun y s2 => match x, y with
    | .d p, .d q => match op2V o1 p q with
      | some (.bool true) => (evE c e σ s2).bd fun z s3 => match z with
        | .d r => match op2V o2 q r with
          | some t => .ok (.d t) s3
          | none => .bad
        | _ => .bad
      | some (.bool false) => .ok (.d (.bool false)) s2
      | _ => .bad
    | _, _ => .bad := by funext σ s; rw [evE]; try rfl
theorem ev_dct : evE c .dct = fun _ s => .ok (.d (.dict [])) s := by funext σ s; rw [evE]; try rfl
theorem ev_str {a : E} : evE c (.str a) = fun σ s => (evE c a σ s).bd fun x s1 => match x with
    | .d (.int i) => if i.natAbs.log2 < 1920 then .ok (.d (.str (Str.ofString (toString i)))) s1 else .bad
    | .d (.str z) => .ok (.d (.str z)) s1
    | _ => .bad := by funext σ s; rw [evE]; try rfl
end
section
variable {X : Cx} {c : Ctx} {a b e : Expr} {ea eb ee : E} {pos p : Pos} {x : Str} {es : List Expr} {eas : List E} {m : Mode}
theorem em_pow {i j : Nat} {j1 j2 : Nat} {p1 p2 : Pos} (hi : i < 2 ^ 64 := by decide) (hj : j ≤ 1000000 := by decide) : Pe X c (.BinOp (.Constant (.int i) j1 p1) .Pow (.Constant (.int j) j2 p2) pos) (.pow i j) :=
  PE.imp (pe_op op_pow pe_int pe_int) fun σ H Q h => by
    rw [ev_pow] at h
    refine ⟨(i : Int), (j : Int), rfl, rfl, ⟨by omega, by omega, by rw [Int.natAbs_natCast]; exact hi⟩, ?_⟩
    exact tR_dat (d := .int ((i : Int) ^ j)) h fun _ => by
      show Dq X.K _ H (V.int ((i : Int) ^ ((j : Int)).toNat)) _
      rw [Int.toNat_natCast]
      exact .int _
theorem em_dct : Pe X c (.Dict [] [] pos) .dct := PE.imp pe_dnewK fun σ H Q h => by
  rw [ev_dct] at h
  obtain ⟨Pr, g, s, σa, u, s', R0, S0, e, k⟩ := h
  injection e with e1 e2
  subst e1; subst e2
  exact fun p hp => k _ _ g (ext_new hp) (R0.new hp) (Dq.dct upd_same fun m => by obtain ⟨ys, q⟩ := R0.ml m; rw [hp] at q; cases q)
theorem em_str' (ha : Pe X c a ea) (hg : Gl X "str") (hm : X.mg "str" = none) (hv : bootBuiltins "str" = some (.type "str"))
    (he : starEach [a] X.env = (false, eval a X.env) :: starEach [] X.env := by rfl) (hpl : (backTo pos (starEach [] X.env)).any (·.1) = false := by rfl) : Pe X c (.Call (.Name "str" p) [a] [] pos) (.str ea) :=
  PE.imp (pe_callTy (call_str_int.or SkE.call_str_str) hg hm hv (pa_cons ha pa_nil he) (by decide) (by decide) he hpl) fun σ H Q h => by
    rw [ev_str] at h
    obtain ⟨Pr, g, s, σa, u, s', R0, S0, e, k⟩ := h
    obtain ⟨y, s1, e1, e⟩ := R.bd_eq e
    refine ⟨Pr, g, s, σa, y, s1, R0, S0, e1, fun v H' g' X' R' V => ?_⟩
    cases y with
    | d q =>
      cases q with
      | int i =>
        simp only at e
        by_cases hz : i.natAbs.log2 < 1920
        · rw [if_pos hz] at e
          injection e with e2 e3
          subst e2; subst e3
          cases V
          exact .inl ⟨i, rfl, hz, k _ H' g' X' R' (Dq.str _)⟩
        · rw [if_neg hz] at e; cases e
      | str z =>
        injection e with e2 e3
        subst e2; subst e3
        cases V
        exact .inr ⟨z, rfl, k _ H' g' X' R' (Dq.str _)⟩
      | _ => cases e
    | _ => cases e
/-- a <= b <= c, of data -/
theorem em_chain {o1 o2 : Op2} {c1 c2 : CmpOp} (h1 : OpR X (compareOp c1) (r2 X.K (op2S o1 .fr))) (h2 : OpR X (compareOp c2) (r2 X.K (op2S o2 .fr))) (hL : (∀ p q, op2L o1 p q = none) ∧ (∀ p q, op2L o2 p q = none) ∧ deepO o1 = false ∧ deepO o2 = false)
    (ha : Pe X c a ea) (hb : Pe X c b eb) (he : Pe X c e ee) (hm : lastMarks [c1, c2] [b, e] = false := by with_unfolding_all rfl) : Pe X c (.Compare a [c1, c2] [b, e] pos) (.chain o1 o2 ea eb ee) :=
  PE.imp (pe_chain h1 h2 ha hb he hm) fun σ H Q h => by
    rw [ev_chain] at h
    obtain ⟨Pr, g, s, σa, u, s', R0, S0, e, k⟩ := h
    obtain ⟨y, s1, e1, e⟩ := R.bd_eq e
    obtain ⟨z, s2, e2, e⟩ := R.bd_eq e
    refine ⟨Pr, g, s, σa, y, s1, R0, S0, e1, fun v1 H1 g1 X1 R1 V1 => ⟨Pr, g1, s1, σa, z, s2, R1, S0.ext R0 X1, e2, fun v2 H2 g2 X2 R2 V2 => ?_⟩⟩
    cases y with
    | d p =>
      cases z with
      | d q =>
        have step : ∀ (o : Op2) (p q r : D) (s : Sto), (∀ p q, op2L o p q = none) → deepO o = false → op2V o p q = some r → op2S o .fr (.d p) (.d q) s = .ok (.d r) s := fun o p q r s hl hd hv => by
          have e1 : s.see (deepO o) (.d p) = some p := by rw [hd]; rfl
          have e2 : s.see (deepO o) (.d q) = some q := by rw [hd]; rfl
          unfold op2S
          rw [e1, e2]
          show op2 o .fr p q s = _
          unfold op2
          rw [hl, hv]
        simp only at e
        cases h3 : op2V o1 p q with
        | none => simp only [h3] at e; cases e
        | some t =>
          cases t with
          | bool bb =>
            refine ⟨Pr, g2, s2, .d p, .d q, _, s2, R2, V1.ext R1 X2, V2, step o1 p q _ s2 hL.1 hL.2.2.1 h3, fun v3 H3 g3 X3 R3 V3 => ?_⟩
            cases V3
            refine ⟨bb, rfl, ?_⟩
            cases bb with
            | false =>
              simp only [h3] at e
              injection e with e5 e6
              subst e5; subst e6
              exact k _ H3 g3 ((X1.trans X2).trans X3) R3 (Dq.bl _)
            | true =>
              simp only [h3] at e
              obtain ⟨w, s4, e4, e⟩ := R.bd_eq e
              refine ⟨Pr, g3, s2, σa, w, s4, R3, ((S0.ext R0 X1).ext R1 X2).ext R2 X3, e4, fun v4 H4 g4 X4 R4 V4 => ?_⟩
              cases w with
              | d r =>
                simp only at e
                cases h5 : op2V o2 q r with
                | none => simp only [h5] at e; cases e
                | some t2 =>
                  simp only [h5] at e
                  injection e with e5 e6
                  subst e5; subst e6
                  exact ⟨Pr, g4, s4, .d q, .d r, _, s4, R4, (V2.ext R2 X3).ext R3 X4, V4, step o2 q r _ s4 hL.2.1 hL.2.2.2 h5, fun v5 H5 g5 X5 R5 V5 => k v5 H5 g5 ((((X1.trans X2).trans X3).trans X4).trans X5) R5 V5⟩
              | _ => cases e
          | _ => simp only [h3] at e; cases e
      | _ => cases e
    | _ => cases z <;> cases e
end
end Em
end

section
set_option Elab.async false
set_option linter.all false
set_option maxRecDepth 100000
set_option maxHeartbeats 400000
/-! EmT: reversed sequences. -/
namespace HT
open PySem PySem.Spec PyProof.Rows
section
variable {prog : Program} {w : World} {A : Around} {E : Value → Shared → Prop} {s : Shared}
theorem sliceApplied_rev {sl : Addr} {vl vu vs : Value} {n : Nat} {Q : Int × Int × Nat → Shared → Prop} (hs : s.heap.IsSliceOf sl vl vu vs) (pl : IsPart vl none) (pu : IsPart vu none) (ps : IsPart vs (some (-1)))
    (h : Q ((n : Int) - 1, -1, n) s) : wpAny (model prog w) A (Builtin.Slice.sliceApplied (.ref sl) (pure (n : Int))) Q E s := by
  obtain ⟨os, hos, hcs, hds⟩ := id hs
  unfold Builtin.Slice.sliceApplied Builtin.Slice.sliceFields
  refine wpAny_bind (wpAny_bind (wpAny_field hos hds (x := vl) rfl (wpAny_bind (wpAny_field hos hds (x := vu) rfl (wpAny_bind (wpAny_field hos hds (x := vs) rfl (wpAny_pure ?_)))))))
  refine wpAny_bind (slicePart_ ps ?_)
  show wpAny _ _ (if ((-1 : Int) == 0) = true then _ else _) _ _ s
  rw [if_neg (by decide)]
  refine wpAny_bind (slicePart_ pl (wpAny_bind (slicePart_ pu (wpAny_bind (wpAny_pure ?_)))))
  show wpAny _ _ (match Builtin.Slice.sliceAdjust none none (-1) (n : Int) with | (lo, hi) => pure (lo, (-1 : Int), Builtin.Slice.slicePlaces lo hi (-1))) _ _ s
  have e1 : Builtin.Slice.sliceAdjust none none (-1) (n : Int) = ((n : Int) - 1, -1) := by
    unfold Builtin.Slice.sliceAdjust
    simp
  have e2 : Builtin.Slice.slicePlaces ((n : Int) - 1) (-1) (-1) = n := by
    unfold Builtin.Slice.slicePlaces
    have h1 : ¬ ((-1 : Int) > 0) := by omega
    simp only [h1, if_false]
    split
    · have : -(-1 : Int) = 1 := by omega
      rw [this, Int.ediv_one]; omega
    · omega
  rw [e1]
  show wpAny _ _ (pure ((n : Int) - 1, (-1 : Int), Builtin.Slice.slicePlaces ((n : Int) - 1) (-1) (-1))) _ _ s
  rw [e2]
  exact wpAny_pure h
theorem all_get (xs : List Value) : (List.range xs.length).filterMap (xs[·]?) = xs := by
  induction xs with
  | nil => rfl
  | cons x r ih =>
    rw [List.length_cons, List.range_succ_eq_map, List.filterMap_cons_some (show (x :: r)[0]? = some x from rfl), List.filterMap_map]
    exact congrArg (x :: ·) ih
theorem fm_congr {α β : Type} {f g : α → Option β} : ∀ {l : List α}, (∀ a ∈ l, f a = g a) → l.filterMap f = l.filterMap g
  | [], _ => rfl
  | a :: r, h => by
    have h1 := h a List.mem_cons_self
    have h2 := fm_congr (l := r) fun b hb => h b (List.mem_cons_of_mem _ hb)
    simp only [List.filterMap_cons, h1, h2]
theorem pick_rev (xs : Array Value) : ((List.range xs.size).filterMap fun (m : Nat) => xs[(((xs.size : Int) - 1) + (m : Int) * (-1)).toNat]?).toArray = xs.toList.reverse.toArray := by
  have e := all_get xs.toList.reverse
  rw [List.length_reverse, Array.length_toList] at e
  congr 1
  rw [← e]
  refine fm_congr fun m hm => ?_
  have hm' : m < xs.size := List.mem_range.mp hm
  have : (((xs.size : Int) - 1) + (m : Int) * (-1)).toNat = xs.size - 1 - m := by omega
  rw [this, List.getElem?_reverse (by rw [Array.length_toList]; exact hm'), Array.length_toList, Array.getElem?_toList]
theorem getItem_tuple_rev {t sl : Addr} {items : Array Value} {vl vu vs : Value} {Q : Value → Shared → Prop} (ht : IsTup s.heap t items) (hs : s.heap.IsSliceOf sl vl vu vs) (pl : IsPart vl none) (pu : IsPart vu none) (ps : IsPart vs (some (-1)))
    (h : Q (.ref s.heap.objs.size) { s with heap := s.heap.push { cls := .type "tuple", data := .seq items.toList.reverse.toArray } })
    (hsz : items.size ≤ sizeLine) : wpAny (model prog w) A (getItem (.ref t) (.ref sl)) Q E s := by
  have htake : sizeOk (.seq items.toList.reverse.toArray) := by
    show items.toList.reverse.toArray.size ≤ sizeLine
    rw [List.size_toArray, List.length_reverse, Array.length_toList]
    omega
  obtain ⟨os, hos, hcs, hds⟩ := id hs
  have hTs : s.TypeIs (.ref sl) "slice" := ⟨os, hos, hcs⟩
  unfold getItem
  try with_reducible refine wpAny_holding ?_
  first | refine wpAny_bind (wpAny_pure ?_) | skip
  refine wpAny_bind (wpAny_sequenceKey ht.typeIs (by decide) ?_)
  refine wpAny_bind (wpAny_callSpecial?_slot (name := Str.ofString "__getitem__") ht.typeIs PyProof.Rows.slot_tuple_getitem
    (wpAny_call_entry PyProof.Rows.slot_tuple_getitem ht.typeIs entry_tuple_getitem ?_ (args_tuple_getitem _ _)))
  show wpAny _ _ (Builtin.Tuple.tupleItemsOf (.ref t) >>= _) _ _ s
  refine wpAny_bind (tupleItemsOf_ ht ?_)
  refine wpAny_bind (wpAny_typeOf hTs ?_)
  rw [if_pos (by decide)]
  refine wpAny_bind (sliceApplied_rev hs pl pu ps ?_)
  show wpAny _ _ (if ((((items.size : Int) - 1) == 0 && (-1 : Int) == 1 && items.size == items.size)) = true then _ else _) _ _ s
  rw [if_neg (by simp), pick_rev]
  first
    | exact wpAny_bind (m := Builtin.Tuple.tupleExact _) (wpAny_newObj_type (wpAny_pure ⟨_, rfl, wpAny_pure h⟩) htake)
    | exact wpAny_bind (m := Builtin.Tuple.tupleExact _) (wpAny_newObj_type (wpAny_bind (wpAny_pure (wpAny_pure ⟨_, rfl, wpAny_pure h⟩))) htake)
    | exact wpAny_bind (wpAny_bind (m := Builtin.Tuple.tupleExact _) (wpAny_newObj_type (wpAny_pure (wpAny_pure ⟨_, rfl, wpAny_pure h⟩)) htake))
    | exact wpAny_bind (wpAny_bind (m := Builtin.Tuple.tupleExact _) (wpAny_newObj_type (wpAny_pure ⟨_, rfl, wpAny_pure h⟩) htake))
end
end HT
namespace Em
open PySem PySem.Spec PyProof.Rows L2
section
variable {X : Cx} {c : Ctx} {a : Expr} {ea : E} {m : Mode}
theorem em_rev {k : Nat} {p1 p2 p3 pos : Pos} (he : Pe X c a ea) : Pe X c (.Subscript a (.Slice none none (some (.UnaryOp .USub (.Constant (.int 1) k p1) p2)) p3) pos) (.rev m ea) := by
  refine ⟨fun pins s σ H Q I h => ?_⟩
  rw [ev_rev] at h
  obtain ⟨Pr, g, st, σa, u, s', R0, S0, e, kk⟩ := h
  obtain ⟨x, st1, e1, e⟩ := R.bd_eq e
  refine Subscript_ (thn (he.run pins s σ H (fun v H' => ∃ g', Ext g H g' H' ∧ Rl X.K Pr g' st1 H' ∧ VR X.K Pr g' H' x v) I ⟨Pr, g, st, σa, x, st1, R0, S0, e1, fun v H' g' X' R' V => ⟨g', X', R', V⟩⟩) fun v s1 ⟨y, H1, I1, r1, g1, X1, R1, V1⟩ => ?_)
  have hst : PO X (some (.UnaryOp .USub (.Constant (.int 1) k p1) p2)) (tPart (tUn (rU fun i => .int (-i)) (tC (.int 1)))) := po_some (pe_un un_neg pe_int)
  refine wpAny_Slice (thn (po_none.run pins s1 σ H1 (fun o H2 => o = none ∧ H2 = H1) I1 ⟨rfl, rfl⟩) fun vl s2 ⟨l, H2, I2, pl, el, e2⟩ => ?_)
  subst el e2
  refine thn (po_none.run pins s2 σ H2 (fun o H3 => o = none ∧ H3 = H2) I2 ⟨rfl, rfl⟩) fun vu s3 ⟨w, H3, I3, pu, eu, e3⟩ => ?_
  subst eu e3
  refine thn (hst.run pins s3 σ H3 (fun o H4 => o = some (-1) ∧ H4 = H3) I3 ⟨1, rfl, -1, rfl, rfl, rfl⟩) fun vs s4 ⟨o, H4, I4, ps, eo, e4⟩ => ?_
  subst eo e4
  have I5 : L2.Inv X pins σ H4 { s4 with heap := s4.heap.push { cls := .type "slice", data := .fields #[vl, vu, vs] } } := I4.kept (t' := s4.toks) fun b ob q => Heap.get?_push_of_some _ q
  unfold revV at e
  show wpAny (model X.prog X.w) X.A (subscriptTail a (.Slice none none (some (.UnaryOp .USub (.Constant (.int 1) k p1) p2)) p3) v (.ref s4.heap.objs.size)) (EP X pins σ Q) X.xe { s4 with heap := s4.heap.push { cls := .type "slice", data := .fields #[vl, vu, vs] } }
  cases q : st1.snapF x with
  | none => rw [q] at e; cases e
  | some d =>
    rw [q] at e
    cases d with
    | list l =>
      have e : mkL m l.reverse st1 = .ok u s' := e
      obtain ⟨b, xs, rfl, hx, hd, _⟩ := V1.lst R1 q
      cases r1
      obtain ⟨its, r, ht, hz⟩ := I5.list hx
      have hlen := r.length
      refine tail_any (ops := [.ref b, .ref s4.heap.objs.size]) ht.isList.typeIs (PySem.slot_list_getitem.lookup) ?_ (by with_unfolding_all rfl)
      refine wpAny_getItem_list_slice ht.isList (Heap.IsSliceOf.new _ vl vu vs) pl pu ps (by decide) ?_ (by rw [List.size_toArray]; omega)
      rw [PySem.W.krv_pick]
      refine ⟨.ref _, _, I5.laid (t' := s4.toks) (o := .lst xs.reverse) (fun b ob q => Heap.get?_push_of_some _ q) (Nat.le_refl _) ⟨by rw [List.length_reverse]; exact hz, _, 0, r.reverse, Heap.get?_push_size _ rfl⟩, rfl, ?_⟩
      exact lst_end R1 e (I5.hok.fresh (Nat.le_refl _)) hd.reverse (by rw [List.length_reverse, ← hd.length]; exact hz) fun v2 H2 g2 X2 R2 V2 => kk v2 H2 g2 (X1.trans X2) R2 V2
    | tuple l =>
      have e : R.ok (Val.d (.tuple l.reverse)) st1 = .ok u s' := e
      injection e with e5 e6
      subst e5; subst e6
      obtain ⟨b, xs, rfl, hx, hd⟩ := V1.tup q
      cases r1
      obtain ⟨its, r, ht, hz⟩ := I5.tuple hx
      have hlen := r.length
      refine tail_any (ops := [.ref b, .ref s4.heap.objs.size]) ht.typeIs (PyProof.Rows.slot_tuple_getitem.lookup) ?_ (by with_unfolding_all rfl)
      refine HT.getItem_tuple_rev ht (Heap.IsSliceOf.new _ vl vu vs) pl pu ps ?_ (by rw [List.size_toArray]; omega)
      refine ⟨.ref _, _, I5.laid (t' := s4.toks) (o := .tup xs.reverse) (fun b ob q => Heap.get?_push_of_some _ q) (Nat.le_refl _) ⟨by rw [List.length_reverse]; exact hz, _, r.reverse, IsTup.new _ _⟩, rfl, ?_⟩
      exact tup_end R1 (I5.hok.fresh (Nat.le_refl _)) hd.reverse fun v2 H2 g2 X2 R2 V2 => kk v2 H2 g2 (X1.trans X2) R2 V2
    | _ => cases e
end
end Em
end

section
set_option Elab.async false
set_option linter.all false
set_option maxRecDepth 100000
set_option maxHeartbeats 400000
/-! EmU: targets with items among them; list(range(n)). -/
namespace Em
open PySem PySem.Spec PyProof.Rows L2
section
variable {X : Cx} {c : Ctx} {n0 : Nat} {pos : Pos}
def gX (K : PySem.W.Frag) (c : Ctx) (ts : List Tx) : TGs := fun vs σ H Q => ∃ (Pr : Addr → Prop) (g : Wd) (s : Sto) (σa : Env) (ps : List D) (σ' : Env) (s' : Sto), Rl K Pr g s H ∧ SR K Pr g H σa σ ∧ DqA K (Ms Pr g) H vs ps ∧ putTx c ts ps σa s = .ok σ' s' ∧
  ∀ σ2 H' g', Ext g H g' H' → Rl K Pr g' s' H' → SR K Pr g' H' σ' σ2 → Q σ2 H'
abbrev Pxs (X : Cx) (c : Ctx) (es : List Expr) (ts : List Tx) : Prop := PGs X es (gX X.K c ts)
theorem ptx_len {c : Ctx} : ∀ {ts : List Tx} {ps : List D} {σ σ' : Env} {s s' : Sto}, putTx c ts ps σ s = .ok σ' s' → ps.length = ts.length
  | [], [], _, _, _, _, _ => rfl
  | [], _ :: _, _, _, _, _, e => by rw [putTx] at e <;> first | cases e | (intros; nofun)
  | t :: ts, [], _, _, _, _, e => by cases t <;> (rw [putTx] at e <;> first | cases e | (intros; nofun))
  | .slot i :: ts, p :: ps, σ, σ', s, s', e => by
    rw [putTx] at e
    by_cases hi : i < σ.length
    · rw [if_pos hi] at e; exact congrArg (· + 1) (ptx_len (ts := ts) e)
    · rw [if_neg hi] at e; cases e
  | .sub o i :: ts, p :: ps, σ, σ', s, s', e => by
    rw [putTx] at e
    obtain ⟨x, s1, e1, e⟩ := R.bd_eq e
    obtain ⟨y, s2, e2, e⟩ := R.bd_eq e
    obtain ⟨z, s3, e3, e⟩ := R.bd_eq e
    exact congrArg (· + 1) (ptx_len (ts := ts) e)
theorem ex_nil : Pxs X c [] [] := PGs.imp pgs_nil fun v σ H Q h => by
  obtain ⟨Pr, g, s, σa, ps, σ', s', R0, S0, V0, e, k⟩ := h
  have hl := ptx_len e
  cases V0 with
  | nil =>
    rw [putTx] at e
    injection e with e1 e2
    subst e1; subst e2
    exact ⟨rfl, k _ H g Ext.refl R0 S0⟩
  | cons h t => cases hl
theorem ex_slot {i : Nat} {x : Str} {es : List Expr} {ts : List Tx} {p : Pos} (hN : X.N.Nodup) (hi : X.N[i]? = some x) (h2 : Pxs X c es ts) (hx : Loc X.env.scope x := by first | exact .inl rfl | exact .inr rfl) (hf : X.fn x = true ∨ X.env.scope.names.lookup x = some .local := by first | exact .inl rfl | exact .inr rfl)
    (hs : (assignEach (.Name x p :: es) X.env).map (·.2) = assign (.Name x p) X.env :: (assignEach es X.env).map (·.2) := by rfl) : Pxs X c (.Name x p :: es) (.slot i :: ts) :=
  PGs.imp (pgs_cons (pg_name hN hi hx hf) h2 hs) fun v σ H Q h => by
    obtain ⟨Pr, g, s, σa, ps, σ', s', R0, S0, V0, e, k⟩ := h
    have hl := ptx_len e
    cases V0 with
    | nil => cases hl
    | cons h q =>
      rename_i v vs p ps
      rw [putTx] at e
      by_cases hi : i < σa.length
      · rw [if_pos hi] at e
        exact ⟨_, _, rfl, Pr, g, s, _, ps, σ', s', R0, S0.set (show VR X.K Pr g H (.d p) v from h), q, e, k⟩
      · rw [if_neg hi] at e; cases e
theorem ex_sub {o i : Expr} {eo ei : E} {es : List Expr} {ts : List Tx} {tpos : Pos} (ho : Pe X c o eo) (hi : Pe X c i ei) (h2 : Pxs X c es ts)
    (ha : ∀ v, assign (.Subscript o i tpos) X.env v = (do
      let ov ← holding [v] (eval o X.env)
      let iv ← holding [v, ov] (eval i X.env)
      standAt tpos
      holding [v, ov, iv] (setItem ov iv v)
      release [v, ov, iv] []) := by intro _; rfl)
    (hs : (assignEach (.Subscript o i tpos :: es) X.env).map (·.2) = assign (.Subscript o i tpos) X.env :: (assignEach es X.env).map (·.2) := by rfl) : Pxs X c (.Subscript o i tpos :: es) (.sub eo ei :: ts) :=
  PGs.imp (pgs_cons (pg_sub ho hi pset_rule ha) h2 hs) fun v σ H Q h => by
    obtain ⟨Pr, g, s, σa, ps, σ', s', R0, S0, V0, e, k⟩ := h
    have hl := ptx_len e
    cases V0 with
    | nil => cases hl
    | cons h q =>
      rename_i v vs p ps
      rw [putTx] at e
      obtain ⟨x, s2, e2, e⟩ := R.bd_eq e
      obtain ⟨z, s3, e3, e⟩ := R.bd_eq e
      obtain ⟨t, s4, e4, e⟩ := R.bd_eq e
      exact ⟨_, _, rfl, Pr, g, s, σa, x, s2, R0, S0, e2, fun w2 H2 g2 X2 R2 V2 => ⟨Pr, g2, s2, σa, z, s3, R2, S0.ext R0 X2, e3, fun w3 H3 g3 X3 R3 V3 =>
        ⟨Pr, g3, s3, x, z, p, t, s4, R3, V2.ext R2 X3, V3, (h.ext R0 X2).ext R2 X3, e4, fun H4 X4 R4 => ⟨Pr, g3, s4, σa, ps, σ', s', R4, (((S0.ext R0 X2).ext R2 X3).ext R3 X4), ((q.ext R0 X2).ext R2 X3).ext R3 X4, e, fun σ2 H5 g5 X5 R5 S5 => k σ2 H5 g5 (((X2.trans X3).trans X4).trans X5) R5 S5⟩⟩⟩⟩
theorem es_asgt {ts : List Tx} {e : E} : evS c n0 (.asgt ts e) = fun σ s => (evE c e σ s).bd fun v s1 => match v with
    | .d (.tuple ps) => (putTx c ts ps σ s1).bd fun σ' s2 => .ok (.nx, σ') s2
    | _ => .bad := by funext σ s; rw [evS]; try rfl
theorem st_asgt {es : List Expr} {ts : List Tx} {e : Expr} {ee : E} {k : Nat} {tpos : Pos} (hc : X.calm = true) (he : Pe X c e ee) (h : Pxs X c es ts) (hn : (assignEach es X.env).length = ts.length := by rfl) (hst : (assignEach es X.env).findIdx? (·.1) = none := by rfl)
    (hs : swapsWithSole [.Tuple es k tpos] e pos.line X.env = pure false := by rfl) (hw : swappedStores [.Tuple es k tpos] e X.env = pure none := by rfl)
    (h1 : (assignEach [.Tuple es k tpos] X.env).map (·.2) = [assign (.Tuple es k tpos) X.env] := by rfl) : Ps X c n0 (.Assign [.Tuple es k tpos] e pos) (.asgt ts ee) :=
  PS.imp (ps_asg he (pg_tup hc h hn hst) hs hw h1) fun D σ H h => by
    obtain ⟨Pr, g, s, σa, y, s', hn, R0, S0, e, kk⟩ := h
    rw [es_asgt] at e
    obtain ⟨v, s1, e1, e⟩ := R.bd_eq e
    refine ⟨Pr, g, s, σa, v, s1, R0, S0, e1, fun w H1 g1 X1 R1 V1 => ?_⟩
    cases v with
    | d p =>
      cases p with
      | tuple ps =>
        have e : ((putTx c ts ps σa s1).bd fun σ' s2 => R.ok ((Fl.nx, σ') : Fl × Env) s2) = .ok y s' := e
        obtain ⟨σ1, s2, e2, e⟩ := R.bd_eq e
        injection e with e3 e4
        subst e3; subst e4
        cases V1 with
        | tup h1 h2 => exact ⟨_, _, rfl, h1, by rw [h2.length, ptx_len e2], Pr, g1, s1, σa, ps, σ1, s2, R1, S0.ext R0 X1, h2, e2, fun σ2 H' g' X' R' S' => kk σ2 H' g' (X1.trans X') R' S'⟩
      | _ => cases e
    | _ => cases e
/-- an int of the module -/
theorem em_gi {x : Str} {i : Nat} {j : Int} (hi : c.glob i = some (.int j)) (hg : Gl X x) (hm : ∃ t, X.mg x = some (.int j t)) (hdb : (x == ("__debug__" : Str)) = false := by decide) : Pe X c (.Name x pos) (.g i) := by
  obtain ⟨t, hm⟩ := hm
  exact em_g (v := .int j) hi hg hm ⟨t, rfl⟩ (fun _ _ => .int j) hdb
theorem noL {o : Op2} (h : o ≠ .add ∧ o ≠ .mul) : ∀ p q, op2L o p q = none := fun p q => by
  cases e : op2L o p q with
  | none => rfl
  | some l => exact (inv_eqL h.1 h.2 e).elim
theorem chk {o1 o2 : Op2} (h : (o1 ≠ .add ∧ o1 ≠ .mul) ∧ (o2 ≠ .add ∧ o2 ≠ .mul) ∧ deepO o1 = false ∧ deepO o2 = false) : (∀ p q, op2L o1 p q = none) ∧ (∀ p q, op2L o2 p q = none) ∧ deepO o1 = false ∧ deepO o2 = false := ⟨noL h.1, noL h.2.1, h.2.2⟩
end
end Em
end

section
set_option Elab.async false
set_option linter.all false
set_option maxRecDepth 100000
set_option maxHeartbeats 400000
/-! EmV: list(range(n)), tuple(range(n)). -/
namespace Em
open PySem PySem.Spec PyProof.Rows L2
section
variable {X : Cx} {c : Ctx} {pos p p2 pos2 : Pos} {a : Expr} {ea : E} {m : Mode}
theorem dq_rg {K : PySem.W.Frag} {M : Addr → Prop} {H : Hp} (b : Int) : ∀ l : List Nat, DqA K M H (l.map fun i => V.int (b + (i : Nat))) (l.map fun (i : Nat) => PyData.int (b + i))
  | [] => .nil
  | i :: r => .cons (.int _) (dq_rg b r)
theorem rg1_read {bb : Bi} {σ : L2.St} {H : Hp} {Q : VK} (hs : stillB bb = false ∧ deepB bb = false) (h : tR X.K (evE c (.bi bb m [.bi .range1 .fr [ea]])) σ H Q) : tR X.K (evE c ea) σ H fun x H1 => ∃ n, x = .int n ∧ RgOk 0 n ∧
    ∃ (Pr : Addr → Prop) (g : Wd) (s s' : Sto) (u : Val), Rl X.K Pr g s H1 ∧ bi bb m [.list ((List.range n.toNat).map fun (i : Nat) => .int (0 + (i : Int)))] s = .ok u s' ∧ ∀ v H' g', Ext g H1 g' H' → Rl X.K Pr g' s' H' → VR X.K Pr g' H' u v → Q v H' := by
  obtain ⟨Pr, g, s, σa, u, s', R0, S0, e, k⟩ := h
  rw [ev_bi] at e
  obtain ⟨vs, s1, e1, e⟩ := R.bd_eq e
  rw [evs_cons, evs_nil] at e1
  obtain ⟨w, s2, e2, e1⟩ := R.bd_eq e1
  injection e1 with e3 e4
  subst e3; subst e4
  obtain ⟨ws, e5, e6⟩ := ev_biD e2
  rw [evs_cons, evs_nil] at e5
  obtain ⟨y, s3, e7, e5⟩ := R.bd_eq e5
  injection e5 with e8 e9
  subst e8; subst e9
  refine ⟨Pr, g, s, σa, y, s3, R0, S0, e7, fun v H' g' X' R' V0 => ?_⟩
  obtain ⟨x, v', q, hws, hx, hv, ⟨l, hl, hm'⟩ | ⟨r', hr, _, _⟩⟩ := un_bi (ws := [v]) rfl (fun _ _ => ⟨rfl, rfl⟩) e6 (.cons V0 .nil)
  · cases hws
    cases q with
    | int n =>
      have hl' : (if -(2 ^ 62) ≤ n ∧ n < 2 ^ 62 ∧ n ≤ sizeMax then some ((List.range n.toNat).map fun (i : Nat) => PyData.int (0 + (i : Int))) else none) = some l := hl
      by_cases hz : -(2 ^ 62) ≤ n ∧ n < 2 ^ 62 ∧ n ≤ sizeMax
      · rw [if_pos hz] at hl'
        have e10 := Option.some.inj hl'
        subst e10
        injection hm' with e11 _
        subst e11
        have e12 := hv.intC hx
        subst e12
        have hM : (sizeMax : Int) = 16777216 := rfl
        refine ⟨n, rfl, ⟨by omega, by omega, hz.1, hz.2.1, by omega⟩, Pr, g', s3, s', u, R', ?_, fun v2 H2 g2 X2 R2 V2 => k v2 H2 g2 (X'.trans X2) R2 V2⟩
        unfold biS at e
        rw [hs.1, hs.2] at e
        exact e
      · rw [if_neg hz] at hl'; cases hl'
    | _ => cases hl
  · cases q <;> cases hr
theorem em_listRg (hc : X.calm = true) (hg : Gl X "list") (hm : X.mg "list" = none) (hg2 : Gl X "range") (hm2 : X.mg "range" = none) (ha : Pe X c a ea) (na : starEach [a] X.env = (false, eval a X.env) :: starEach [] X.env := by rfl)
    (nb : starEach [.Call (.Name "range" p2) [a] [] pos2] X.env = (false, eval (.Call (.Name "range" p2) [a] [] pos2) X.env) :: starEach [] X.env := by rfl) : Pe X c (.Call (.Name "list" p) [.Call (.Name "range" p2) [a] [] pos2] [] pos) (.bi .list m [.bi .range1 .fr [ea]]) :=
  PE.imp (pe_listRg hc hg hm (prg_1 hg2 hm2 ha na) nb) fun σ H Q h => by
    obtain ⟨Pr, g, s, σa, u, s', R0, S0, e, k⟩ := rg1_read ⟨rfl, rfl⟩ h
    refine ⟨Pr, g, s, σa, u, s', R0, S0, e, fun v H' g' X' R' V0 => ?_⟩
    obtain ⟨n, rfl, ok, Pr2, g2, s2, s3, u2, R2, e2, k2⟩ := k v H' g' X' R' V0
    refine ⟨n, rfl, ok, fun q hq => ?_⟩
    have e3 : mkL m ((List.range n.toNat).map fun (i : Nat) => PyData.int (0 + (i : Int))) s2 = .ok u2 s3 := e2
    have d := dq_rg (K := X.K) (M := Ms Pr2 g2) (H := H') 0 (List.range n.toNat)
    have e4 : rgV 0 n = (List.range n.toNat).map fun i => V.int (0 + (i : Nat)) := by unfold rgV; rw [Int.sub_zero]
    rw [e4]
    exact lst_end R2 e3 hq d (by rw [List.length_map, List.length_range, sizeLine_eq]; have := ok.2.2.2.2; omega) k2
theorem em_tupRg (hc : X.calm = true) (hg : Gl X "tuple") (hm : X.mg "tuple" = none) (hg2 : Gl X "range") (hm2 : X.mg "range" = none) (ha : Pe X c a ea) (na : starEach [a] X.env = (false, eval a X.env) :: starEach [] X.env := by rfl)
    (nb : starEach [.Call (.Name "range" p2) [a] [] pos2] X.env = (false, eval (.Call (.Name "range" p2) [a] [] pos2) X.env) :: starEach [] X.env := by rfl) : Pe X c (.Call (.Name "tuple" p) [.Call (.Name "range" p2) [a] [] pos2] [] pos) (.bi .tuple m [.bi .range1 .fr [ea]]) :=
  PE.imp (pe_tupRg hc hg hm (prg_1 hg2 hm2 ha na) nb) fun σ H Q h => by
    obtain ⟨Pr, g, s, σa, u, s', R0, S0, e, k⟩ := rg1_read ⟨rfl, rfl⟩ h
    refine ⟨Pr, g, s, σa, u, s', R0, S0, e, fun v H' g' X' R' V0 => ?_⟩
    obtain ⟨n, rfl, ok, Pr2, g2, s2, s3, u2, R2, e2, k2⟩ := k v H' g' X' R' V0
    refine ⟨n, rfl, ok, fun q hq => ?_⟩
    have e3 : R.ok (Val.d (.tuple ((List.range n.toNat).map fun (i : Nat) => PyData.int (0 + (i : Int))))) s2 = .ok u2 s3 := e2
    injection e3 with e5 e6
    subst e5; subst e6
    have d := dq_rg (K := X.K) (M := Ms Pr2 g2) (H := H') 0 (List.range n.toNat)
    have e4 : rgV 0 n = (List.range n.toNat).map fun i => V.int (0 + (i : Nat)) := by unfold rgV; rw [Int.sub_zero]
    rw [e4]
    exact tup_end R2 hq d k2
end
end Em
end

section
set_option Elab.async false
set_option linter.all false
set_option maxRecDepth 100000
set_option maxHeartbeats 800000
/-! EmDi: dicts of the store. -/
namespace Em
open PySem PySem.Spec PyProof.Rows L2
section
variable {c : Ctx}
theorem ev_dsp {a b : E} : evE c (.dsp a b) = fun σ s => (evE c a σ s).bd fun x s1 => (evE c b σ s1).bd fun y s2 => dspV x y s2 := by funext σ s; rw [evE]; try rfl
theorem ev_din {n : Bool} {a b : E} : evE c (.din n a b) = fun σ s => (evE c a σ s).bd fun x s1 => (evE c b σ s1).bd fun y s2 => dinV n x y s2 := by funext σ s; rw [evE]; try rfl
theorem ev_dix {a b : E} : evE c (.dix a b) = fun σ s => (evE c a σ s).bd fun x s1 => (evE c b σ s1).bd fun y s2 => dixV x y s2 := by funext σ s; rw [evE]; try rfl
theorem ev_dgt {a b z : E} : evE c (.dgt a b z) = fun σ s => (evE c a σ s).bd fun x s1 => if isDi s1 x = true then (evE c b σ s1).bd fun y s2 => (evE c z σ s2).bd fun t s3 => dgtV x y t s3 else .bad := by funext σ s; rw [evE]; try rfl
theorem es_dput {n0 : Nat} {o k e : E} : evS c n0 (.dput o k e) = fun σ s => (evE c e σ s).bd fun v s1 => match v with
    | .d p => (evE c o σ s1).bd fun x s2 => (evE c k σ s2).bd fun y s3 => (dputV x y p s3).bd fun _ s4 => .ok (.nx, σ) s4
    | _ => .bad := by funext σ s; rw [evS]; try rfl
end
section
variable {K : PySem.W.Frag} {Pr P2 : Addr → Prop} {g g' : Wd} {H H' : Hp} {s : Sto} {A : Addr}
theorem Rl.protD (r : Rl K Pr g s H) (hn : H A = none) : Rl K (PrD Pr A) g s (upd H A (.dK [])) := by
  have x : Ext g H g (upd H A (.dK [])) := ext_new hn
  have px : PrX Pr (PrD Pr A) H := prx_D hn
  have ne : ∀ a, (∃ o, H a = some o) → a ≠ A := fun a ⟨o, e⟩ => ne_of_none e hn
  refine ⟨r.lf, r.ln, r.nd, fun a w q => ?_, fun a q => ?_, fun i a c e1 e2 => ?_, fun i a vs e1 e2 => ?_⟩
  · rcases q with q | q
    · exact r.np a w q
    · obtain ⟨ys, e⟩ := r.wl w
      exact ne a ⟨_, e⟩ q
  · rcases q with q | q
    · obtain ⟨ys, e⟩ := r.pr a q
      exact ⟨ys, x.keep a _ e fun w => r.np a w q⟩
    · subst q; exact ⟨.inr [], upd_same⟩
  · have q := r.f i a c e1 e2
    cases c with
    | di _ =>
      obtain ⟨z, ys, q1, q2⟩ := q
      exact ⟨z, ys, by rw [upd_ne (ne a ⟨_, q1⟩)]; exact q1, q2.ext2 r px x⟩
    | li l =>
      obtain ⟨z, ys, q1, q2⟩ := q
      exact ⟨z, ys, by rw [upd_ne (ne a ⟨_, q1⟩)]; exact q1, q2.ext2 r px x⟩
  · obtain ⟨ys, q1, q2⟩ := r.n i a vs e1 e2
    exact ⟨ys, by rw [upd_ne (ne a ⟨_, q1⟩)]; exact q1, q2.ext2 r px x⟩
/-- a writable thing that is a dict is changed: what is data stays -/
theorem Dq.wD {es : List (Key × V)} {v : V} {p : PyData} {ys : List (Key × V)} (hP : Ms Pr g A) (hD : H A = some (.dK es)) (h : Dq K (Ms Pr g) H v p) : Dq K (Ms Pr g) (upd H A (.dK ys)) v p :=
  Dq.mono p h (fun a zs e n => ⟨by rw [upd_ne (show a ≠ A from fun z => n (z ▸ hP))]; exact e, n⟩) (fun a zs e => by
    have ne : ∀ o, H a = some o → (∀ ws, o ≠ .dK ws) → a ≠ A := fun o e q z => by subst z; rw [hD] at e; cases e; exact q _ rfl
    rcases e with (e | ⟨o, e⟩) | e
    · exact .inl (.inl (by rw [upd_ne (ne _ e fun _ z => nomatch z)]; exact e))
    · exact .inl (.inr ⟨o, by rw [upd_ne (ne _ e fun _ z => nomatch z)]; exact e⟩)
    · exact .inr e) fun a e n => ⟨by rw [upd_ne (show a ≠ A from fun z => n (z ▸ hP))]; exact e, n⟩
theorem DqA.wD {es ys : List (Key × V)} (hP : Ms Pr g A) (hD : H A = some (.dK es)) : ∀ {vs : List V} {ps : List PyData}, DqA K (Ms Pr g) H vs ps → DqA K (Ms Pr g) (upd H A (.dK ys)) vs ps
  | _, _, .nil => .nil
  | _, _, .cons h t => .cons (h.wD hP hD) (DqA.wD hP hD t)
theorem KqA.wD {es ys : List (Key × V)} (hP : Ms Pr g A) (hD : H A = some (.dK es)) {vs : List (Key × V)} {ps : List (Key × PyData)} (h : KqA K (Ms Pr g) H vs ps) : KqA K (Ms Pr g) (upd H A (.dK ys)) vs ps := h.mono fun _ _ h => h.wD hP hD
theorem VR.wD {es ys : List (Key × V)} (hP : Ms Pr g A) (hD : H A = some (.dK es)) : ∀ {u : Val} {v : V}, VR K Pr g H u v → VR K Pr g (upd H A (.dK ys)) u v
  | .d p, v, h => Dq.wD hP hD (show Dq K (Ms Pr g) H v p from h)
  | .fl i, v, h => h
  | .ne i, v, h => h
  | .sc l, v, ⟨a, e, h⟩ => by
    refine ⟨a, e, h.elim (fun ⟨h, n⟩ => .inl ⟨?_, n⟩) .inr⟩
    have ne : a ≠ A := fun z => n (z ▸ hP)
    rcases h with h | ⟨o, h⟩
    · exact .inl (by rw [upd_ne ne]; exact h)
    · exact .inr ⟨o, by rw [upd_ne ne]; exact h⟩
theorem VRs.wD {es ys : List (Key × V)} (hP : Ms Pr g A) (hD : H A = some (.dK es)) : ∀ {u : List Val} {v : List V}, VRs K Pr g H u v → VRs K Pr g (upd H A (.dK ys)) u v
  | _, _, .nil => .nil
  | _, _, .cons h t => .cons (h.wD hP hD) (VRs.wD hP hD t)
/-- a dict of the store is changed -/
theorem write_md (r : Rl K Pr g s H) {j : Nat} {a : Addr} {xs ys : List (Key × V)} {l : List (Key × D)} (ea : g.mu[j]? = some a) (hD : H a = some (.dK xs)) (h : KqA K (Ms Pr g) H ys l) (hz : l.length ≤ sizeLine) :
    Ext g H g (upd H a (.dK ys)) ∧ Rl K Pr g { s with F := s.F.set j (.di l) } (upd H a (.dK ys)) := by
  have wa : g.W a := .inl (List.mem_of_getElem? ea)
  have x : Ext g H g (upd H a (.dK ys)) := ⟨List.prefix_rfl, List.prefix_rfl, fun b o e n => by rw [upd_ne fun z => n (by rw [z]; exact wa)]; exact e, fun b w n => absurd w n⟩
  have d := List.nodup_append.mp r.nd
  refine ⟨x, ⟨by simp [r.lf], r.ln, r.nd, r.np, fun b q => ?_, fun i b c e1 e2 => ?_, fun i b vs e1 e2 => ?_⟩⟩
  · obtain ⟨ys, e⟩ := r.pr b q
    exact ⟨ys, x.keep b _ e fun w => r.np b w q⟩
  · by_cases hij : j = i
    · subst hij
      have e3 : a = b := Option.some.inj (ea.symm.trans e1)
      subst e3
      have hl : j < s.F.length := by rw [← r.lf]; exact (List.getElem?_eq_some_iff.mp ea).1
      have e2 : (s.F.set j (Cell.di l))[j]? = some c := e2
      rw [List.getElem?_set_self hl] at e2
      cases e2
      exact ⟨hz, ys, upd_same, h.ext r x⟩
    · have e2 : (s.F.set j (Cell.di l))[i]? = some c := e2
      rw [List.getElem?_set_ne hij] at e2
      have hb : b ≠ a := fun z => hij (by
        subst z
        obtain ⟨h1, q1⟩ := List.getElem?_eq_some_iff.mp ea
        obtain ⟨h2, q2⟩ := List.getElem?_eq_some_iff.mp e1
        exact (List.getElem_inj d.1).mp (q1.trans q2.symm))
      have q := r.f i b c e1 e2
      cases c with
      | li l' =>
        obtain ⟨z, ys, q1, q2⟩ := q
        exact ⟨z, ys, by rw [upd_ne hb]; exact q1, q2.ext r x⟩
      | di l' =>
        obtain ⟨z, ys, q1, q2⟩ := q
        exact ⟨z, ys, by rw [upd_ne hb]; exact q1, q2.ext r x⟩
  · obtain ⟨ys, q1, q2⟩ := r.n i b vs e1 e2
    have hb : b ≠ a := fun z => d.2.2 a (List.mem_of_getElem? ea) b (List.mem_of_getElem? e1) z.symm
    exact ⟨ys, by rw [upd_ne hb]; exact q1, q2.ext r x⟩
/-- the dict that was held off is a dict of the frame's -/
theorem dk_at (r : Rl K (PrD Pr A) g s H) (nP : ¬ Pr A) {es : List (Key × V)} {kvs : List (Key × D)} (hD : H A = some (.dK [])) (h : KqA K (Ms (PrD Pr A) g) H es kvs) (hz : kvs.length ≤ sizeLine) :
    Rl K Pr ⟨g.mu ++ [A], g.nu⟩ { s with F := s.F ++ [.di kvs] } (upd H A (.dK es)) ∧ (g.mu ++ [A])[s.F.length]? = some A := by
  have nW : ¬ g.W A := fun w => r.np A w (.inr rfl)
  have hP : Ms (PrD Pr A) g A := .inr (.inr rfl)
  have ne : ∀ a, g.W a → a ≠ A := fun a w z => nW (z ▸ w)
  have wW : ∀ a, (⟨g.mu ++ [A], g.nu⟩ : Wd).W a → g.W a ∨ a = A := fun a w => w.elim (fun w => (List.mem_append.mp w).elim (fun w => .inl (.inl w)) fun w => .inr (List.mem_singleton.mp w)) fun w => .inl (.inr w)
  have hM : ∀ a, Ms Pr (⟨g.mu ++ [A], g.nu⟩ : Wd) a → Ms (PrD Pr A) g a := fun a m => m.elim (fun w => (wW a w).elim .inl fun w => .inr (.inr w)) fun w => .inr (.inl w)
  have pm : g.mu <+: (⟨g.mu ++ [A], g.nu⟩ : Wd).mu := List.prefix_append _ _
  have nd := List.nodup_append.mp r.nd
  have at_ : (g.mu ++ [A])[s.F.length]? = some A := by rw [← r.lf]; simp
  refine ⟨⟨by simp [r.lf], r.ln, ?_, fun a w q => ?_, fun a q => ?_, fun i a c e1 e2 => ?_, fun i a vs e1 e2 => ?_⟩, at_⟩
  · show (g.mu ++ [A] ++ g.nu).Nodup
    rw [List.append_assoc, List.nodup_append]
    refine ⟨nd.1, List.nodup_cons.mpr ⟨fun h => nW (.inr h), nd.2.1⟩, fun a ha b hb e => ?_⟩
    subst e
    rcases List.mem_cons.mp hb with e | hb
    · exact nW (.inl (e ▸ ha))
    · exact nd.2.2 a ha a hb rfl
  · rcases wW a w with w | w
    · exact r.np a w (.inl q)
    · exact nP (w ▸ q)
  · have : a ≠ A := fun z => nP (z ▸ q)
    rw [upd_ne this]; exact r.pr a (.inl q)
  · have e1 : (g.mu ++ [A])[i]? = some a := e1
    have e2 : (s.F ++ [Cell.di kvs])[i]? = some c := e2
    by_cases hi : i < s.F.length
    · rw [List.getElem?_append_left (by rw [r.lf]; exact hi)] at e1
      rw [List.getElem?_append_left hi] at e2
      have q := r.f i a c e1 e2
      have na := ne a (.inl (List.mem_of_getElem? e1))
      cases c with
      | di _ => obtain ⟨z, zs, q1, q2⟩ := q; exact ⟨z, zs, by rw [upd_ne na]; exact q1, (q2.wD hP hD).less hM⟩
      | li l => obtain ⟨z, zs, q1, q2⟩ := q; exact ⟨z, zs, by rw [upd_ne na]; exact q1, (q2.wD hP hD).less hM⟩
    · rw [List.getElem?_append_right (by omega)] at e2
      have hi2 : i = s.F.length := by
        have := (List.getElem?_eq_some_iff.mp e2).1
        simp at this
        omega
      subst hi2
      have e3 : A = a := Option.some.inj (at_.symm.trans e1)
      subst e3
      simp at e2
      subst e2
      exact ⟨hz, es, upd_same, (h.wD hP hD).less hM⟩
  · obtain ⟨zs, q1, q2⟩ := r.n i a vs e1 e2
    exact ⟨zs, by rw [upd_ne (ne a (.inr (List.mem_of_getElem? e1)))]; exact q1, (q2.wD hP hD).less hM pm List.prefix_rfl⟩
theorem keyD_V {M : Addr → Prop} {v : V} {a : D} {q : Key} (h : Dq K M H v a) (e : keyD a = some q) : v = kV q := by
  cases h <;> first | (cases e; done) | (cases e; rfl)
/-- a dict of the store beside a key -/
theorem dkV_ok (r : Rl K Pr g s H) {o k : Val} {vo vk : V} {kvs : List (Key × D)} {q : Key} (e : dkV s o k = some (kvs, q)) (V1 : VR K Pr g H o vo) (V2 : VR K Pr g H k vk) :
    ∃ j a es, o = .fl j ∧ s.F[j]? = some (.di kvs) ∧ g.mu[j]? = some a ∧ vo = .ref a ∧ vk = kV q ∧ H a = some (.dK es) ∧ KqA K (Ms Pr g) H es kvs ∧ kvs.length ≤ sizeLine := by
  unfold dkV at e
  cases o with
  | fl j =>
    cases k with
    | d a =>
      simp only at e
      cases h1 : s.F[j]? with
      | none => simp only [h1] at e; cases e
      | some cc =>
        cases cc with
        | li l => simp only [h1] at e; cases e
        | di kv =>
          cases h2 : keyD a with
          | none => simp only [h1, h2] at e; cases e
          | some q' =>
            simp only [h1, h2] at e
            have e := Option.some.inj e
            obtain ⟨rfl, rfl⟩ := Prod.mk.inj e
            obtain ⟨b, eb, rfl⟩ := V1
            obtain ⟨z, es, q1, q2⟩ := r.f j b _ eb h1
            exact ⟨j, b, es, rfl, h1, eb, rfl, keyD_V V2 h2, q1, q2, z⟩
    | _ => cases e
  | _ => cases k <;> cases e
end
section
variable {X : Cx} {c : Ctx} {a b e k o : Expr} {ea eb ee ek eo ez : E} {pos p : Pos} {n0 : Nat}
theorem isD_of {K : PySem.W.Frag} {Pr : Addr → Prop} {g : Wd} {H : Hp} {s : Sto} (r : Rl K Pr g s H) {x : Val} {v : V} (V0 : VR K Pr g H x v) (hd : isDi s x = true) : ∃ a, v = .ref a ∧ IsD H a := by
  cases x with
  | fl j =>
    obtain ⟨a, ea, rfl⟩ := V0
    obtain ⟨c, hc⟩ := r.lt_mu ea
    have q := r.f j a c ea hc
    cases c with
    | li l => simp only [isDi, hc] at hd; cases hd
    | di kvs => obtain ⟨_, es, q, _⟩ := q; exact ⟨a, rfl, .inl ⟨es, .inl q⟩⟩
  | _ => cases hd
theorem KqA.some_eq {K : PySem.W.Frag} {M : Addr → Prop} {H : Hp} {es : List (Key × V)} {kvs : List (Key × D)} (h : KqA K M H es kvs) (q : Key) : (valV es q).isSome = (getK kvs q).isSome := by
  rcases h.get q with ⟨q1, q2⟩ | ⟨_, _, q1, q2, _⟩ <;> rw [q1, q2] <;> rfl
/-- k in d -/
theorem din_imp {σ : L2.St} {H : Hp} {Q : VK} (h : tR X.K (evE c (.din false ea eb)) σ H Q) : tDIn (tR X.K (evE c ea)) (tR X.K (evE c eb)) σ H Q := by
  rw [ev_din] at h
  obtain ⟨Pr, g, s, σa, u, s', R0, S0, e, kk⟩ := h
  obtain ⟨x, s1, e1, e⟩ := R.bd_eq e
  obtain ⟨y, s2, e2, e⟩ := R.bd_eq e
  refine ⟨Pr, g, s, σa, x, s1, R0, S0, e1, fun v1 H1 g1 X1 R1 V1 => ⟨Pr, g1, s1, σa, y, s2, R1, S0.ext R0 X1, e2, fun v2 H2 g2 X2 R2 V2 => ?_⟩⟩
  unfold dinV at e
  cases h1 : dkV s2 y x with
  | none => simp only [h1] at e; cases e
  | some w =>
    obtain ⟨kvs, q⟩ := w
    simp only [h1, Bool.false_eq_true, if_false] at e
    injection e with e3 e4
    subst e3; subst e4
    obtain ⟨j, aa, es, rfl, hF, em, rfl, rfl, hD, hq, _⟩ := dkV_ok R2 h1 V2 (V1.ext R1 X2)
    refine ⟨aa, valV es q, rfl, DGet.k hD, ?_⟩
    rw [hq.some_eq q]
    exact kk _ H2 g2 (X1.trans X2) R2 (Dq.bl _)
theorem em_din (hu : X.A.units + 1 < cLine) (ha : Pe X c a ea) (hb : Pe X c b eb) (hm : behindInMarks .In b = false := by rfl) : Pe X c (.Compare a [.In] [b] pos) (.din false ea eb) := PE.imp (pe_cmp (pc_din hu ha hb) hm) fun σ H Q h => din_imp h
theorem tt_din (hu : X.A.units + 1 < cLine) (ha : Pe X c a ea) (hb : Pe X c b eb) (hm : behindInMarks .In b = false := by rfl) : Pt X c (.Compare a [.In] [b] pos) (.din false ea eb) := PT.imp (pt_cmp (pc_din hu ha hb) hm) fun σ H Q h => din_imp (tT_of h)
theorem dnotin_imp {σ : L2.St} {H : Hp} {Q : VK} (h : tR X.K (evE c (.din true ea eb)) σ H Q) : tDNotIn (tR X.K (evE c ea)) (tR X.K (evE c eb)) σ H Q := by
  rw [ev_din] at h
  obtain ⟨Pr, g, s, σa, u, s', R0, S0, e, kk⟩ := h
  obtain ⟨x, s1, e1, e⟩ := R.bd_eq e
  obtain ⟨y, s2, e2, e⟩ := R.bd_eq e
  refine ⟨Pr, g, s, σa, x, s1, R0, S0, e1, fun v1 H1 g1 X1 R1 V1 => ⟨Pr, g1, s1, σa, y, s2, R1, S0.ext R0 X1, e2, fun v2 H2 g2 X2 R2 V2 => ?_⟩⟩
  unfold dinV at e
  cases h1 : dkV s2 y x with
  | none => simp only [h1] at e; cases e
  | some w =>
    obtain ⟨kvs, q⟩ := w
    simp only [h1, if_true] at e
    injection e with e3 e4
    subst e3; subst e4
    obtain ⟨j, aa, es, rfl, hF, em, rfl, rfl, hD, hq, _⟩ := dkV_ok R2 h1 V2 (V1.ext R1 X2)
    refine ⟨aa, valV es q, rfl, DGet.k hD, ?_⟩
    rw [hq.some_eq q]
    exact kk _ H2 g2 (X1.trans X2) R2 (Dq.bl _)
theorem em_dnotin (hu : X.A.units + 1 < cLine) (ha : Pe X c a ea) (hb : Pe X c b eb) (hm : behindInMarks .NotIn b = false := by rfl) : Pe X c (.Compare a [.NotIn] [b] pos) (.din true ea eb) := PE.imp (pe_cmp (pc_dnotin hu ha hb) hm) fun σ H Q h => dnotin_imp h
theorem tt_dnotin (hu : X.A.units + 1 < cLine) (ha : Pe X c a ea) (hb : Pe X c b eb) (hm : behindInMarks .NotIn b = false := by rfl) : Pt X c (.Compare a [.NotIn] [b] pos) (.din true ea eb) := PT.imp (pt_cmp (pc_dnotin hu ha hb) hm) fun σ H Q h => dnotin_imp (tT_of h)
/-- d[k] -/
theorem em_dix (hu : X.A.units + 1 < cLine) (ha : Pe X c a ea) (hb : Pe X c b eb) (hs : NoSl b := by intro _ _; rfl) : Pe X c (.Subscript a b pos) (.dix ea eb) := PE.imp (pe_dget hu ha hb hs) fun σ H Q h => by
  rw [ev_dix] at h
  obtain ⟨Pr, g, s, σa, u, s', R0, S0, e, kk⟩ := h
  obtain ⟨x, s1, e1, e⟩ := R.bd_eq e
  obtain ⟨y, s2, e2, e⟩ := R.bd_eq e
  refine ⟨Pr, g, s, σa, x, s1, R0, S0, e1, fun v1 H1 g1 X1 R1 V1 => ⟨Pr, g1, s1, σa, y, s2, R1, S0.ext R0 X1, e2, fun v2 H2 g2 X2 R2 V2 => ?_⟩⟩
  unfold dixV at e
  cases h1 : dkV s2 x y with
  | none => simp only [h1] at e; cases e
  | some w =>
    obtain ⟨kvs, q⟩ := w
    simp only [h1] at e
    cases h3 : getK kvs q with
    | none => simp only [h3] at e; cases e
    | some p =>
      simp only [h3] at e
      injection e with e3 e4
      subst e3; subst e4
      obtain ⟨j, aa, es, rfl, hF, em, rfl, rfl, hD, hq, _⟩ := dkV_ok R2 h1 (V1.ext R1 X2) V2
      rcases hq.get q with ⟨q1, q2⟩ | ⟨p', v, q1, q2, q3⟩
      · rw [q1] at h3; cases h3
      · rw [q1] at h3
        cases h3
        refine ⟨aa, v, rfl, ?_, kk v H2 g2 (X1.trans X2) R2 q3⟩
        rw [← q2]; exact DGet.k hD
/-- d.get(k, z) -/
theorem em_dgt {apos cpos : Pos} (hu : X.A.units + 1 < cLine) (ha : Pe X c a ea) (hb : Pe X c b eb) (hz : Pe X c e ez) (m : M2 X a "get" apos b e cpos := by exact ⟨rfl, rfl, rfl, rfl⟩) : Pe X c (.Call (.Attribute a "get" apos) [b, e] [] cpos) (.dgt ea eb ez) := PE.imp (pe_dget2 hu ha hb hz m) fun σ H Q h => by
  rw [ev_dgt] at h
  obtain ⟨Pr, g, s, σa, u, s', R0, S0, e, kk⟩ := h
  obtain ⟨x, s1, e1, e⟩ := R.bd_eq e
  cases hd : isDi s1 x with
  | false => simp only [hd, Bool.false_eq_true, if_false] at e; cases e
  | true =>
  simp only [hd, if_true] at e
  obtain ⟨y, s2, e2, e⟩ := R.bd_eq e
  obtain ⟨z, s3, e3, e⟩ := R.bd_eq e
  refine ⟨Pr, g, s, σa, x, s1, R0, S0, e1, fun v1 H1 g1 X1 R1 V1 => ?_⟩
  obtain ⟨aa, rfl, hI⟩ := isD_of R1 V1 hd
  refine ⟨aa, rfl, hI, Pr, g1, s1, σa, y, s2, R1, S0.ext R0 X1, e2, fun v2 H2 g2 X2 R2 V2 => ⟨Pr, g2, s2, σa, z, s3, R2, (S0.ext R0 X1).ext R1 X2, e3, fun v3 H3 g3 X3 R3 V3 => ?_⟩⟩
  unfold dgtV at e
  cases h1 : dkV s3 x y with
  | none => simp only [h1] at e; cases e
  | some w =>
    obtain ⟨kvs, q⟩ := w
    simp only [h1] at e
    cases z with
    | d p =>
      simp only at e
      injection e with e5 e6
      subst e5; subst e6
      obtain ⟨j, ab, es, rfl, hF, em, hr, rfl, hD, hq, _⟩ := dkV_ok R3 h1 ((V1.ext R1 X2).ext R2 X3) (V2.ext R2 X3)
      cases hr
      refine ⟨valV es q, DGet.k hD, ?_⟩
      rcases hq.get q with ⟨q1, q2⟩ | ⟨p', v, q1, q2, q3⟩
      · rw [q1] at kk; rw [q2]
        exact kk _ H3 g3 ((X1.trans X2).trans X3) R3 V3
      · rw [q1] at kk; rw [q2]
        exact kk _ H3 g3 ((X1.trans X2).trans X3) R3 q3
    | _ => cases e
/-- {k: v} -/
theorem em_dsp (hk : Pe X c k ek) (he : Pe X c e ee) : Pe X c (.Dict [some k] [e] pos) (.dsp ek ee) := PE.imp (pe_disp (pps_cons hk he pps_nil) rfl rfl (fun z => nomatch z) (by show 1 ≤ 15; decide)) fun σ H Q h => by
  rw [ev_dsp] at h
  obtain ⟨Pr, g, s, σa, u, s', R0, S0, e, kk⟩ := h
  obtain ⟨x, s1, e1, e⟩ := R.bd_eq e
  obtain ⟨y, s2, e2, e⟩ := R.bd_eq e
  intro p hp
  have Rp := R0.protD hp
  have nP : ¬ Pr p := fun q => by obtain ⟨ys, e⟩ := R0.pr p q; rw [hp] at e; cases e
  have nW : ¬ g.W p := fun q => by obtain ⟨ys, e⟩ := R0.wl q; rw [hp] at e; cases e
  have x0 : Ext g H g (upd H p (.dK [])) := ext_new hp
  have Sp := S0.ext2 R0 (prx_D hp) x0
  refine ⟨_, g, s, σa, x, s1, Rp, Sp, e1, fun v1 H1 g1 X1 R1 V1 => ⟨_, g1, s1, σa, y, s2, R1, Sp.ext Rp X1, e2, fun v2 H2 g2 X2 R2 V2 => ?_⟩⟩
  have X12 := X1.trans X2
  have hp2 : H2 p = some (.dK []) := X12.keep p _ upd_same nW
  unfold dspV at e
  cases x with
  | d a =>
    cases y with
    | d b =>
      simp only at e
      cases hq : keyD a with
      | none => simp only [hq] at e; cases e
      | some q =>
        simp only [hq] at e
        injection e with e3 e4
        subst e3; subst e4
        have hv1 := keyD_V V1 hq
        subst hv1
        have V2' : Dq X.K (Ms (PrD Pr p) g2) H2 v2 b := V2
        obtain ⟨R3, at_⟩ := dk_at R2 nP hp2 (.cons (k := q) V2' .nil) (by show 1 ≤ sizeLine; decide)
        refine ⟨hp2, [(q, v2)], rfl, by show 1 ≤ 15; decide, ?_⟩
        have hmk : mergeK [] [(q, v2)] = [(q, v2)] := rfl
        rw [hmk]
        refine kk (.ref p) _ ⟨g2.mu ++ [p], g2.nu⟩ ⟨X12.pm.trans (List.prefix_append _ _), X12.pn, fun b o e n => ?_, fun b w n => ?_⟩ R3 ⟨p, at_, rfl⟩
        · have nb : b ≠ p := ne_of_none e hp
          rw [upd_ne nb]
          exact X12.keep b o (by rw [upd_ne nb]; exact e) n
        · by_cases nb : b = p
          · subst nb; exact hp
          · have w2 : g2.W b := w.elim (fun w => (List.mem_append.mp w).elim .inl fun w => absurd (List.mem_singleton.mp w) nb) .inr
            have := X12.new b w2 n
            rwa [upd_ne nb] at this
    | _ => cases e
  | _ => cases e
/-- d[k] = e -/
theorem st_dput {tpos : Pos} (hu : X.A.units + 1 < cLine) (ho : Pe X c o eo) (hk : Pe X c k ek) (he : Pe X c e ee) (hs : swapsWith e (some (.Subscript o k tpos)) pos.line X.env = pure false := by rfl) :
    Ps X c n0 (.Assign [.Subscript o k tpos] e pos) (.dput eo ek ee) := PS.imp (ps_dput hu ho hk he hs) fun D σ H h => by
  obtain ⟨Pr, g, s, σa, y, s', hn, R0, S0, e, kk⟩ := h
  rw [es_dput] at e
  obtain ⟨v, s1, e1, e⟩ := R.bd_eq e
  refine ⟨Pr, g, s, σa, v, s1, R0, S0, e1, fun w H1 g1 X1 R1 V1 => ?_⟩
  cases v with
  | d p =>
    have e : ((evE c eo σa s1).bd fun x s2 => (evE c ek σa s2).bd fun y s3 => (dputV x y p s3).bd fun _ s4 => R.ok ((Fl.nx, σa) : Fl × Env) s4) = .ok y s' := e
    obtain ⟨x, s2, e2, e⟩ := R.bd_eq e
    obtain ⟨z, s3, e3, e⟩ := R.bd_eq e
    obtain ⟨t, s4, e4, e⟩ := R.bd_eq e
    injection e with e5 e6
    subst e5; subst e6
    refine ⟨Pr, g1, s1, σa, x, s2, R1, S0.ext R0 X1, e2, fun w2 H2 g2 X2 R2 V2 => ⟨Pr, g2, s2, σa, z, s3, R2, (S0.ext R0 X1).ext R1 X2, e3, fun w3 H3 g3 X3 R3 V3 => ?_⟩⟩
    unfold dputV at e4
    cases h1 : dkV s3 x z with
    | none => simp only [h1] at e4; cases e4
    | some ww =>
      obtain ⟨kvs, q⟩ := ww
      simp only [h1] at e4
      obtain ⟨j, aa, es, rfl, hF, em, rfl, rfl, hD, hq, _⟩ := dkV_ok R3 h1 (V2.ext R2 X3) V3
      simp only at e4
      by_cases hz : kvs.length < sizeMax
      · rw [if_pos hz] at e4
        injection e4 with e7 e8
        subst e8
        have hp : Dq X.K (Ms Pr g3) H3 w p := ((show Dq X.K (Ms Pr g1) H1 w p from V1).ext R1 X2).ext R2 X3
        have hl := hq.length
        have h2 := len_setK kvs q p
        rw [sizeMax_eq] at hz
        obtain ⟨x4, R4⟩ := write_md R3 em hD (hq.set q hp) (by omega)
        exact ⟨aa, _, rfl, DPut.k hD (by omega), kk σ _ g3 (((X1.trans X2).trans X3).trans x4) R4 ((((S0.ext R0 X1).ext R1 X2).ext R2 X3).ext R3 x4)⟩
      · rw [if_neg hz] at e4; cases e4
  | _ => cases e
end
end Em
end

section
set_option Elab.async false
set_option linter.all false
set_option maxRecDepth 100000
set_option maxHeartbeats 400000
/-! EmW: running the evaluator, in plain Lean. -/
namespace Em
open PySem
@[simp] theorem q_Em_ev_v_1 : ∀ {c : Em.Ctx} {i : Nat},
  Em.evE c (Em.E.v i) = fun (σ : Em.Env) (s : Em.Sto) =>
    match σ[i]? with
    | Option.some (Option.some v) => Em.R.ok v s
    | x => Em.R.bad := @Em.ev_v
@[simp] theorem q_Em_ev_k_1 : ∀ {c : Em.Ctx} {p : Em.D}, Em.evE c (Em.E.k p) = fun (x : Em.Env) (s : Em.Sto) => Em.R.ok (Em.Val.d p) s := @Em.ev_k
@[simp] theorem q_Em_ev_g_1 : ∀ {c : Em.Ctx} {i : Nat},
  Em.evE c (Em.E.g i) = fun (x : Em.Env) (s : Em.Sto) =>
    match c.glob i with
    | Option.some p => Em.R.ok (Em.Val.d p) s
    | Option.none => Em.R.bad := @Em.ev_g
@[simp] theorem q_Em_ev_pow_1 : ∀ {c : Em.Ctx} {a b : Nat}, Em.evE c (Em.E.pow a b) = fun (x : Em.Env) (s : Em.Sto) => Em.R.ok (Em.Val.d (PySem.PyData.int (↑a ^ b))) s := @Em.ev_pow
@[simp] theorem q_Em_ev_op_1 : ∀ {c : Em.Ctx} {o : Em.Op2} {m : Em.Mode} {a b : Em.E}, Em.evE c (Em.E.op o m a b) = fun (σ : Em.Env) (s : Em.Sto) => (Em.evE c a σ s).bd fun (x : Em.Val) (s1 : Em.Sto) => (Em.evE c b σ s1).bd fun (y : Em.Val) (s2 : Em.Sto) => Em.op2S o m x y s2 := @Em.ev_op
@[simp] theorem q_Em_ev_not_1 : ∀ {c : Em.Ctx} {a : Em.E}, Em.evE c a.not = fun (σ : Em.Env) (s : Em.Sto) => (Em.tst (Em.evE c a σ s)).bd fun (b : Bool) (s1 : Em.Sto) => Em.R.ok (Em.Val.d (PySem.PyData.bool !b)) s1 := @Em.ev_not
@[simp] theorem q_Em_ev_neg_1 : ∀ {c : Em.Ctx} {a : Em.E},
  Em.evE c a.neg = fun (σ : Em.Env) (s : Em.Sto) =>
    (Em.evE c a σ s).bd fun (x : Em.Val) (s1 : Em.Sto) =>
      match x with
      | Em.Val.d (PySem.PyData.int i) => Em.R.ok (Em.Val.d (PySem.PyData.int (-i))) s1
      | x => Em.R.bad := @Em.ev_neg
@[simp] theorem q_Em_ev_and_1 : ∀ {c : Em.Ctx} {a b : Em.E}, Em.evE c (a.and b) = fun (σ : Em.Env) (s : Em.Sto) => (Em.tst (Em.evE c a σ s)).bd fun (x : Bool) (s1 : Em.Sto) => if x = Bool.true then Em.evE c b σ s1 else Em.R.ok (Em.Val.d (PySem.PyData.bool Bool.false)) s1 := @Em.ev_and
@[simp] theorem q_Em_ev_or_1 : ∀ {c : Em.Ctx} {a b : Em.E}, Em.evE c (a.or b) = fun (σ : Em.Env) (s : Em.Sto) => (Em.tst (Em.evE c a σ s)).bd fun (x : Bool) (s1 : Em.Sto) => if x = Bool.true then Em.R.ok (Em.Val.d (PySem.PyData.bool Bool.true)) s1 else Em.evE c b σ s1 := @Em.ev_or
@[simp] theorem q_Em_ev_chain_1 : ∀ {c : Em.Ctx} {o1 o2 : Em.Op2} {a b e : Em.E},
  Em.evE c (Em.E.chain o1 o2 a b e) = fun (σ : Em.Env) (s : Em.Sto) =>
    (Em.evE c a σ s).bd fun (x : Em.Val) (s1 : Em.Sto) =>
      (Em.evE c b σ s1).bd fun (y : Em.Val) (s2 : Em.Sto) =>
        match x, y with
        | Em.Val.d p, Em.Val.d q =>
          match Em.op2V o1 p q with
          | Option.some (PySem.PyData.bool Bool.true) =>
            (Em.evE c e σ s2).bd fun (z : Em.Val) (s3 : Em.Sto) =>
              match z with
              | Em.Val.d r =>
                match Em.op2V o2 q r with
                | Option.some t => Em.R.ok (Em.Val.d t) s3
                | Option.none => Em.R.bad
              | x => Em.R.bad
          | Option.some (PySem.PyData.bool Bool.false) => Em.R.ok (Em.Val.d (PySem.PyData.bool Bool.false)) s2
          | x => Em.R.bad
        | x, x_1 => Em.R.bad := @Em.ev_chain
@[simp] theorem q_Em_ev_ite_1 : ∀ {c : Em.Ctx} {t a b : Em.E}, Em.evE c (t.ite a b) = fun (σ : Em.Env) (s : Em.Sto) => (Em.tst (Em.evE c t σ s)).bd fun (x : Bool) (s1 : Em.Sto) => if x = Bool.true then Em.evE c a σ s1 else Em.evE c b σ s1 := @Em.ev_ite
@[simp] theorem q_Em_ev_call_1 : ∀ {c : Em.Ctx} {f : Nat} {m : Em.Mode} {es : List Em.E} {kws : List (Nat × Em.E)}, Em.evE c (Em.E.call f m es kws) = fun (σ : Em.Env) (s : Em.Sto) => (Em.evEs c es σ s).bd fun (vs : List Em.Val) (s1 : Em.Sto) => (Em.evKs c kws σ s1).bd fun (ks : List (Nat × Em.Val)) (s2 : Em.Sto) => if (vs.all Em.argOk && ks.all fun (p : Nat × Em.Val) => Em.argOk p.snd) = Bool.true then Em.called m s2 (c.call f vs ks s2.F) else Em.R.bad := @Em.ev_call
@[simp] theorem q_Em_ev_bi_1 : ∀ {c : Em.Ctx} {b : Em.Bi} {m : Em.Mode} {es : List Em.E}, Em.evE c (Em.E.bi b m es) = fun (σ : Em.Env) (s : Em.Sto) => (Em.evEs c es σ s).bd fun (vs : List Em.Val) (s1 : Em.Sto) => Em.biS b m vs s1 := @Em.ev_bi
@[simp] theorem q_Em_ev_isi_1 : ∀ {c : Em.Ctx} {a : Em.E} {ts : List String}, Em.evE c (a.isi ts) = fun (σ : Em.Env) (s : Em.Sto) => (Em.evE c a σ s).bd fun (x : Em.Val) (s1 : Em.Sto) => Em.isiV x ts s1 := @Em.ev_isi
@[simp] theorem q_Em_ev_mt_1 : ∀ {c : Em.Ctx} {b : Em.Mt} {o : Em.E} {es : List Em.E}, Em.evE c (Em.E.mt b o es) = fun (σ : Em.Env) (s : Em.Sto) => (Em.evE c o σ s).bd fun (x : Em.Val) (s1 : Em.Sto) => if Em.isDi s1 x = Bool.true then Em.R.bad else (Em.evEs c es σ s1).bd fun (vs : List Em.Val) (s2 : Em.Sto) => Em.mtV b x vs s2 := @Em.ev_mt
@[simp] theorem q_Em_ev_ix_1 : ∀ {c : Em.Ctx} {a i : Em.E}, Em.evE c (a.ix i) = fun (σ : Em.Env) (s : Em.Sto) => (Em.evE c a σ s).bd fun (x : Em.Val) (s1 : Em.Sto) => (Em.evE c i σ s1).bd fun (y : Em.Val) (s2 : Em.Sto) => Em.ixV x y s2 := @Em.ev_ix
@[simp] theorem q_Em_ev_sl_1 : ∀ {c : Em.Ctx} {m : Em.Mode} {a : Em.E} {lo hi : Option Em.E}, Em.evE c (Em.E.sl m a lo hi) = fun (σ : Em.Env) (s : Em.Sto) => (Em.evE c a σ s).bd fun (x : Em.Val) (s1 : Em.Sto) => (Em.evO c lo σ s1).bd fun (y : Option Em.Val) (s2 : Em.Sto) => (Em.evO c hi σ s2).bd fun (z : Option Em.Val) (s3 : Em.Sto) => Em.slV m x y z s3 := @Em.ev_sl
@[simp] theorem q_Em_ev_rev_1 : ∀ {c : Em.Ctx} {m : Em.Mode} {a : Em.E}, Em.evE c (Em.E.rev m a) = fun (σ : Em.Env) (s : Em.Sto) => (Em.evE c a σ s).bd fun (x : Em.Val) (s1 : Em.Sto) => Em.revV m x s1 := @Em.ev_rev
@[simp] theorem q_Em_ev_dct_1 : ∀ {c : Em.Ctx}, Em.evE c Em.E.dct = fun (x : Em.Env) (s : Em.Sto) => Em.R.ok (Em.Val.d (PySem.PyData.dict [])) s := @Em.ev_dct
@[simp] theorem q_Em_ev_str_1 : ∀ {c : Em.Ctx} {a : Em.E},
  Em.evE c a.str = fun (σ : Em.Env) (s : Em.Sto) =>
    (Em.evE c a σ s).bd fun (x : Em.Val) (s1 : Em.Sto) =>
      match x with
      | Em.Val.d (PySem.PyData.int i) => if i.natAbs.log2 < 1920 then Em.R.ok (Em.Val.d (PySem.PyData.str (PySem.Str.ofString (ToString.toString i)))) s1 else Em.R.bad
      | Em.Val.d (PySem.PyData.str z) => Em.R.ok (Em.Val.d (PySem.PyData.str z)) s1
      | x => Em.R.bad := @Em.ev_str
@[simp] theorem q_Em_ev_tup_1 : ∀ {c : Em.Ctx} {es : List Em.E},
  Em.evE c (Em.E.tup es) = fun (σ : Em.Env) (s : Em.Sto) =>
    (Em.evEs c es σ s).bd fun (vs : List Em.Val) (s1 : Em.Sto) =>
      match List.mapM Em.valD vs with
      | Option.some ps => Em.R.ok (Em.Val.d (PySem.PyData.tuple ps)) s1
      | Option.none => Em.R.bad := @Em.ev_tup
@[simp] theorem q_Em_ev_lst_1 : ∀ {c : Em.Ctx} {m : Em.Mode} {es : List Em.E}, Em.evE c (Em.E.lst m es) = fun (σ : Em.Env) (s : Em.Sto) => (Em.evEs c es σ s).bd fun (vs : List Em.Val) (s1 : Em.Sto) => Em.mkV m vs s1 := @Em.ev_lst
@[simp] theorem q_Em_ev_lc_1 : ∀ {c : Em.Ctx} {m : Em.Mode} {elt it : Em.E} {tg : Em.Tg} {cond : Option Em.E} {own : List Nat}, Em.evE c (Em.E.lc m elt tg it cond own) = fun (σ : Em.Env) (s : Em.Sto) => (Em.evE c it σ s).bd fun (v : Em.Val) (s1 : Em.Sto) => (Em.loopC (Em.lcF c elt tg cond own σ) v c.fuel 0 s1 []).bd fun (vs : List Em.Val) (s5 : Em.Sto) => Em.mkV m vs s5 := @Em.ev_lc
@[simp] theorem q_Em_ev_dsp_1 : ∀ {c : Em.Ctx} {a b : Em.E}, Em.evE c (a.dsp b) = fun (σ : Em.Env) (s : Em.Sto) => (Em.evE c a σ s).bd fun (x : Em.Val) (s1 : Em.Sto) => (Em.evE c b σ s1).bd fun (y : Em.Val) (s2 : Em.Sto) => Em.dspV x y s2 := @Em.ev_dsp
@[simp] theorem q_Em_ev_din_1 : ∀ {c : Em.Ctx} {n : Bool} {a b : Em.E}, Em.evE c (Em.E.din n a b) = fun (σ : Em.Env) (s : Em.Sto) => (Em.evE c a σ s).bd fun (x : Em.Val) (s1 : Em.Sto) => (Em.evE c b σ s1).bd fun (y : Em.Val) (s2 : Em.Sto) => Em.dinV n x y s2 := @Em.ev_din
@[simp] theorem q_Em_ev_dix_1 : ∀ {c : Em.Ctx} {a b : Em.E}, Em.evE c (a.dix b) = fun (σ : Em.Env) (s : Em.Sto) => (Em.evE c a σ s).bd fun (x : Em.Val) (s1 : Em.Sto) => (Em.evE c b σ s1).bd fun (y : Em.Val) (s2 : Em.Sto) => Em.dixV x y s2 := @Em.ev_dix
@[simp] theorem q_Em_ev_dgt_1 : ∀ {c : Em.Ctx} {a b z : Em.E}, Em.evE c (a.dgt b z) = fun (σ : Em.Env) (s : Em.Sto) => (Em.evE c a σ s).bd fun (x : Em.Val) (s1 : Em.Sto) => if Em.isDi s1 x = Bool.true then (Em.evE c b σ s1).bd fun (y : Em.Val) (s2 : Em.Sto) => (Em.evE c z σ s2).bd fun (t : Em.Val) (s3 : Em.Sto) => Em.dgtV x y t s3 else Em.R.bad := @Em.ev_dgt
@[simp] theorem q_Em_es_dput_1 : ∀ {c : Em.Ctx} {n0 : Nat} {o k e : Em.E},
  Em.evS c n0 (Em.S.dput o k e) = fun (σ : Em.Env) (s : Em.Sto) =>
    (Em.evE c e σ s).bd fun (v : Em.Val) (s1 : Em.Sto) =>
      match v with
      | Em.Val.d p => (Em.evE c o σ s1).bd fun (x : Em.Val) (s2 : Em.Sto) => (Em.evE c k σ s2).bd fun (y : Em.Val) (s3 : Em.Sto) => (Em.dputV x y p s3).bd fun (x : Unit) (s4 : Em.Sto) => Em.R.ok (Em.Fl.nx, σ) s4
      | x => Em.R.bad := @Em.es_dput
@[simp] theorem q_Em_isDi_1 : ∀ (s : Em.Sto) (j : Nat),
  Em.isDi s (Em.Val.fl j) =
    match s.F[j]? with
    | Option.some (Em.Cell.di kvs) => Bool.true
    | x => Bool.false := @Em.isDi.eq_1
@[simp] theorem q_Em_isDi_2 : ∀ (s : Em.Sto) (x : Em.Val), (∀ (j : Nat), x = Em.Val.fl j → False) → Em.isDi s x = Bool.false := @Em.isDi.eq_2
@[simp] theorem q_Em_keyD_1 : ∀ (i : Int), Em.keyD (PySem.PyData.int i) = Option.some (Sum.inl i) := @Em.keyD.eq_1
@[simp] theorem q_Em_keyD_2 : ∀ (x_1 : PySem.Str), Em.keyD (PySem.PyData.str x_1) = Option.some (Sum.inr x_1) := @Em.keyD.eq_2
@[simp] theorem q_Em_keyD_3 : ∀ (x : Em.D), (∀ (i : Int), x = PySem.PyData.int i → False) → (∀ (x_1 : PySem.Str), x = PySem.PyData.str x_1 → False) → Em.keyD x = Option.none := @Em.keyD.eq_3
@[simp] theorem q_Em_evs_nil_1 : ∀ {c : Em.Ctx}, Em.evEs c [] = fun (x : Em.Env) (s : Em.Sto) => Em.R.ok [] s := @Em.evs_nil
@[simp] theorem q_Em_evs_cons_1 : ∀ {c : Em.Ctx} {e : Em.E} {es : List Em.E}, Em.evEs c (e :: es) = fun (σ : Em.Env) (s : Em.Sto) => (Em.evE c e σ s).bd fun (v : Em.Val) (s1 : Em.Sto) => (Em.evEs c es σ s1).bd fun (vs : List Em.Val) (s2 : Em.Sto) => Em.R.ok (v :: vs) s2 := @Em.evs_cons
@[simp] theorem q_Em_evk_nil_1 : ∀ {c : Em.Ctx}, Em.evKs c [] = fun (x : Em.Env) (s : Em.Sto) => Em.R.ok [] s := @Em.evk_nil
@[simp] theorem q_Em_evk_cons_1 : ∀ {c : Em.Ctx} {n : Nat} {e : Em.E} {es : List (Nat × Em.E)}, Em.evKs c ((n, e) :: es) = fun (σ : Em.Env) (s : Em.Sto) => (Em.evE c e σ s).bd fun (v : Em.Val) (s1 : Em.Sto) => (Em.evKs c es σ s1).bd fun (vs : List (Nat × Em.Val)) (s2 : Em.Sto) => Em.R.ok ((n, v) :: vs) s2 := @Em.evk_cons
@[simp] theorem q_Em_evo_none_1 : ∀ {c : Em.Ctx}, Em.evO c Option.none = fun (x : Em.Env) (s : Em.Sto) => Em.R.ok Option.none s := @Em.evo_none
@[simp] theorem q_Em_evo_some_1 : ∀ {c : Em.Ctx} {e : Em.E}, Em.evO c (Option.some e) = fun (σ : Em.Env) (s : Em.Sto) => (Em.evE c e σ s).bd fun (v : Em.Val) (s1 : Em.Sto) => Em.R.ok (Option.some v) s1 := @Em.evo_some
@[simp] theorem q_Em_es_asg_1 : ∀ {c : Em.Ctx} {n0 : Nat} {tg : Em.Tg} {e : Em.E},
  Em.evS c n0 (Em.S.asg tg e) = fun (σ : Em.Env) (s : Em.Sto) =>
    (Em.evE c e σ s).bd fun (v : Em.Val) (s1 : Em.Sto) =>
      match Em.putVal tg v σ with
      | Option.some σ' => Em.R.ok (Em.Fl.nx, σ') s1
      | Option.none => Em.R.bad := @Em.es_asg
@[simp] theorem q_Em_es_asgs_1 : ∀ {c : Em.Ctx} {n0 : Nat} {is : List Nat} {es : List Em.E},
  Em.evS c n0 (Em.S.asgs is es) = fun (σ : Em.Env) (s : Em.Sto) =>
    (Em.evEs c es σ s).bd fun (vs : List Em.Val) (s1 : Em.Sto) =>
      match Em.putSlots is vs σ with
      | Option.some σ' => Em.R.ok (Em.Fl.nx, σ') s1
      | Option.none => Em.R.bad := @Em.es_asgs
@[simp] theorem q_Em_es_asgx_1 : ∀ {c : Em.Ctx} {n0 : Nat} {o i e : Em.E},
  Em.evS c n0 (Em.S.asgx o i e) = fun (σ : Em.Env) (s : Em.Sto) =>
    (Em.evE c e σ s).bd fun (v : Em.Val) (s1 : Em.Sto) =>
      match v with
      | Em.Val.d p => (Em.evE c o σ s1).bd fun (x : Em.Val) (s2 : Em.Sto) => (Em.evE c i σ s2).bd fun (y : Em.Val) (s3 : Em.Sto) => (Em.setV x y p s3).bd fun (x : Unit) (s4 : Em.Sto) => Em.R.ok (Em.Fl.nx, σ) s4
      | x => Em.R.bad := @Em.es_asgx
@[simp] theorem q_Em_es_asgt_1 : ∀ {c : Em.Ctx} {n0 : Nat} {ts : List Em.Tx} {e : Em.E},
  Em.evS c n0 (Em.S.asgt ts e) = fun (σ : Em.Env) (s : Em.Sto) =>
    (Em.evE c e σ s).bd fun (v : Em.Val) (s1 : Em.Sto) =>
      match v with
      | Em.Val.d (PySem.PyData.tuple ps) => (Em.putTx c ts ps σ s1).bd fun (σ' : Em.Env) (s2 : Em.Sto) => Em.R.ok (Em.Fl.nx, σ') s2
      | x => Em.R.bad := @Em.es_asgt
@[simp] theorem q_Em_es_expr_1 : ∀ {c : Em.Ctx} {n0 : Nat} {e : Em.E}, Em.evS c n0 (Em.S.expr e) = fun (σ : Em.Env) (s : Em.Sto) => (Em.evE c e σ s).bd fun (x : Em.Val) (s1 : Em.Sto) => Em.R.ok (Em.Fl.nx, σ) s1 := @Em.es_expr
@[simp] theorem q_Em_es_ret_1 : ∀ {c : Em.Ctx} {n0 : Nat} {e : Em.E},
  Em.evS c n0 (Em.S.ret e) = fun (σ : Em.Env) (s : Em.Sto) =>
    (Em.evE c e σ s).bd fun (v : Em.Val) (s1 : Em.Sto) =>
      match Em.finR n0 v s1 with
      | Option.some r => Em.R.ok (Em.Fl.rt r, σ) s1
      | Option.none => Em.R.bad := @Em.es_ret
@[simp] theorem q_Em_es_retn_1 : ∀ {c : Em.Ctx} {n0 : Nat}, Em.evS c n0 Em.S.retn = fun (σ : Em.Env) (s : Em.Sto) => Em.R.ok (Em.Fl.rt (Em.Rv.val (Em.Val.d PySem.PyData.none)), σ) s := @Em.es_retn
@[simp] theorem q_Em_es_rets_1 : ∀ {c : Em.Ctx} {n0 : Nat} {es : List Em.E},
  Em.evS c n0 (Em.S.rets es) = fun (σ : Em.Env) (s : Em.Sto) =>
    (Em.evEs c es σ s).bd fun (vs : List Em.Val) (s1 : Em.Sto) =>
      match List.mapM (Em.ownS n0 s1) vs with
      | Option.some ps => Em.R.ok (Em.Fl.rt (Em.Rv.val (Em.Val.d (PySem.PyData.tuple ps))), σ) s1
      | Option.none => Em.R.bad := @Em.es_rets
@[simp] theorem q_Em_es_ite_1 : ∀ {c : Em.Ctx} {n0 : Nat} {t : Em.E} {a b : List Em.S}, Em.evS c n0 (Em.S.ite t a b) = fun (σ : Em.Env) (s : Em.Sto) => (Em.tst (Em.evE c t σ s)).bd fun (x : Bool) (s1 : Em.Sto) => if x = Bool.true then Em.evSs c n0 a σ s1 else Em.evSs c n0 b σ s1 := @Em.es_ite
@[simp] theorem q_Em_es_for_1 : ∀ {c : Em.Ctx} {n0 : Nat} {tg : Em.Tg} {it : Em.E} {body : List Em.S},
  Em.evS c n0 (Em.S.for_ tg it body) = fun (σ : Em.Env) (s : Em.Sto) =>
    (Em.evE c it σ s).bd fun (v : Em.Val) (s1 : Em.Sto) =>
      Em.loopS
        (fun (σ1 : Em.Env) (x : Em.Val) (s2 : Em.Sto) =>
          match Em.putVal tg x σ1 with
          | Option.some σ2 => Em.evSs c n0 body σ2 s2
          | Option.none => Em.R.bad)
        v c.fuel 0 σ s1 := @Em.es_for
@[simp] theorem q_Em_es_while_1 : ∀ {c : Em.Ctx} {n0 : Nat} {t : Em.E} {body : List Em.S}, Em.evS c n0 (Em.S.while_ t body) = fun (σ : Em.Env) (s : Em.Sto) => Em.loopW (fun (σ1 : Em.Env) (s1 : Em.Sto) => Em.tst (Em.evE c t σ1 s1)) (fun (σ1 : Em.Env) (s1 : Em.Sto) => Em.evSs c n0 body σ1 s1) c.fuel σ s := @Em.es_while
@[simp] theorem q_Em_es_pass_1 : ∀ {c : Em.Ctx} {n0 : Nat}, Em.evS c n0 Em.S.pass = fun (σ : Em.Env) (s : Em.Sto) => Em.R.ok (Em.Fl.nx, σ) s := @Em.es_pass
@[simp] theorem q_Em_es_brk_1 : ∀ {c : Em.Ctx} {n0 : Nat}, Em.evS c n0 Em.S.brk = fun (σ : Em.Env) (s : Em.Sto) => Em.R.ok (Em.Fl.bk, σ) s := @Em.es_brk
@[simp] theorem q_Em_es_cont_1 : ∀ {c : Em.Ctx} {n0 : Nat}, Em.evS c n0 Em.S.cont = fun (σ : Em.Env) (s : Em.Sto) => Em.R.ok (Em.Fl.ct, σ) s := @Em.es_cont
@[simp] theorem q_Em_es_raise_1 : ∀ {c : Em.Ctx} {n0 k : Nat} {es : List Em.E}, Em.evS c n0 (Em.S.raise k es) = fun (x : Em.Env) (x_1 : Em.Sto) => Em.R.bad := @Em.es_raise
@[simp] theorem q_Em_ess_nil_1 : ∀ {c : Em.Ctx} {n0 : Nat}, Em.evSs c n0 [] = fun (σ : Em.Env) (s : Em.Sto) => Em.R.ok (Em.Fl.nx, σ) s := @Em.ess_nil
@[simp] theorem q_Em_ess_cons_1 : ∀ {c : Em.Ctx} {n0 : Nat} {st : Em.S} {r : List Em.S},
  Em.evSs c n0 (st :: r) = fun (σ : Em.Env) (s : Em.Sto) =>
    (Em.evS c n0 st σ s).bd fun (y : Em.Fl × Em.Env) (s1 : Em.Sto) =>
      match y.fst with
      | Em.Fl.nx => Em.evSs c n0 r y.snd s1
      | x => Em.R.ok y s1 := @Em.ess_cons
@[simp] theorem q_Em_start_1 : ∀ (d : Em.Def) (us : List Em.Val), Em.start d us = List.map Option.some us ++ List.replicate (d.names.length - us.length) Option.none := @Em.start.eq_1
@[simp] theorem q_Em_finish_1 : ∀ (n0 : Nat) (s : Em.Sto) (v : Em.Val), Em.finish n0 (Em.Rv.val v) s = Em.R.ok v (Em.Sto.mk (List.take n0 s.F) []) := @Em.finish.eq_1
@[simp] theorem q_Em_finish_2 : ∀ (n0 : Nat) (s : Em.Sto) (c : Em.Cell), Em.finish n0 (Em.Rv.new c) s = Em.R.ok (Em.Val.fl n0) (Em.Sto.mk (List.take n0 s.F ++ [c]) []) := @Em.finish.eq_2
@[simp] theorem q_Em_typeName_1 : Em.typeName PySem.PyData.none = "NoneType" := @Em.typeName.eq_1
@[simp] theorem q_Em_typeName_2 : ∀ (b : Bool), Em.typeName (PySem.PyData.bool b) = "bool" := @Em.typeName.eq_2
@[simp] theorem q_Em_typeName_3 : ∀ (i : Int), Em.typeName (PySem.PyData.int i) = "int" := @Em.typeName.eq_3
@[simp] theorem q_Em_typeName_4 : ∀ (s : PySem.Str), Em.typeName (PySem.PyData.str s) = "str" := @Em.typeName.eq_4
@[simp] theorem q_Em_typeName_5 : ∀ (xs : List PySem.PyData), Em.typeName (PySem.PyData.list xs) = "list" := @Em.typeName.eq_5
@[simp] theorem q_Em_typeName_6 : ∀ (xs : List PySem.PyData), Em.typeName (PySem.PyData.tuple xs) = "tuple" := @Em.typeName.eq_6
@[simp] theorem q_Em_typeName_7 : ∀ (kvs : List (PySem.PyData × PySem.PyData)), Em.typeName (PySem.PyData.dict kvs) = "dict" := @Em.typeName.eq_7
@[simp] theorem q_Em_isiB_1 : ∀ (t u : String), Em.isiB t u = (t == u || t == "bool" && u == "int") := @Em.isiB.eq_1
@[simp] theorem q_Em_isiV_1 : ∀ (a : Em.Val) (ts : List String) (s : Em.Sto),
  Em.isiV a ts s =
    match s.snap a with
    | Option.some p => Em.R.ok (Em.Val.d (PySem.PyData.bool (ts.any (Em.isiB (Em.typeName p))))) s
    | Option.none => Em.R.bad := @Em.isiV.eq_1
@[simp] theorem q_Em_Sto_snap_1 : ∀ (s : Em.Sto) (i : Nat),
  s.snap (Em.Val.ne i) =
    match s.N[i]? with
    | Option.some vs => Option.map PySem.PyData.list (List.mapM s.snapF vs)
    | Option.none => Option.none := @Em.Sto.snap.eq_1
@[simp] theorem q_Em_Sto_snap_2 : ∀ (s : Em.Sto) (x : Em.Val), (∀ (i : Nat), x = Em.Val.ne i → False) → s.snap x = s.snapF x := @Em.Sto.snap.eq_2
@[simp] theorem q_Em_Sto_snapF_1 : ∀ (s : Em.Sto) (p : Em.D), s.snapF (Em.Val.d p) = Option.some p := @Em.Sto.snapF.eq_1
@[simp] theorem q_Em_Sto_snapF_2 : ∀ (s : Em.Sto) (i : Nat),
  s.snapF (Em.Val.fl i) =
    match s.F[i]? with
    | Option.some (Em.Cell.li l) => Option.some (PySem.PyData.list l)
    | x => Option.none := @Em.Sto.snapF.eq_2
@[simp] theorem q_Em_Sto_snapF_3 : ∀ (s : Em.Sto) (i : Nat), s.snapF (Em.Val.ne i) = Option.none := @Em.Sto.snapF.eq_3
@[simp] theorem q_Em_Sto_snapF_4 : ∀ (s : Em.Sto) (l : List Int), s.snapF (Em.Val.sc l) = Option.some (PySem.PyData.list (List.map PySem.PyData.int l)) := @Em.Sto.snapF.eq_4
@[simp] theorem q_Em_Sto_capt_1 : ∀ (s : Em.Sto) (l : List Int), s.capt (Em.Val.sc l) = Option.none := @Em.Sto.capt.eq_1
@[simp] theorem q_Em_Sto_capt_2 : ∀ (s : Em.Sto) (x : Em.Val), (∀ (l : List Int), x = Em.Val.sc l → False) → s.capt x = s.snapF x := @Em.Sto.capt.eq_2
@[simp] theorem q_Em_Sto_see_1 : ∀ (s : Em.Sto) (deep : Bool) (v : Em.Val), s.see deep v = if deep = Bool.true then s.snap v else s.capt v := @Em.Sto.see.eq_1
@[simp] theorem q_Em_snaps_1 : ∀ (s : Em.Sto) (deep : Bool), Em.snaps s deep [] = Option.some [] := @Em.snaps.eq_1
@[simp] theorem q_Em_snaps_2 : ∀ (s : Em.Sto) (deep : Bool) (v : Em.Val) (r : List Em.Val),
  Em.snaps s deep (v :: r) =
    match s.see deep v, Em.snaps s deep r with
    | Option.some p, Option.some q => Option.some (p :: q)
    | x, x_1 => Option.none := @Em.snaps.eq_2
@[simp] theorem q_Em_biS_1 : ∀ (b : Em.Bi) (m : Em.Mode) (vs : List Em.Val) (s : Em.Sto),
  Em.biS b m vs s =
    match if Em.stillB b = Bool.true then List.mapM Em.valD vs else Em.snaps s (Em.deepB b) vs with
    | Option.some as => Em.bi b m as s
    | Option.none => Em.R.bad := @Em.biS.eq_1
@[simp] theorem q_Em_finR_1 : ∀ (n0 : Nat) (s : Em.Sto) (p : Em.D), Em.finR n0 (Em.Val.d p) s = Option.some (Em.Rv.val (Em.Val.d p)) := @Em.finR.eq_1
@[simp] theorem q_Em_finR_2 : ∀ (n0 : Nat) (s : Em.Sto) (i : Nat), Em.finR n0 (Em.Val.fl i) s = if i < n0 then Option.some (Em.Rv.val (Em.Val.fl i)) else Option.map Em.Rv.new s.F[i]? := @Em.finR.eq_2
@[simp] theorem q_Em_finR_3 : ∀ (n0 : Nat) (s : Em.Sto) (i : Nat),
  Em.finR n0 (Em.Val.ne i) s =
    match Em.ownS n0 s (Em.Val.ne i) with
    | Option.some (PySem.PyData.list l) => if l.length ≤ Em.sizeMax then Option.some (Em.Rv.new (Em.Cell.li l)) else Option.none
    | x => Option.none := @Em.finR.eq_3
@[simp] theorem q_Em_finR_4 : ∀ (n0 : Nat) (s : Em.Sto) (l : List Int), Em.finR n0 (Em.Val.sc l) s = Option.none := @Em.finR.eq_4
@[simp] theorem q_Em_tst_1 : ∀ (r : Em.R Em.Val),
  Em.tst r =
    r.bd fun (v : Em.Val) (s : Em.Sto) =>
      match v with
      | Em.Val.d (PySem.PyData.bool b) => Em.R.ok b s
      | x => Em.R.bad := @Em.tst.eq_1
@[simp] theorem q_Em_argOk_1 : ∀ (i : Nat), Em.argOk (Em.Val.ne i) = Bool.false := @Em.argOk.eq_1
@[simp] theorem q_Em_argOk_2 : ∀ (x : Em.Val), (∀ (i : Nat), x = Em.Val.ne i → False) → Em.argOk x = Bool.true := @Em.argOk.eq_2
@[simp] theorem q_Em_deepO_1 : Em.deepO Em.Op2.eq = Bool.true := @Em.deepO.eq_1
@[simp] theorem q_Em_deepO_2 : Em.deepO Em.Op2.ne = Bool.true := @Em.deepO.eq_2
@[simp] theorem q_Em_deepO_3 : ∀ (x : Em.Op2), (x = Em.Op2.eq → False) → (x = Em.Op2.ne → False) → Em.deepO x = Bool.false := @Em.deepO.eq_3
@[simp] theorem q_Em_deepB_1 : Em.deepB Em.Bi.len = Bool.true := @Em.deepB.eq_1
@[simp] theorem q_Em_deepB_2 : Em.deepB Em.Bi.repr = Bool.true := @Em.deepB.eq_2
@[simp] theorem q_Em_deepB_3 : ∀ (x : Em.Bi), (x = Em.Bi.len → False) → (x = Em.Bi.repr → False) → Em.deepB x = Bool.false := @Em.deepB.eq_3
@[simp] theorem q_Em_stillB_1 : Em.stillB Em.Bi.zip = Bool.true := @Em.stillB.eq_1
@[simp] theorem q_Em_stillB_2 : Em.stillB Em.Bi.enum = Bool.true := @Em.stillB.eq_2
@[simp] theorem q_Em_stillB_3 : ∀ (x : Em.Bi), (x = Em.Bi.zip → False) → (x = Em.Bi.enum → False) → Em.stillB x = Bool.false := @Em.stillB.eq_3
@[simp] theorem q_Em_putVal_1 : ∀ (t : Em.Tg) (σ : Em.Env) (p : Em.D), Em.putVal t (Em.Val.d p) σ = t.put p σ := @Em.putVal.eq_1
@[simp] theorem q_Em_putVal_2 : ∀ (x : Em.Val) (σ : Em.Env) (i : Nat), (∀ (p : Em.D), x = Em.Val.d p → False) → Em.putVal (Em.Tg.slot i) x σ = if i < List.length σ then Option.some (List.set σ i (Option.some x)) else Option.none := @Em.putVal.eq_2
@[simp] theorem q_Em_putVal_3 : ∀ (x : Em.Val) (σ : Em.Env) (is : List Em.Tg), (∀ (p : Em.D), x = Em.Val.d p → False) → Em.putVal (Em.Tg.tup is) x σ = Option.none := @Em.putVal.eq_3
@[simp] theorem q_Em_Tg_put_1 : ∀ (x : Em.D) (x_1 : Em.Env) (i : Nat), (Em.Tg.slot i).put x x_1 = if i < List.length x_1 then Option.some (List.set x_1 i (Option.some (Em.Val.d x))) else Option.none := @Em.Tg.put.eq_1
@[simp] theorem q_Em_Tg_put_2 : ∀ (x : Em.Env) (ts : List Em.Tg) (l : List PySem.PyData), (Em.Tg.tup ts).put (PySem.PyData.tuple l) x = Em.Tg.puts ts l x := @Em.Tg.put.eq_2
@[simp] theorem q_Em_Tg_put_3 : ∀ (x : Em.Env) (ts : List Em.Tg) (l : List PySem.PyData), (Em.Tg.tup ts).put (PySem.PyData.list l) x = Em.Tg.puts ts l x := @Em.Tg.put.eq_3
@[simp] theorem q_Em_Tg_put_4 : ∀ (x : Em.D) (x_1 : Em.Env) (is : List Em.Tg), (∀ (l : List PySem.PyData), x = PySem.PyData.tuple l → False) → (∀ (l : List PySem.PyData), x = PySem.PyData.list l → False) → (Em.Tg.tup is).put x x_1 = Option.none := @Em.Tg.put.eq_4
@[simp] theorem q_Em_Tg_puts_1 : ∀ (x : Em.Env), Em.Tg.puts [] [] x = Option.some x := @Em.Tg.puts.eq_1
@[simp] theorem q_Em_Tg_puts_2 : ∀ (x : Em.Env) (t : Em.Tg) (ts : List Em.Tg) (p : Em.D) (ps : List Em.D), Em.Tg.puts (t :: ts) (p :: ps) x = (t.put p x).bind (Em.Tg.puts ts ps) := @Em.Tg.puts.eq_2
@[simp] theorem q_Em_Tg_puts_3 : ∀ (x : List Em.Tg) (x_1 : List Em.D) (x_2 : Em.Env), (x = [] → x_1 = [] → False) → (∀ (t : Em.Tg) (ts : List Em.Tg) (p : Em.D) (ps : List Em.D), x = t :: ts → x_1 = p :: ps → False) → Em.Tg.puts x x_1 x_2 = Option.none := @Em.Tg.puts.eq_3
@[simp] theorem q_Em_wipe_1 : ∀ (σ : Em.Env), Em.wipe σ [] = σ := @Em.wipe.eq_1
@[simp] theorem q_Em_wipe_2 : ∀ (σ : Em.Env) (v : Nat) (vs : List Nat), Em.wipe σ (v :: vs) = List.set (Em.wipe σ vs) v Option.none := @Em.wipe.eq_2
@[simp] theorem q_Em_ixV_1 : ∀ (s : Em.Sto) (i_2 : Int) (i : Nat),
  Em.ixV (Em.Val.ne i) (Em.Val.d (PySem.PyData.int i_2)) s =
    match s.N[i]? with
    | Option.some vs =>
      match (Em.place vs.length i_2).bind fun (j : Nat) => vs[j]? with
      | Option.some v => Em.R.ok v s
      | Option.none => Em.R.bad
    | Option.none => Em.R.bad := @Em.ixV.eq_1
@[simp] theorem q_Em_ixV_2 : ∀ (a : Em.Val) (s : Em.Sto) (i_2 : Int),
  (∀ (i : Nat), a = Em.Val.ne i → False) →
    Em.ixV a (Em.Val.d (PySem.PyData.int i_2)) s =
      match s.snapF a with
      | Option.some (PySem.PyData.list l) =>
        match Em.atD l i_2 with
        | Option.some p => Em.R.ok (Em.Val.d p) s
        | Option.none => Em.R.bad
      | Option.some (PySem.PyData.tuple l) =>
        match Em.atD l i_2 with
        | Option.some p => Em.R.ok (Em.Val.d p) s
        | Option.none => Em.R.bad
      | x => Em.R.bad := @Em.ixV.eq_2
@[simp] theorem q_Em_ixV_3 : ∀ (a i : Em.Val) (s : Em.Sto), (∀ (i_1 : Int), i = Em.Val.d (PySem.PyData.int i_1) → False) → Em.ixV a i s = Em.R.bad := @Em.ixV.eq_3
@[simp] theorem q_Em_slV_1 : ∀ (m : Em.Mode) (a : Em.Val) (lo hi : Option Em.Val) (s : Em.Sto),
  Em.slV m a lo hi s =
    match Em.part lo, Em.part hi with
    | Option.some lo, Option.some hi =>
      match s.snapF a with
      | Option.some (PySem.PyData.list l) => Em.mkL m (Em.cut l lo hi) s
      | Option.some (PySem.PyData.tuple l) => Em.R.ok (Em.Val.d (PySem.PyData.tuple (Em.cut l lo hi))) s
      | x => Em.R.bad
    | x, x_1 => Em.R.bad := @Em.slV.eq_1
@[simp] theorem q_Em_part_1 : Em.part Option.none = Option.some Option.none := @Em.part.eq_1
@[simp] theorem q_Em_part_2 : ∀ (i : Int), Em.part (Option.some (Em.Val.d (PySem.PyData.int i))) = Option.some (Option.some i) := @Em.part.eq_2
@[simp] theorem q_Em_part_3 : ∀ (x : Option Em.Val), (x = Option.none → False) → (∀ (i : Int), x = Option.some (Em.Val.d (PySem.PyData.int i)) → False) → Em.part x = Option.none := @Em.part.eq_3
@[simp] theorem q_Em_mkL_1 : ∀ (l : List Em.D) (s : Em.Sto), Em.mkL Em.Mode.fr l s = Em.R.ok (Em.Val.d (PySem.PyData.list l)) s := @Em.mkL.eq_1
@[simp] theorem q_Em_mkL_2 : ∀ (l : List Em.D) (s : Em.Sto), Em.mkL Em.Mode.fl l s = Em.R.ok (Em.Val.fl s.F.length) (Em.Sto.mk (s.F ++ [Em.Cell.li l]) s.N) := @Em.mkL.eq_2
@[simp] theorem q_Em_mkL_3 : ∀ (l : List Em.D) (s : Em.Sto), Em.mkL Em.Mode.ne l s = Em.R.bad := @Em.mkL.eq_3
@[simp] theorem q_Em_bi_1 : ∀ (b : Em.Bi) (m : Em.Mode) (as : List Em.D) (s : Em.Sto),
  Em.bi b m as s =
    match Em.biL b as with
    | Option.some l => Em.mkL m l s
    | Option.none =>
      match Em.biV b as with
      | Option.some p => Em.R.ok (Em.Val.d p) s
      | Option.none => Em.R.bad := @Em.bi.eq_1
@[simp] theorem q_Em_biL_1 : ∀ (b : Em.Bi) (p : Em.D), Em.biL b [p] = Em.biL1 b p := @Em.biL.eq_1
@[simp] theorem q_Em_biL_2 : ∀ (b : Em.Bi) (p q : Em.D), Em.biL b [p, q] = Em.biL2 b p q := @Em.biL.eq_2
@[simp] theorem q_Em_biL_3 : ∀ (b : Em.Bi) (as : List Em.D), (∀ (p : Em.D), as = [p] → False) → (∀ (p q : Em.D), as = [p, q] → False) → Em.biL b as = Option.none := @Em.biL.eq_3
@[simp] theorem q_Em_biV_1 : ∀ (b : Em.Bi) (p : Em.D), Em.biV b [p] = Em.biV1 b p := @Em.biV.eq_1
@[simp] theorem q_Em_biV_2 : ∀ (b : Em.Bi) (p q : Em.D), Em.biV b [p, q] = Em.biV2 b p q := @Em.biV.eq_2
@[simp] theorem q_Em_biV_3 : ∀ (b : Em.Bi) (as : List Em.D), (∀ (p : Em.D), as = [p] → False) → (∀ (p q : Em.D), as = [p, q] → False) → Em.biV b as = Option.none := @Em.biV.eq_3
@[simp] theorem q_Em_biL1_1 : ∀ (p : Em.D), Em.biL1 Em.Bi.list p = Em.itemsOf p := @Em.biL1.eq_1
@[simp] theorem q_Em_biL1_2 : ∀ (i : Int), Em.biL1 Em.Bi.range1 (PySem.PyData.int i) = if -2 ^ 62 ≤ i ∧ i < 2 ^ 62 ∧ i ≤ ↑Em.sizeMax then Option.some (List.map (fun (i : Nat) => PySem.PyData.int (0 + ↑i)) (List.range i.toNat)) else Option.none := @Em.biL1.eq_2
@[simp] theorem q_Em_biL1_3 : ∀ (p : Em.D), (∀ (i : Int), p = PySem.PyData.int i → False) → Em.biL1 Em.Bi.range1 p = Option.none := @Em.biL1.eq_3
@[simp] theorem q_Em_biL1_4 : ∀ (p : Em.D),
  Em.biL1 Em.Bi.sorted p =
    match Em.itemsOf p with
    | Option.some l => if Em.sortOk l = Bool.true then Option.some (Em.isort l) else Option.none
    | Option.none => Option.none := @Em.biL1.eq_4
@[simp] theorem q_Em_biL1_5 : ∀ (l : List PySem.PyData),
  Em.biL1 Em.Bi.sset (PySem.PyData.list l) =
    match Em.intsOf l with
    | Option.some ns => if ns.length ≤ 60 then Option.some (List.map PySem.PyData.int (Em.ssetI ns)) else Option.none
    | Option.none => Option.none := @Em.biL1.eq_5
@[simp] theorem q_Em_biL1_6 : ∀ (l : List PySem.PyData),
  Em.biL1 Em.Bi.sset (PySem.PyData.tuple l) =
    match Em.intsOf l with
    | Option.some ns => if ns.length ≤ 60 then Option.some (List.map PySem.PyData.int (Em.ssetI ns)) else Option.none
    | Option.none => Option.none := @Em.biL1.eq_6
@[simp] theorem q_Em_biL1_7 : ∀ (p : Em.D), (∀ (l : List PySem.PyData), p = PySem.PyData.list l → False) → (∀ (l : List PySem.PyData), p = PySem.PyData.tuple l → False) → Em.biL1 Em.Bi.sset p = Option.none := @Em.biL1.eq_7
@[simp] theorem q_Em_biL1_8 : ∀ (p : Em.D), Em.biL1 Em.Bi.enum p = Option.map (fun (x : List Em.D) => List.map (fun (p : Em.D × Nat) => PySem.PyData.tuple [PySem.PyData.int ↑p.snd, p.fst]) x.zipIdx) (Em.itemsOf p) := @Em.biL1.eq_8
@[simp] theorem q_Em_biL1_9 : ∀ (b : Em.Bi) (p : Em.D), (b = Em.Bi.list → False) → (b = Em.Bi.range1 → False) → (b = Em.Bi.sorted → False) → (b = Em.Bi.sset → False) → (b = Em.Bi.enum → False) → Em.biL1 b p = Option.none := @Em.biL1.eq_9
@[simp] theorem q_Em_biL2_1 : ∀ (i j : Int), Em.biL2 Em.Bi.range2 (PySem.PyData.int i) (PySem.PyData.int j) = if -2 ^ 62 ≤ i ∧ i < 2 ^ 62 ∧ -2 ^ 62 ≤ j ∧ j < 2 ^ 62 ∧ j - i ≤ ↑Em.sizeMax then Option.some (List.map (fun (i_1 : Nat) => PySem.PyData.int (i + ↑i_1)) (List.range (j - i).toNat)) else Option.none := @Em.biL2.eq_1
@[simp] theorem q_Em_biL2_2 : ∀ (p q : Em.D), (∀ (i j : Int), p = PySem.PyData.int i → q = PySem.PyData.int j → False) → Em.biL2 Em.Bi.range2 p q = Option.none := @Em.biL2.eq_2
@[simp] theorem q_Em_biL2_3 : ∀ (x y : List PySem.PyData), Em.biL2 Em.Bi.zip (PySem.PyData.list x) (PySem.PyData.list y) = Option.some (List.zipWith (fun (p q : PySem.PyData) => PySem.PyData.tuple [p, q]) x y) := @Em.biL2.eq_3
@[simp] theorem q_Em_biL2_4 : ∀ (x y : List PySem.PyData), Em.biL2 Em.Bi.zip (PySem.PyData.tuple x) (PySem.PyData.tuple y) = Option.some (List.zipWith (fun (p q : PySem.PyData) => PySem.PyData.tuple [p, q]) x y) := @Em.biL2.eq_4
@[simp] theorem q_Em_biL2_5 : ∀ (p q : Em.D), (∀ (x y : List PySem.PyData), p = PySem.PyData.list x → q = PySem.PyData.list y → False) → (∀ (x y : List PySem.PyData), p = PySem.PyData.tuple x → q = PySem.PyData.tuple y → False) → Em.biL2 Em.Bi.zip p q = Option.none := @Em.biL2.eq_5
@[simp] theorem q_Em_biL2_6 : ∀ (b : Em.Bi) (p q : Em.D), (b = Em.Bi.range2 → False) → (b = Em.Bi.zip → False) → Em.biL2 b p q = Option.none := @Em.biL2.eq_6
@[simp] theorem q_Em_biV2_1 : ∀ (i j : Int), Em.biV2 Em.Bi.divmod (PySem.PyData.int i) (PySem.PyData.int j) = if 0 < j ∧ j < 1073741824 then Option.some (PySem.PyData.tuple [PySem.PyData.int (i / j), PySem.PyData.int (i % j)]) else Option.none := @Em.biV2.eq_1
@[simp] theorem q_Em_biV2_2 : ∀ (p q : Em.D), (∀ (i j : Int), p = PySem.PyData.int i → q = PySem.PyData.int j → False) → Em.biV2 Em.Bi.divmod p q = Option.none := @Em.biV2.eq_2
@[simp] theorem q_Em_biV2_3 : ∀ (i j : Int), Em.biV2 Em.Bi.min2 (PySem.PyData.int i) (PySem.PyData.int j) = Option.some (PySem.PyData.int (if j < i then j else i)) := @Em.biV2.eq_3
@[simp] theorem q_Em_biV2_4 : ∀ (p q : Em.D), (∀ (i j : Int), p = PySem.PyData.int i → q = PySem.PyData.int j → False) → Em.biV2 Em.Bi.min2 p q = Option.none := @Em.biV2.eq_4
@[simp] theorem q_Em_biV2_5 : ∀ (i j : Int), Em.biV2 Em.Bi.max2 (PySem.PyData.int i) (PySem.PyData.int j) = Option.some (PySem.PyData.int (if j > i then j else i)) := @Em.biV2.eq_5
@[simp] theorem q_Em_biV2_6 : ∀ (p q : Em.D), (∀ (i j : Int), p = PySem.PyData.int i → q = PySem.PyData.int j → False) → Em.biV2 Em.Bi.max2 p q = Option.none := @Em.biV2.eq_6
@[simp] theorem q_Em_biV2_7 : ∀ (b : Em.Bi) (p q : Em.D), (b = Em.Bi.divmod → False) → (b = Em.Bi.min2 → False) → (b = Em.Bi.max2 → False) → Em.biV2 b p q = Option.none := @Em.biV2.eq_7
@[simp] theorem q_Em_itemsOf_1 : ∀ (l : List PySem.PyData), Em.itemsOf (PySem.PyData.list l) = Option.some l := @Em.itemsOf.eq_1
@[simp] theorem q_Em_itemsOf_2 : ∀ (l : List PySem.PyData), Em.itemsOf (PySem.PyData.tuple l) = Option.some l := @Em.itemsOf.eq_2
@[simp] theorem q_Em_itemsOf_3 : ∀ (x : Em.D), (∀ (l : List PySem.PyData), x = PySem.PyData.list l → False) → (∀ (l : List PySem.PyData), x = PySem.PyData.tuple l → False) → Em.itemsOf x = Option.none := @Em.itemsOf.eq_3
theorem evF_step {P : Prog} {n f : Nat} {d : Def} {us : List Val} {F : List Cell} (hd : P.fn f = some d) (hl : us.length = d.npar) :
    evF P (n + 1) f us [] F = (evSs ⟨evF P n, P.glob, P.fuel⟩ F.length d.body (start d us) ⟨F, []⟩).bd fun y s => match y.1 with
        | .nx => finish F.length (.val (.d .none)) s
        | .rt v => finish F.length v s
        | _ => .bad := by
  rw [evF]
  simp only [hd, order_nil hl] <;> rfl
/-- a call that leaves the store as it is -/
@[simp] theorem called_d {m : Mode} {s : Sto} {p : D} : called m s (.ok (.d p) ⟨s.F, []⟩) = .ok (.d p) s := rfl
theorem mapM_d (l : List D) : (l.map Val.d).mapM valD = some l := by
  induction l with
  | nil => rfl
  | cons p r ih => rw [List.map_cons, List.mapM_cons, ih]; rfl
theorem mkV_fr (l : List D) (s : Sto) : mkV .fr (l.map Val.d) s = .ok (.d (.list l)) s := by
  unfold mkV
  rw [mapM_d]
  rfl
theorem boolsOf_map {α : Type} (f : α → Bool) (l : List α) : boolsOf (l.map fun x => .bool (f x)) = some (l.map f) := by
  induction l with
  | nil => rfl
  | cons p r ih => rw [List.map_cons, boolsOf, ih]; rfl
@[simp] theorem boolsOf_bools (l : List Bool) : boolsOf (l.map .bool) = some l := by
  have := boolsOf_map (fun b : Bool => b) l
  simpa using this
theorem intsOf_map {α : Type} (f : α → Int) (l : List α) : intsOf (l.map fun x => .int (f x)) = some (l.map f) := by
  induction l with
  | nil => rfl
  | cons p r ih => rw [List.map_cons, intsOf, ih]; rfl
/-- what a walked value yields, whatever the store -/
def Items (v : Val) (l : List D) : Prop := ∀ (s : Sto) (i : Nat), nth s v i = some ((l[i]?).map Val.d)
theorem items_list (l : List D) : Items (.d (.list l)) l := fun _ _ => rfl
theorem items_tup (l : List D) : Items (.d (.tuple l)) l := fun _ _ => rfl
theorem loopC_pure {f : Val → Sto → R (Option Val)} {v : Val} {l : List D} (hn : Items v l) {s : Sto} (g : D → Option D) (hf : ∀ x ∈ l, f (.d x) s = .ok ((g x).map Val.d) s) (hz : l.length ≤ sizeMax) :
    ∀ (k fuel i : Nat) (acc : List Val), i + k = l.length → k < fuel → acc.length ≤ i → loopC f v fuel i s acc = .ok (acc ++ ((l.drop i).filterMap g).map Val.d) s
  | 0, fuel + 1, i, acc, hk, _, _ => by
    rw [loopC]
    have e : l[i]? = none := List.getElem?_eq_none_iff.mpr (by omega)
    rw [hn s i, e]
    have e2 : l.drop i = [] := List.drop_eq_nil_of_le (by omega)
    simp [e2]
  | k + 1, fuel + 1, i, acc, hk, hfu, ha => by
    have hi : i < l.length := by omega
    rw [loopC]
    rw [hn s i, List.getElem?_eq_getElem hi]
    simp only [Option.map_some]
    rw [hf _ (List.getElem_mem hi)]
    rw [List.drop_eq_getElem_cons hi]
    cases h : g l[i] with
    | none =>
      rw [List.filterMap_cons_none h]
      exact loopC_pure hn g hf hz k fuel (i + 1) acc (by omega) (by omega) (by omega)
    | some y =>
      rw [List.filterMap_cons_some h]
      show (if acc.length < sizeMax then loopC f v fuel (i + 1) s (acc ++ [Val.d y]) else R.bad) = _
      rw [if_pos (by omega), loopC_pure hn g hf hz k fuel (i + 1) _ (by omega) (by omega) (by rw [List.length_append, List.length_singleton]; omega)]
      rw [List.append_assoc]; rfl
  | k, 0, _, _, _, h, _ => absurd h (by omega)
/-- a comprehension over data that leaves the store as it is -/
theorem lc_pure {f : Val → Sto → R (Option Val)} {v : Val} {l : List D} (hn : Items v l) {s : Sto} {fuel : Nat} (g : D → Option D) (hf : ∀ x ∈ l, f (.d x) s = .ok ((g x).map Val.d) s) (hz : l.length ≤ sizeMax) (hfu : l.length < fuel) :
    loopC f v fuel 0 s [] = .ok ((l.filterMap g).map Val.d) s := by
  have := loopC_pure hn g hf hz l.length fuel 0 [] (by omega) hfu (Nat.le_refl _)
  simpa using this
/-- a for that goes through -/
theorem loopS_inv {f : Env → Val → Sto → R (Fl × Env)} {v : Val} {l : List D} (hn : Items v l) (I : Nat → Env → Sto → Prop) (step : ∀ i x σ s, l[i]? = some x → I i σ s → ∃ σ' s', f σ (.d x) s = .ok (.nx, σ') s' ∧ I (i + 1) σ' s') :
    ∀ (k fuel i : Nat) (σ : Env) (s : Sto), i + k = l.length → k < fuel → I i σ s → ∃ σ' s', loopS f v fuel i σ s = .ok (.nx, σ') s' ∧ I l.length σ' s'
  | 0, fuel + 1, i, σ, s, hk, _, h => by
    have e : l[i]? = none := List.getElem?_eq_none_iff.mpr (by omega)
    refine ⟨σ, s, ?_, by rw [← hk]; exact h⟩
    rw [loopS, hn s i, e]
    rfl
  | k + 1, fuel + 1, i, σ, s, hk, hfu, h => by
    have hi : i < l.length := by omega
    obtain ⟨σ1, s1, e1, h1⟩ := step i _ σ s (List.getElem?_eq_getElem hi) h
    obtain ⟨σ2, s2, e2, h2⟩ := loopS_inv hn I step k fuel (i + 1) σ1 s1 (by omega) (by omega) h1
    refine ⟨σ2, s2, ?_, h2⟩
    rw [loopS, hn s i, List.getElem?_eq_getElem hi]
    simp only [Option.map_some]
    rw [e1]
    exact e2
  | k, 0, _, _, _, _, h, _ => absurd h (by omega)
@[simp] theorem okEq_int (i j : Int) : okEq (.int i) (.int j) = true := rfl
@[simp] theorem eqv_int (i j : Int) : PyData.eqv (.int i) (.int j) = (i == j) := rfl
@[simp] theorem valD_d (p : D) : valD (.d p) = some p := rfl
@[simp] theorem called_s {m : Mode} {F : List Cell} {N : List (List Val)} {p : D} : called m ⟨F, N⟩ (.ok (.d p) ⟨F, []⟩) = .ok (.d p) ⟨F, N⟩ := rfl
def allB (bs : List Bool) : Bool := bs.all id
def anyB (bs : List Bool) : Bool := bs.any id
@[simp] theorem len_list (l : List D) : biV1 .len (.list l) = some (.int l.length) := rfl
@[simp] theorem len_tup (l : List D) : biV1 .len (.tuple l) = some (.int l.length) := rfl
@[simp] theorem tup_list (l : List D) : biV1 .tuple (.list l) = some (.tuple l) := rfl
@[simp] theorem tup_tup (l : List D) : biV1 .tuple (.tuple l) = some (.tuple l) := rfl
@[simp] theorem abs_int (i : Int) : biV1 .abs (.int i) = some (.int (if i < 0 then -i else i)) := rfl
@[simp] theorem int_int (i : Int) : biV1 .int (.int i) = some (.int i) := rfl
@[simp] theorem int_bool (b : Bool) : biV1 .int (.bool b) = some (.int (if b then 1 else 0)) := rfl
theorem repr_ok {p : D} (h : p.showable = true) (h2 : p.depth ≤ 64) (h3 : p.shown.length ≤ sizeMax) : biV1 .repr p = some (.str p.shown) := by
  have e : biV1 .repr p = if p.showable && decide (p.depth ≤ 64) && decide (p.shown.length ≤ sizeMax) then some (.str p.shown) else none := rfl
  rw [e, h, decide_eq_true h2, decide_eq_true h3]
  rfl
@[simp] theorem all_bools (bs : List Bool) : biV1 .all (.list (bs.map .bool)) = some (.bool (allB bs)) := by
  show (boolsOf (bs.map .bool)).map (fun bs => PyData.bool (bs.all id)) = _
  rw [boolsOf_bools]; rfl
@[simp] theorem any_bools (bs : List Bool) : biV1 .any (.list (bs.map .bool)) = some (.bool (anyB bs)) := by
  show (boolsOf (bs.map .bool)).map (fun bs => PyData.bool (bs.any id)) = _
  rw [boolsOf_bools]; rfl
theorem mo_ite {c : Prop} [Decidable c] (p : D) (s : Sto) : (match (if c then some p else none) with | some p => R.ok (Val.d p) s | none => .bad) = if c then .ok (.d p) s else .bad := by by_cases h : c <;> simp [h]
theorem ml_ite {c : Prop} [Decidable c] (m : Mode) (l : List D) (s : Sto) : (match (if c then some l else none) with | some l => mkL m l s | none => .bad) = if c then mkL m l s else .bad := by by_cases h : c <;> simp only [h, if_true, if_false]
@[simp] theorem op2S_dd (o : Op2) (m : Mode) (p q : D) (s : Sto) : op2S o m (.d p) (.d q) s = op2 o m p q s := by cases o <;> rfl
section
variable (m : Mode) (i j : Int) (s : Sto) (p q : D) (x y : List D)
@[simp] theorem op_addI : op2 .add m (.int i) (.int j) s = .ok (.d (.int (i + j))) s := rfl
@[simp] theorem op_subI : op2 .sub m (.int i) (.int j) s = .ok (.d (.int (i - j))) s := rfl
@[simp] theorem op_mulI : op2 .mul m (.int i) (.int j) s = if mulOk i j = true then .ok (.d (.int (i * j))) s else .bad := mo_ite _ _
@[simp] theorem op_fdivI : op2 .fdiv m (.int i) (.int j) s = if 0 < j ∧ j < 1073741824 then .ok (.d (.int (i / j))) s else .bad := mo_ite _ _
@[simp] theorem op_modI : op2 .mod m (.int i) (.int j) s = if 0 < j then .ok (.d (.int (i % j))) s else .bad := mo_ite _ _
@[simp] theorem op_ltI : op2 .lt m (.int i) (.int j) s = .ok (.d (.bool (decide (i < j)))) s := rfl
@[simp] theorem op_leI : op2 .le m (.int i) (.int j) s = .ok (.d (.bool (decide (i ≤ j)))) s := rfl
@[simp] theorem op_gtI : op2 .gt m (.int i) (.int j) s = .ok (.d (.bool (decide (j < i)))) s := rfl
@[simp] theorem op_geI : op2 .ge m (.int i) (.int j) s = .ok (.d (.bool (decide (j ≤ i)))) s := rfl
@[simp] theorem op_eqD : op2 .eq m p q s = if okEq p q = true then .ok (.d (.bool (PyData.eqv p q))) s else .bad := by
  have h : op2 .eq m p q s = (match (if okEq p q = true then some (PyData.bool (PyData.eqv p q)) else none) with | some p => R.ok (Val.d p) s | none => .bad) := by cases p <;> cases q <;> rfl
  exact h.trans (mo_ite _ _)
@[simp] theorem op_neD : op2 .ne m p q s = if okEq p q = true then .ok (.d (.bool (!PyData.eqv p q))) s else .bad := by
  have h : op2 .ne m p q s = (match (if okEq p q = true then some (PyData.bool (!PyData.eqv p q)) else none) with | some p => R.ok (Val.d p) s | none => .bad) := by cases p <;> cases q <;> rfl
  exact h.trans (mo_ite _ _)
@[simp] theorem op_addT : op2 .add m (.tuple x) (.tuple y) s = if x.length + y.length ≤ sizeMax then .ok (.d (.tuple (x ++ y))) s else .bad := mo_ite _ _
@[simp] theorem op_addL : op2 .add m (.list x) (.list y) s = if x.length + y.length ≤ sizeMax then mkL m (x ++ y) s else .bad := by
  exact ml_ite m (x ++ y) s
@[simp] theorem op_inT : op2 .isIn m p (.tuple x) s = if okEq p (.tuple x) = true then .ok (.d (.bool (x.any fun z => PyData.eqv z p))) s else .bad := by
  have h : op2 .isIn m p (.tuple x) s = (match (if okEq p (.tuple x) = true then some (PyData.bool (x.any fun z => PyData.eqv z p)) else none) with | some p => R.ok (Val.d p) s | none => .bad) := by cases p <;> rfl
  exact h.trans (mo_ite _ _)
@[simp] theorem op_inL : op2 .isIn m p (.list x) s = if okEq p (.list x) = true then .ok (.d (.bool (x.any fun z => PyData.eqv z p))) s else .bad := by
  have h : op2 .isIn m p (.list x) s = (match (if okEq p (.list x) = true then some (PyData.bool (x.any fun z => PyData.eqv z p)) else none) with | some p => R.ok (Val.d p) s | none => .bad) := by cases p <;> rfl
  exact h.trans (mo_ite _ _)
end
@[simp] theorem cv_leI (i j : Int) : op2V .le (.int i) (.int j) = some (.bool (decide (i ≤ j))) := rfl
@[simp] theorem cv_ltI (i j : Int) : op2V .lt (.int i) (.int j) = some (.bool (decide (i < j))) := rfl
end Em
end

section
set_option Elab.async false
set_option linter.all false
set_option maxRecDepth 100000
set_option maxHeartbeats 400000
/-! EmX: steps of the evaluator, one by one. -/
namespace Em
open PySem
variable {c : Ctx} {n0 : Nat} {σ σ' : Env} {s s1 s2 s3 : Sto}
theorem s_ite_t {t : E} {a b : List S} (h : tst (evE c t σ s) = .ok true s1) : evS c n0 (.ite t a b) σ s = evSs c n0 a σ s1 := by
  simp only [es_ite, h, R.bd_ok, if_true]
theorem s_ite_f {t : E} {a b : List S} (h : tst (evE c t σ s) = .ok false s1) : evS c n0 (.ite t a b) σ s = evSs c n0 b σ s1 := by
  simp only [es_ite, h, R.bd_ok, Bool.false_eq_true, if_false]
theorem ss_nx {st : S} {r : List S} (h : evS c n0 st σ s = .ok (.nx, σ') s1) : evSs c n0 (st :: r) σ s = evSs c n0 r σ' s1 := by
  simp only [ess_cons, h, R.bd_ok]
theorem ss_rt {st : S} {r : List S} {v : Rv} (h : evS c n0 st σ s = .ok (.rt v, σ') s1) : evSs c n0 (st :: r) σ s = .ok (.rt v, σ') s1 := by
  simp only [ess_cons, h, R.bd_ok]
theorem ss_nil : evSs c n0 [] σ s = .ok (.nx, σ) s := by rw [ess_nil]
theorem x_op {o : Op2} {m : Mode} {a b : E} {x y : Val} (ha : evE c a σ s = .ok x s1) (hb : evE c b σ s1 = .ok y s2) : evE c (.op o m a b) σ s = op2S o m x y s2 := by
  simp only [ev_op, ha, hb, R.bd_ok]
theorem x_addT {m : Mode} {a b : E} {x y : List D} (ha : evE c a σ s = .ok (.d (.tuple x)) s1) (hb : evE c b σ s1 = .ok (.d (.tuple y)) s2) (h : x.length + y.length ≤ sizeMax) : evE c (.op .add m a b) σ s = .ok (.d (.tuple (x ++ y))) s2 := by
  rw [x_op ha hb, op2S_dd, op_addT, if_pos h]
theorem x_and_t {a b : E} (ha : tst (evE c a σ s) = .ok true s1) : evE c (.and a b) σ s = evE c b σ s1 := by
  simp only [ev_and, ha, R.bd_ok, if_true]
theorem x_and_f {a b : E} (ha : tst (evE c a σ s) = .ok false s1) : evE c (.and a b) σ s = .ok (.d (.bool false)) s1 := by
  simp only [ev_and, ha, R.bd_ok, Bool.false_eq_true, if_false]
theorem x_or_t {a b : E} (ha : tst (evE c a σ s) = .ok true s1) : evE c (.or a b) σ s = .ok (.d (.bool true)) s1 := by
  simp only [ev_or, ha, R.bd_ok, if_true]
theorem x_or_f {a b : E} (ha : tst (evE c a σ s) = .ok false s1) : evE c (.or a b) σ s = evE c b σ s1 := by
  simp only [ev_or, ha, R.bd_ok, Bool.false_eq_true, if_false]
theorem x_not {a : E} {b : Bool} (ha : tst (evE c a σ s) = .ok b s1) : evE c (.not a) σ s = .ok (.d (.bool (!b))) s1 := by
  simp only [ev_not, ha, R.bd_ok]
theorem x_tst {a : E} {b : Bool} (ha : evE c a σ s = .ok (.d (.bool b)) s1) : tst (evE c a σ s) = .ok b s1 := by
  rw [ha]; rfl
theorem s_ret {e : E} {p : D} (h : evE c e σ s = .ok (.d p) s1) : evS c n0 (.ret e) σ s = .ok (.rt (.val (.d p)), σ) s1 := by
  simp only [es_ret, h, R.bd_ok, finR]
theorem s_asg {i : Nat} {e : E} {v : Val} (h : evE c e σ s = .ok v s1) (hi : i < σ.length) : evS c n0 (.asg (.slot i) e) σ s = .ok (.nx, σ.set i (some v)) s1 := by
  have : putVal (.slot i) v σ = some (σ.set i (some v)) := by cases v <;> simp [hi]
  simp only [es_asg, h, R.bd_ok, this]
theorem s_expr {e : E} {v : Val} (h : evE c e σ s = .ok v s1) : evS c n0 (.expr e) σ s = .ok (.nx, σ) s1 := by
  simp only [es_expr, h, R.bd_ok]
/-- arguments evaluated one by one -/
theorem es_nil' : evEs c [] σ s = .ok [] s := by rw [evs_nil]
theorem es_cons' {e : E} {es : List E} {v : Val} {vs : List Val} (h : evE c e σ s = .ok v s1) (h2 : evEs c es σ s1 = .ok vs s2) : evEs c (e :: es) σ s = .ok (v :: vs) s2 := by
  simp only [evs_cons, h, h2, R.bd_ok]
theorem x_call {f : Nat} {m : Mode} {es : List E} {vs : List Val} (h : evEs c es σ s = .ok vs s1) (ha : vs.all argOk = true) : evE c (.call f m es []) σ s = called m s1 (c.call f vs [] s1.F) := by
  simp only [ev_call, evk_nil, h, R.bd_ok, ha, List.all_nil, Bool.and_self, if_true]
theorem x_bi {b : Bi} {m : Mode} {es : List E} {vs : List Val} (h : evEs c es σ s = .ok vs s1) : evE c (.bi b m es) σ s = biS b m vs s1 := by
  simp only [ev_bi, h, R.bd_ok]
theorem x_tup {es : List E} {vs : List D} (h : evEs c es σ s = .ok (vs.map Val.d) s1) : evE c (.tup es) σ s = .ok (.d (.tuple vs)) s1 := by
  simp only [ev_tup, h, R.bd_ok, mapM_d]
theorem x_lst {es : List E} {vs : List D} (h : evEs c es σ s = .ok (vs.map Val.d) s1) : evE c (.lst .fr es) σ s = .ok (.d (.list vs)) s1 := by
  simp only [ev_lst, h, R.bd_ok, mkV_fr]
theorem x_v {i : Nat} {v : Val} (h : σ[i]? = some (some v)) : evE c (.v i) σ s = .ok v s := by
  rw [ev_v]; simp only [h]
theorem x_k {p : D} : evE c (.k p) σ s = .ok (.d p) s := by rw [ev_k]
theorem x_ix {a i : E} {p q : D} {k : Int} {l : List D} (ha : evE c a σ s = .ok (.d p) s1) (hi : evE c i σ s1 = .ok (.d (.int k)) s2) (hp : itemsOf p = some l) (h : atD l k = some q) : evE c (.ix a i) σ s = .ok (.d q) s2 := by
  simp only [ev_ix, ha, hi, R.bd_ok]
  cases p with
  | list l' => injection hp with hp; subst hp; simp only [ixV, Sto.snapF, h]
  | tuple l' => injection hp with hp; subst hp; simp only [ixV, Sto.snapF, h]
  | _ => cases hp
theorem isDi_li {s : Sto} {j : Nat} {l : List D} (h : s.F[j]? = some (.li l)) : isDi s (.fl j) = false := by simp only [isDi, h]
theorem isDi_di {s : Sto} {j : Nat} {l : List (L2.Key × D)} (h : s.F[j]? = some (.di l)) : isDi s (.fl j) = true := by simp only [isDi, h]
theorem isDi_d {s : Sto} {p : D} : isDi s (.d p) = false := rfl
end Em
end

section
set_option Elab.async false
set_option linter.all false
set_option maxRecDepth 100000
set_option maxHeartbeats 3200000
/-! EmY: sorted(set(l)), l a list of ints. -/
namespace Em
open PySem PySem.Spec PyProof.Rows L2
/-- the set that is made -/
abbrev sOb (w : World) : Obj := { cls := .type "set", dict := none, data := .set #[] 0 (.fresh 0 0 (!w.params.followText "set-order")) }
section
variable {P : Program} {w : World} {A : Around} {E : Value → Shared → Prop} {s : Shared}
theorem set_lst {l : Addr} {items : Array Value} (ns : List Int) {Q : Value → Shared → Prop} (hh : A.handled = none) (hl : s.heap.IsList l items) (hit : IntsAre items.toList ns) (hb : ns.length + 1 < scanBound)
    (h : ∀ (h' : Heap) (tk c : Nat), SetR w h' s.heap.objs.size (fun j => decide (j ∈ ns)) c → c ≤ ns.length → (∀ b o, s.heap.get? b = some o → h'.get? b = some o) → Q (.ref s.heap.objs.size) { s with heap := h', toks := tk }) :
    wpAny (model P w) A (call (.type "set") [.ref l]) Q E s := by
  have hisz : items.size = ns.length := by have q := IntsAre.length hit; rw [Array.length_toList] at q; exact q
  obtain ⟨c, tl, hmro⟩ := F.called_set.mro
  have hmade := F.called_set.made
  have hsub := F.called_set.sub
  refine wpAny_call (codeAny_of_tree ?_)
  show wpAny _ _ (callAny (.type "set") _) _ _ _
  refine wpAny_pure ⟨Code.quiet_builtin _ (by decide +kernel), codeAny_builtin F.entry_type_call ?_⟩
  rw [Around.under_plain (weight_type_call_type "set" [.ref l] []) rfl]
  have h1 := F.called_set.notType
  have h2 := F.called_set.canCreate
  have hct := F.typeCall_set_1 (.ref l)
  repeat (any_goals (first | assumption | wp_step))

  refine codeAny_mono (code_set_led1 (.ref l) (E := E) (Q₁ := fun obj s₁ => obj = .ref s.heap.objs.size ∧ s₁ = { s with heap := s.heap.push (sOb w) }) ⟨rfl, rfl⟩) fun r s₁ hr => ?_
  cases r with
  | error e => exact hr
  | ok fl =>
    cases fl with
    | ret obj =>
      obtain ⟨rfl, rfl⟩ := hr
      have hS : (s.heap.push (sOb w)).get? s.heap.objs.size = some (sOb w) := Heap.get?_push_size _ rfl
      have hT : Shared.TypeIs { s with heap := s.heap.push (sOb w) } (.ref s.heap.objs.size) "set" := ⟨_, hS, rfl⟩
      have hli := F.called_set.init.lookup
      have hbi := F.called_set.init.bind (.ref s.heap.objs.size)
      repeat (any_goals (first | assumption | wp_step))

      refine codeAny_mono (codeAny_call_builtin (R := wants (fun r s₂ => r = .none ∧ ∃ h' tk c, s₂ = { s with heap := h', toks := tk } ∧ SetR w h' s.heap.objs.size (fun j => decide (j ∈ ns)) c ∧ c ≤ ns.length ∧ (∀ b o, s.heap.get? b = some o → h'.get? b = some o)) E) F.called_set.init.plain F.entry_set_init (check_set_init_1 hT ?_)) fun r₂ s₂ hr₂ => ?_
      · obtain ⟨ol, hol, hcl, nl, hdl⟩ := hl
        obtain ⟨ocls, odict, odata, oslots⟩ := ol
        simp only at hcl hdl
        subst hcl; subst hdl
        have hol' : (s.heap.push (sOb w)).get? l = some { cls := .type "list", dict := odict, data := .seq items nl, slots := oslots } := Heap.get?_push_of_some _ hol
        have hsls := F.sub_list_set
        have hslf := F.sub_list_frozenset
        have hne : (Value.type "list" == Value.type "dict") = false := by decide
        have hl1 : (s.heap.push (sOb w)).IsList l items := ⟨_, hol', rfl, nl, rfl⟩
        unfold Builtin.«set.__init__» noKeywords Builtin.Frozenset.updateFrom
        generalize hPI : pyIter = PI
        wp_walk
        subst hPI

        refine wpAny_pyIter_list hl1 ?_
        refine wpAny_bind (wpAny_runValue ?_)
        have hlS : l < s.heap.objs.size := Heap.lt_size hol
        have hh3 : A.in1.in1.in1.handled = none := by simp [hh]
        have hneI : l ≠ (s.heap.push (sOb w)).objs.size := by rw [Heap.size_push]; exact Nat.ne_of_lt (Nat.lt_succ_of_lt hlS)
        have hSf : s.heap.objs.size ∉ [(s.heap.push (sOb w)).objs.size, l] := by
          rw [Heap.size_push]; simp only [List.mem_cons, List.mem_singleton, List.not_mem_nil, or_false, not_or]
          exact ⟨Nat.ne_of_lt (Nat.lt_succ_self _), Nat.ne_of_gt hlS⟩
        have hval : ∀ (i : Nat) (v : Value), items[i]? = some v → ∃ k t, ns[i]? = some k ∧ v = .int k t := fun i v hv => by
          have hi : i < ns.length := by rw [← hisz]; exact (Array.getElem?_eq_some_iff.mp hv).1
          obtain ⟨t, e⟩ := PyProof.Rows.IntsAre.int_at hit i v (by rw [Array.getElem?_toList]; exact hv)
          refine ⟨ns[i], t, List.getElem?_eq_getElem hi, ?_⟩
          rw [e, List.getD_eq_getElem?_getD, List.getElem?_eq_getElem hi] <;> rfl
        refine set_update_ints ((Walks.list hh3 _ l hneI items).toS) s.heap.objs.size
          hSf ns hisz hb hval (items.size - 0) 0 _ (by omega) (Nat.zero_le _)
          ⟨⟨_, Heap.get?_push_size _ rfl, rfl, rfl⟩, (hl1.push _)⟩ ?hS0 ?hR
        case hS0 => exact ⟨0, Nat.le_refl 0, setR_new_at (Heap.get?_push_of_some _ hS)⟩
        case hR =>
          intro s' c' hm hc' hS'
          obtain ⟨h', g2, d', tk', os'⟩ := s'
          have eg : g2 = s.gens := hm.gens
          have ed : d' = s.drawn := hm.drawn
          have eo : os' = s.os := hm.os
          subst eg; subst ed; subst eo
          show wpAny _ _ _ _ _ _
          refine wpAny_pure ?_
          show wpAny _ _ (ret Value.none) _ _ _
          rw [hisz] at hc'
          refine wpAny_pure ⟨rfl, h', tk', c', rfl, hS', hc', fun b o e => ?_⟩
          have hb0 : b < s.heap.objs.size := Heap.lt_size e
          have hb2 : b ≠ (s.heap.push (sOb w)).objs.size := by rw [Heap.size_push]; exact Nat.ne_of_lt (Nat.lt_succ_of_lt hb0)
          exact hm.heap b o (by simp only [List.mem_cons, List.mem_singleton, List.not_mem_nil, or_false, not_or]; exact ⟨Nat.ne_of_lt hb0, hb2⟩) (Heap.get?_push_of_some _ (Heap.get?_push_of_some _ e))

      · cases r₂ with
        | error e => exact hr₂
        | ok fl₂ =>
          cases fl₂ with
          | ret r =>
            obtain ⟨rfl, h', tk, c', rfl, hS', hc', hk'⟩ := hr₂
            repeat (any_goals (first | assumption | wp_step))
            exact h _ _ _ hS' hc' hk'
          | _ => exact hr₂.elim
    | _ => exact hr.elim
theorem set_tup {l : Addr} {items : Array Value} (ns : List Int) {Q : Value → Shared → Prop} (hh : A.handled = none) (hl : s.heap.IsTuple l items) (hit : IntsAre items.toList ns) (hb : ns.length + 1 < scanBound)
    (h : ∀ (h' : Heap) (tk c : Nat), SetR w h' s.heap.objs.size (fun j => decide (j ∈ ns)) c → c ≤ ns.length → (∀ b o, s.heap.get? b = some o → h'.get? b = some o) → Q (.ref s.heap.objs.size) { s with heap := h', toks := tk }) :
    wpAny (model P w) A (call (.type "set") [.ref l]) Q E s := by
  have hisz : items.size = ns.length := by have q := IntsAre.length hit; rw [Array.length_toList] at q; exact q
  obtain ⟨c, tl, hmro⟩ := F.called_set.mro
  have hmade := F.called_set.made
  have hsub := F.called_set.sub
  refine wpAny_call (codeAny_of_tree ?_)
  show wpAny _ _ (callAny (.type "set") _) _ _ _
  refine wpAny_pure ⟨Code.quiet_builtin _ (by decide +kernel), codeAny_builtin F.entry_type_call ?_⟩
  rw [Around.under_plain (weight_type_call_type "set" [.ref l] []) rfl]
  have h1 := F.called_set.notType
  have h2 := F.called_set.canCreate
  have hct := F.typeCall_set_1 (.ref l)
  repeat (any_goals (first | assumption | wp_step))

  refine codeAny_mono (code_set_led1 (.ref l) (E := E) (Q₁ := fun obj s₁ => obj = .ref s.heap.objs.size ∧ s₁ = { s with heap := s.heap.push (sOb w) }) ⟨rfl, rfl⟩) fun r s₁ hr => ?_
  cases r with
  | error e => exact hr
  | ok fl =>
    cases fl with
    | ret obj =>
      obtain ⟨rfl, rfl⟩ := hr
      have hS : (s.heap.push (sOb w)).get? s.heap.objs.size = some (sOb w) := Heap.get?_push_size _ rfl
      have hT : Shared.TypeIs { s with heap := s.heap.push (sOb w) } (.ref s.heap.objs.size) "set" := ⟨_, hS, rfl⟩
      have hli := F.called_set.init.lookup
      have hbi := F.called_set.init.bind (.ref s.heap.objs.size)
      repeat (any_goals (first | assumption | wp_step))

      refine codeAny_mono (codeAny_call_builtin (R := wants (fun r s₂ => r = .none ∧ ∃ h' tk c, s₂ = { s with heap := h', toks := tk } ∧ SetR w h' s.heap.objs.size (fun j => decide (j ∈ ns)) c ∧ c ≤ ns.length ∧ (∀ b o, s.heap.get? b = some o → h'.get? b = some o)) E) F.called_set.init.plain F.entry_set_init (check_set_init_1 hT ?_)) fun r₂ s₂ hr₂ => ?_
      · obtain ⟨ol, hol, hcl, nl, hdl⟩ := hl
        obtain ⟨ocls, odict, odata, oslots⟩ := ol
        simp only at hcl hdl
        subst hcl; subst hdl
        have hol' : (s.heap.push (sOb w)).get? l = some { cls := .type "tuple", dict := odict, data := .seq items nl, slots := oslots } := Heap.get?_push_of_some _ hol
        have hsls := F.sub_tuple_set
        have hslf := F.sub_tuple_frozenset
        have hne : (Value.type "tuple" == Value.type "dict") = false := by decide
        have hl1 : (s.heap.push (sOb w)).IsTuple l items := ⟨_, hol', rfl, nl, rfl⟩
        unfold Builtin.«set.__init__» noKeywords Builtin.Frozenset.updateFrom
        generalize hPI : pyIter = PI
        wp_walk
        subst hPI

        refine wpAny_pyIter_tuple hl1 ?_
        refine wpAny_bind (wpAny_runValue ?_)
        have hlS : l < s.heap.objs.size := Heap.lt_size hol
        have hh3 : A.in1.in1.in1.handled = none := by simp [hh]
        have hneI : l ≠ (s.heap.push (sOb w)).objs.size := by rw [Heap.size_push]; exact Nat.ne_of_lt (Nat.lt_succ_of_lt hlS)
        have hSf : s.heap.objs.size ∉ [(s.heap.push (sOb w)).objs.size, l] := by
          rw [Heap.size_push]; simp only [List.mem_cons, List.mem_singleton, List.not_mem_nil, or_false, not_or]
          exact ⟨Nat.ne_of_lt (Nat.lt_succ_self _), Nat.ne_of_gt hlS⟩
        have hval : ∀ (i : Nat) (v : Value), items[i]? = some v → ∃ k t, ns[i]? = some k ∧ v = .int k t := fun i v hv => by
          have hi : i < ns.length := by rw [← hisz]; exact (Array.getElem?_eq_some_iff.mp hv).1
          obtain ⟨t, e⟩ := PyProof.Rows.IntsAre.int_at hit i v (by rw [Array.getElem?_toList]; exact hv)
          refine ⟨ns[i], t, List.getElem?_eq_getElem hi, ?_⟩
          rw [e, List.getD_eq_getElem?_getD, List.getElem?_eq_getElem hi] <;> rfl
        refine set_update_ints ((Walks.tuple hh3 _ l hneI items).toS) s.heap.objs.size
          hSf ns hisz hb hval (items.size - 0) 0 _ (by omega) (Nat.zero_le _)
          ⟨⟨_, Heap.get?_push_size _ rfl, rfl, rfl⟩, (hl1.push _)⟩ ?hS0 ?hR
        case hS0 => exact ⟨0, Nat.le_refl 0, setR_new_at (Heap.get?_push_of_some _ hS)⟩
        case hR =>
          intro s' c' hm hc' hS'
          obtain ⟨h', g2, d', tk', os'⟩ := s'
          have eg : g2 = s.gens := hm.gens
          have ed : d' = s.drawn := hm.drawn
          have eo : os' = s.os := hm.os
          subst eg; subst ed; subst eo
          show wpAny _ _ _ _ _ _
          refine wpAny_pure ?_
          show wpAny _ _ (ret Value.none) _ _ _
          rw [hisz] at hc'
          refine wpAny_pure ⟨rfl, h', tk', c', rfl, hS', hc', fun b o e => ?_⟩
          have hb0 : b < s.heap.objs.size := Heap.lt_size e
          have hb2 : b ≠ (s.heap.push (sOb w)).objs.size := by rw [Heap.size_push]; exact Nat.ne_of_lt (Nat.lt_succ_of_lt hb0)
          exact hm.heap b o (by simp only [List.mem_cons, List.mem_singleton, List.not_mem_nil, or_false, not_or]; exact ⟨Nat.ne_of_lt hb0, hb2⟩) (Heap.get?_push_of_some _ (Heap.get?_push_of_some _ e))

      · cases r₂ with
        | error e => exact hr₂
        | ok fl₂ =>
          cases fl₂ with
          | ret r =>
            obtain ⟨rfl, h', tk, c', rfl, hS', hc', hk'⟩ := hr₂
            repeat (any_goals (first | assumption | wp_step))
            exact h _ _ _ hS' hc' hk'
          | _ => exact hr₂.elim
    | _ => exact hr.elim
end
end Em
end

section
set_option Elab.async false
set_option linter.all false
set_option maxRecDepth 100000
set_option maxHeartbeats 400000
/-! EmZ: sorted(set(l)) in the small language. -/
namespace Em
open PySem PySem.Spec PyProof.Rows L2
theorem ins_mem (x k : Int) : ∀ l : List Int, k ∈ insI x l ↔ k = x ∨ k ∈ l
  | [] => by simp [insI]
  | y :: r => by
    unfold insI
    split
    · simp
    · split
      · rename_i h; subst h; simp
      · simp only [List.mem_cons, ins_mem x k r]
        constructor
        · rintro (h | h | h)
          · exact .inr (.inl h)
          · exact .inl h
          · exact .inr (.inr h)
        · rintro (h | h | h)
          · exact .inr (.inl h)
          · exact .inl h
          · exact .inr (.inr h)
theorem ins_sorted (x : Int) : ∀ l : List Int, l.Pairwise (· < ·) → (insI x l).Pairwise (· < ·)
  | [], _ => by simp [insI]
  | y :: r, h => by
    obtain ⟨h1, h2⟩ := List.pairwise_cons.mp h
    unfold insI
    split
    · rename_i hxy
      refine List.pairwise_cons.mpr ⟨fun z hz => ?_, h⟩
      rcases List.mem_cons.mp hz with rfl | hz
      · exact hxy
      · have := h1 z hz; omega
    · split
      · exact h
      · refine List.pairwise_cons.mpr ⟨fun z hz => ?_, ins_sorted x r h2⟩
        rcases (ins_mem x z r).mp hz with rfl | hz
        · omega
        · exact h1 z hz
theorem sset_sorted (ns : List Int) : (ssetI ns).Pairwise (· < ·) := by
  induction ns with
  | nil => exact List.Pairwise.nil
  | cons a r ih => exact ins_sorted a _ ih
theorem sset_mem (ns : List Int) (k : Int) : k ∈ ssetI ns ↔ k ∈ ns := by
  induction ns with
  | nil => exact Iff.rfl
  | cons a r ih =>
    show k ∈ insI a (ssetI r) ↔ _
    rw [ins_mem, ih, List.mem_cons]
theorem sorted_unique : ∀ {l m : List Int}, l.Pairwise (· < ·) → m.Pairwise (· < ·) → (∀ k, k ∈ l ↔ k ∈ m) → l = m
  | [], [], _, _, _ => rfl
  | [], b :: t, _, _, h => absurd ((h b).mpr List.mem_cons_self) (by simp)
  | a :: r, [], _, _, h => absurd ((h a).mp List.mem_cons_self) (by simp)
  | a :: r, b :: t, h1, h2, h => by
    obtain ⟨a1, a2⟩ := List.pairwise_cons.mp h1
    obtain ⟨b1, b2⟩ := List.pairwise_cons.mp h2
    have e : a = b := by
      rcases List.mem_cons.mp ((h a).mp List.mem_cons_self) with e | e
      · exact e
      · rcases List.mem_cons.mp ((h b).mpr List.mem_cons_self) with e2 | e2
        · exact e2.symm
        · have := b1 a e; have := a1 b e2; omega
    subst e
    congr 1
    refine sorted_unique a2 b2 fun k => ?_
    have hk := h k
    simp only [List.mem_cons] at hk
    constructor
    · intro hr
      rcases hk.mp (.inr hr) with e | e
      · have := a1 k hr; omega
      · exact e
    · intro hr
      rcases hk.mpr (.inr hr) with e | e
      · have := b1 k hr; omega
      · exact e
section
variable {X : Cx} {c : Ctx} {pos p p2 pos2 : Pos} {a : Expr} {ea : E} {m : Mode}
/-- set(l), l a list of ints -/
def rSetLst (K : PySem.W.Frag) (w : World) : List V → Hp → VK → Prop := fun vs H Q => ∃ (l : Addr) (ns : List Int), vs = [V.ref l] ∧ (SqL K H l (ns.map V.int) ∨ SqT K H l (ns.map V.int)) ∧ ns.length + 1 < scanBound ∧
  ∀ (p : Addr) (c : Nat), H p = none → c ≤ ns.length → Q (.ref p) (upd H p (SetO w p (fun j => decide (j ∈ ns)) c))
theorem crx_setLst (hc : X.calm = true) : CallR X (.type "set") (rSetLst X.K X.w) := by
  intro pins s σ H vs us Q I r h
  obtain ⟨l, ns, rfl, hl, hb, q⟩ := h
  rw [Vals.ref1 r]
  rcases hl with hl | hl
  · obtain ⟨its, rv, hli, hz⟩ := I.list hl
    refine set_lst ns (I.ok.hd hc) hli.isList (Vals.ints rv) hb fun h' tk c new hcl hk => ?_
    exact ⟨.ref _, upd H s.heap.objs.size (SetO X.w s.heap.objs.size (fun j => decide (j ∈ ns)) c), I.laid (t' := tk) hk (Nat.le_refl _) (setO_new new), rfl, q _ _ (I.hok.fresh (Nat.le_refl _)) hcl⟩
  · obtain ⟨its, rv, p, hz⟩ := I.tuple hl
    refine set_tup ns (I.ok.hd hc) (show s.heap.IsTuple l its.toArray from p) (Vals.ints (by simpa using rv)) hb fun h' tk c new hcl hk => ?_
    exact ⟨.ref _, upd H s.heap.objs.size (SetO X.w s.heap.objs.size (fun j => decide (j ∈ ns)) c), I.laid (t' := tk) hk (Nat.le_refl _) (setO_new new), rfl, q _ _ (I.hok.fresh (Nat.le_refl _)) hcl⟩
theorem em_sset (hc : X.calm = true) (hg : Gl X "sorted") (hm : X.mg "sorted" = none) (hg2 : Gl X "set") (hm2 : X.mg "set" = none) (ha : Pe X c a ea)
    (na : starEach [a] X.env = (false, eval a X.env) :: starEach [] X.env := by rfl)
    (nb : starEach [.Call (.Name "set" p2) [a] [] pos2] X.env = (false, eval (.Call (.Name "set" p2) [a] [] pos2) X.env) :: starEach [] X.env := by rfl)
    (la : (backTo pos2 (starEach [] X.env)).any (·.1) = false := by rfl) (lb : (backTo pos (starEach [] X.env)).any (·.1) = false := by rfl) :
    Pe X c (.Call (.Name "sorted" p) [.Call (.Name "set" p2) [a] [] pos2] [] pos) (.bi .sset m [ea]) :=
  PE.imp (pe_callB (cr_sortedSet hc) hg hm PyProof.Rows.boot_sorted (pa_cons (pe_callTy (crx_setLst hc) hg2 hm2 boot_set (pa_cons ha pa_nil na) (by decide) (by decide) na la) pa_nil nb) (by decide) (by decide) nb lb) fun σ H Q h => by
    obtain ⟨Pr, g, s, σa, u, s', R0, S0, e, k⟩ := h
    rw [ev_bi] at e
    obtain ⟨vs, s1, e1, e⟩ := R.bd_eq e
    rw [evs_cons, evs_nil] at e1
    obtain ⟨y, s3, e7, e5⟩ := R.bd_eq e1
    injection e5 with e8 e9
    subst e8; subst e9
    refine ⟨Pr, g, s, σa, y, s3, R0, S0, e7, fun v H1 g1 X1 R1 V1 => ?_⟩
    obtain ⟨x, v', q, hws, hx, hv, ⟨l, hl, hm'⟩ | ⟨r', hr, _, _⟩⟩ := un_bi (ws := [v]) rfl (fun _ _ => ⟨rfl, rfl⟩) e (.cons V1 .nil)
    · cases hws
      cases q with
      | list l0 =>
        obtain ⟨b, xs, rfl, q1, q2⟩ := hv.lstC R1 hx
        have hl' : (match intsOf l0 with
          | some ns => if ns.length ≤ 60 then some ((ssetI ns).map PyData.int) else none
          | none => none) = some l := hl
        cases hn : intsOf l0 with
        | none => rw [hn] at hl'; cases hl'
        | some ns =>
          rw [hn] at hl'
          simp only at hl'
          by_cases hz : ns.length ≤ 60
          · rw [if_pos hz] at hl'
            have e10 := Option.some.inj hl'
            subst e10
            obtain ⟨rfl, rfl⟩ := q2.ofInts hn
            have hb : ns.length + 1 < scanBound := by have : scanBound = 4096 := rfl; omega
            refine ⟨b, ns, rfl, .inl (.inl (.inl q1)), hb, fun p c hp hcl => ?_⟩
            refine ⟨p, _, c, rfl, upd_same, by omega, fun ns' p' hs hmem hlen hp' => ?_⟩
            have e11 : ns' = ssetI ns := sorted_unique hs (sset_sorted ns) fun k => by rw [hmem k, decide_eq_true_eq, sset_mem]
            subst e11
            have X2 := ext_new (g := g1) (o := SetO X.w p (fun j => decide (j ∈ ns)) c) hp
            exact lst_end (R1.new hp) hm' hp' (DqA.ints _) (by rw [List.length_map, hlen, sizeLine_eq]; omega) fun v3 H3 g3 X3 R3 V3 => k v3 H3 g3 (X1.trans (X2.trans X3)) R3 V3
          · rw [if_neg hz] at hl'; cases hl'
      | tuple l0 =>
        obtain ⟨b, xs, rfl, q1, q2⟩ := hv.tupC hx
        have hl' : (match intsOf l0 with
          | some ns => if ns.length ≤ 60 then some ((ssetI ns).map PyData.int) else none
          | none => none) = some l := hl
        cases hn : intsOf l0 with
        | none => rw [hn] at hl'; cases hl'
        | some ns =>
          rw [hn] at hl'
          simp only at hl'
          by_cases hz : ns.length ≤ 60
          · rw [if_pos hz] at hl'
            have e10 := Option.some.inj hl'
            subst e10
            obtain ⟨rfl, rfl⟩ := q2.ofInts hn
            have hb : ns.length + 1 < scanBound := by have : scanBound = 4096 := rfl; omega
            refine ⟨b, ns, rfl, .inr q1, hb, fun p c hp hcl => ?_⟩
            refine ⟨p, _, c, rfl, upd_same, by omega, fun ns' p' hs hmem hlen hp' => ?_⟩
            have e11 : ns' = ssetI ns := sorted_unique hs (sset_sorted ns) fun k => by rw [hmem k, decide_eq_true_eq, sset_mem]
            subst e11
            have X2 := ext_new (g := g1) (o := SetO X.w p (fun j => decide (j ∈ ns)) c) hp
            exact lst_end (R1.new hp) hm' hp' (DqA.ints _) (by rw [List.length_map, hlen, sizeLine_eq]; omega) fun v3 H3 g3 X3 R3 V3 => k v3 H3 g3 (X1.trans (X2.trans X3)) R3 V3
          · rw [if_neg hz] at hl'; cases hl'
      | _ => cases hl
    · cases q <;> cases hr
end
end Em
end

section
set_option Elab.async false
set_option linter.all false
set_option maxRecDepth 100000
set_option maxHeartbeats 1000000
/-! EmE: enumerate(t), t a tuple. -/
namespace Em
open PySem PySem.Spec PyProof.Rows L2
/-- enumerate(v): its two cells -/
theorem meets_enumV {v : Value} {o : Obj} {Hb : Heap → Prop} (B : Begins v o Hb) :
    Meets (Builtin.«enumerate.__new__» ⟨[.type "enumerate", v], []⟩) (fun _ R s => Hb s.heap ∧ R (.ok (.ret (.ref (s.heap.push o).objs.size))) { s with heap := (s.heap.push o).push { cls := .type "enumerate", data := .fields #[.none, .bool false, .ref s.heap.objs.size, rawInt 0, .none, .none] } }) :=
  .of_wp fun prog w A R s h => by
    obtain ⟨hp, g, d, tk, os⟩ := s
    obtain ⟨h1, h⟩ := h
    have hsub := sub_enumerate
    have q1 : ∀ {A' : Around} {E : Value → Shared → Prop} {Q : Value → Shared → Prop}, Q (.ref hp.objs.size) ⟨hp.push o, g, d, tk, os⟩ → wpAny (model prog w) A' (pyIter v) Q E ⟨hp, g, d, tk, os⟩ := fun q => B.iter prog w _ _ ⟨hp, g, d, tk, os⟩ _ h1 q
    wp_walk using q1
    refine wpAny_stack_any fun st => wpAny_pure ?_
    split
    · rename_i c _ _ _ _ _
      cases (c == Value.type "enumerate")
      · wp_walk using q1
        exact ⟨_, rfl, h⟩
      · wp_walk using q1
        exact ⟨_, rfl, h⟩
    · wp_walk using q1
      exact ⟨_, rfl, h⟩
section
variable {prog : Program} {w : World} {A : Around} {E : Value → Shared → Prop} {s : Shared}
theorem call_enumV {v : Value} {o : Obj} {Hb : Heap → Prop} {Q : Value → Shared → Prop} (B : Begins v o Hb) (h1 : Hb s.heap)
    (h : ∀ h', IsEnum h' (s.heap.objs.size + 1) s.heap.objs.size 0 .none → h'.get? s.heap.objs.size = some o → h'.objs.size = s.heap.objs.size + 2 → (∀ b o, s.heap.get? b = some o → h'.get? b = some o) → Q (.ref (s.heap.objs.size + 1)) { s with heap := h' }) :
    wpAny (model prog w) A (call (.type "enumerate") [v]) Q E s := by
  refine callType_new F.called_enumerate (by decide) (F.typeCall_enumerate_1 _) (F.newCall_enumerate_1 _) (fun obj => F.args_object_init_2 obj _) F.entry_enumerate_new (meets_enumV B) ⟨h1, ?_⟩
  have hz : (s.heap.push o).objs.size = s.heap.objs.size + 1 := Heap.size_push ..
  show _ ∧ _
  rw [hz]
  have he : IsEnum ((s.heap.push o).push { cls := .type "enumerate", data := .fields #[.none, .bool false, .ref s.heap.objs.size, rawInt 0, .none, .none] }) (s.heap.objs.size + 1) s.heap.objs.size 0 .none := by
    have := Heap.get?_push_size (s.heap.push o) (o := { cls := .type "enumerate", data := .fields #[.none, .bool false, .ref s.heap.objs.size, rawInt 0, .none, .none] }) rfl
    rw [hz] at this
    exact this
  refine ⟨⟨_, he, rfl⟩, h _ he (Heap.get?_push_of_some _ (Heap.get?_push_size _ B.free)) (by rw [Heap.size_push, hz]) fun b o x => Heap.get?_push_of_some _ (Heap.get?_push_of_some _ x)⟩
end
theorem enum_endT {prog : Program} {w : World} {A : Around} {E : Value → Shared → Prop} {s : Shared} {e it t : Addr} {i : Nat} {items : Array Value} {old : Value} {Q : Option Value → Shared → Prop} (hh : A.handled = none) (he : IsEnum s.heap e it i old) (hit : s.heap.IsTupleIter it t i) (ht : s.heap.IsTuple t items) (hx : items[i]? = none)
    (hQ : ∀ h', Heap.ExtBut it s.heap h' → Q none { s with heap := h' }) : wpAny (model prog w) A (pyNext (.ref e)) Q E s := by
  have hT : s.TypeIs (.ref e) "enumerate" := ⟨_, he, rfl⟩
  unfold pyNext
  refine wpAny_bind (wpAny_attempt (wpAny_callSpecial?_slot (name := Str.ofString "__next__") hT F.slot_enumerate_next (wpAny_call_entry F.slot_enumerate_next hT F.entry_enumerate_next ?_ (F.args_enumerate_next_1 _))))
  show wpAny _ _ (field (.ref e) 2 >>= _) _ _ _
  refine wpAny_bind (wpAny_field he rfl (x := .ref it) rfl ?_)
  refine wpAny_bind (wpAny_nextOf_tuple_end hh hit ht hx fun h' x he' hx' => ?_)
  obtain ⟨o, ho, hc⟩ := hx'
  refine wpAny_bind (wpAny_isInstance (T := "StopIteration") (b := true) ⟨o, ho, hc⟩ isSubtype_stop ?_)
  exact wpAny_pure (hQ _ he')
/-- the tuple at a, each item in a new pair -/
def IteT (K : PySem.W.Frag) (a : Addr) : It :=
  ⟨fun i H => ∃ (xs : List V) (x : V), SqT K H a xs ∧ xs[i]? = some x, fun i H v H' => ∃ T x, v = .ref T ∧ H T = none ∧ H' = upd H T (.tup [.int (i : Nat), x]) ∧ ∀ xs, SqT K H a xs → xs[i]? = some x, fun i H => ∃ xs : List V, SqT K H a xs ∧ xs.length ≤ i⟩
theorem turn_enumT {P : Program} {w : World} {K : PySem.W.Frag} {elts : List Expr} {kk : Nat} {tpos : Pos} (a e it : Addr) (hea : e ≠ a) (hia : it ≠ a) :
    Turn P w K (.Tuple elts kk tpos) (IteT K a) [e, it] e (fun i h => (∃ old, IsEnum h e it ((i : Nat) : Int) old) ∧ h.IsTupleIter it a i ∧ e ≠ it) where
  mem := by simp
  obj := fun i h st b hb => by
    obtain ⟨⟨old, he⟩, ⟨o, ho, hc, hd⟩, _⟩ := st
    have e' : b = e ∨ b = it := by simpa using hb
    rcases e' with z | z
    · rw [z]; exact ⟨_, he, fun v q => nomatch q⟩
    · rw [z]; exact ⟨o, ho, fun v q => by rw [hd] at q; cases q⟩
  keep := fun i h h' st k => let ⟨⟨old, he⟩, hi, hne⟩ := st; ⟨⟨old, k e (by simp) _ he⟩, hi.at fun o q => k it (by simp) o q, hne⟩
  item := by
    intro X hP hw hK hc i pins s σ H E I hf st hg
    subst hP hw hK
    obtain ⟨⟨old, he⟩, hit, hne⟩ := st
    obtain ⟨xs, x, hq, hx⟩ := hg
    obtain ⟨its, rv, p, hz⟩ := I.tuple hq
    obtain ⟨u, hu, ru⟩ := rv.get hx
    have hel : e < s.heap.objs.size := Heap.lt_size he
    have hil : it < s.heap.objs.size := by obtain ⟨_, q, _⟩ := hit; exact Heap.lt_size q
    have hlt : i < its.toArray.size := by
      have := (List.getElem?_eq_some_iff.mp hu).1
      simpa using this
    refine wpAny_pyNext_enum_itemC (Draws.tuple (A := X.A.in1) (show X.A.in1.handled = none from I.ok.hd hc) it a (Ne.symm hia) its.toArray) he ⟨hit, p⟩ hlt hne (by simp [hne, hea]) fun u' h' tk hP' ho hst hT hsz hk => ?_
    have hu' : u' = u := by
      have q : its[i]? = some u' := by simpa using hP'
      rw [hu] at q; exact (Option.some.inj q).symm
    subst hu'
    obtain ⟨hit', _⟩ := hst
    refine ⟨_, rfl, wpAny_letOwnedTupleGo_enum (s := { s with heap := h', toks := tk + 1 }) ho fun h'' he' sb => ?_⟩
    have hT2 : h''.get? s.heap.objs.size = some { cls := .type "tuple", data := .seq #[.int i tk, u'] } := (sb.2 _ (Nat.ne_of_gt hel)).trans hT
    have new : ObjOk X.prog X.w (upd H s.heap.objs.size (.tup [.int (i : Nat), x])) h'' s.heap.objs.size (.tup [.int (i : Nat), x]) :=
      ⟨by show 2 ≤ sizeLine; decide, [.int i tk, u'], .cons ⟨_, rfl⟩ (.cons ru .nil), ⟨_, hT2, rfl, _, rfl⟩⟩
    have I1 : Inv X pins σ (upd H s.heap.objs.size (.tup [.int (i : Nat), x])) { s with heap := h'', toks := tk + 1 } :=
      I.turnedNew (ch := [e, it]) (fun b ob hb q => (sb.2 b (fun z => hb (by simp [z]))).trans (hk b ob (fun z => hb (by simp [z])) (fun z => hb (by simp [z])) q)) hf (Nat.le_refl _) new
    refine ⟨.ref s.heap.objs.size, _, I1, rfl, ⟨_, x, rfl, I.hok.fresh (Nat.le_refl _), rfl, fun ys hy => by rw [I.tuple_inj hy hq]; exact hx⟩, ⟨⟨u', ?_⟩, hit'.at fun o q => (sb.2 it (Ne.symm hne)).trans q, hne⟩, fun b hb => ?_⟩
    · have e1 : ((i + 1 : Nat) : Int) = (i : Int) + 1 := by omega
      rw [e1]; exact he'
    · have hb' : b < s.heap.objs.size := by
        have e' : b = e ∨ b = it := by simpa using hb
        rcases e' with z | z
        · rw [z]; exact hel
        · rw [z]; exact hil
      rw [upd_ne (Nat.ne_of_lt hb')]
      exact (hf b hb).1
  done := by
    intro X hP hw hK hc i pins s σ H E I hf st hg
    subst hP hw hK
    obtain ⟨⟨old, he⟩, hit, hne⟩ := st
    obtain ⟨xs, hq, hx⟩ := hg
    obtain ⟨its, rv, p, hz⟩ := I.tuple hq
    obtain ⟨f0, f1, f2, f3, f4, f5⟩ := hf it (by simp)
    have hl := rv.length
    exact enum_endT (I.ok.hd hc) he hit p (by simp; omega) fun h' eb => ⟨rfl, I.turned (t' := s.toks) (fun b o hb q => eb b o hb q) f0 f1 f3 f4 f5⟩
  self := fun A i s Q E st h => let ⟨⟨_, he⟩, _⟩ := st; wpAny_pyIter_enum he h
def iEnumA (K : PySem.W.Frag) (ta : TA) : TI := fun σ H R => ta σ H fun vs H1 => ∃ a xs, vs = [.ref a] ∧ ((SqL K H1 a xs ∧ R (Ite K a) H1) ∨ (SqT K H1 a xs ∧ R (IteT K a) H1))
theorem pi_enumA {X : Cx} {e : Expr} {ta : TA} {p pos tpos : Pos} {elts : List Expr} {kk : Nat} (hg : Gl X "enumerate") (hm : X.mg "enumerate" = none) (ha : PA X [e] ta) (hs : starEach [e] X.env = [(false, eval e X.env)] := by rfl) :
    PI X (.Tuple elts kk tpos) (.Call (.Name "enumerate" p) [e] [] pos) (iEnumA X.K ta) := by
  refine ⟨fun pins s σ H R I h => ?_⟩
  refine Call_ (ld_blt I hg hm boot_enumerate (PyProof.Rows.callWith_type1 (thn (ha.run pos pins s σ H _ I h) fun us s1 ⟨vs, H1, I1, r1, q1⟩ => ?_) hs rfl))
  obtain ⟨a, xs, ex, q1⟩ := q1
  subst ex
  cases r1 with
  | cons r rr =>
    cases rr
    cases r
    have fpo : ∀ b ∈ [s1.heap.objs.size + 1, s1.heap.objs.size], FpOk X pins H1 b := fun b hb => by
      have e' : b = s1.heap.objs.size + 1 ∨ b = s1.heap.objs.size := by simpa using hb
      have hle : s1.heap.objs.size ≤ b := by
        rcases e' with z | z
        · rw [z]; exact Nat.le_add_right _ _
        · rw [z]; exact Nat.le_refl _
      exact I1.fpOk hle (I1.hok.fresh hle)
    rcases q1 with ⟨hq, q⟩ | ⟨hq, q⟩
    · obtain ⟨its, rv, p', hz⟩ := I1.list hq
      refine call_enumV (begins_list a its.toArray) p'.isList fun h' he hit hsz hk => wpAny_pyIter_enum he ?_
      have I2 : Inv X pins σ H1 { s1 with heap := h' } := I1.kept (t' := s1.toks) hk
      exact ⟨s1.heap.objs.size + 1, [s1.heap.objs.size + 1, s1.heap.objs.size], _, _, H1, rfl, I2, turn_enum a (s1.heap.objs.size + 1) s1.heap.objs.size, ⟨⟨.none, he⟩, ⟨_, hit, rfl, rfl⟩, Nat.succ_ne_self _⟩, fpo, q⟩
    · obtain ⟨its, rv, p', hz⟩ := I1.tuple hq
      have hal : a < s1.heap.objs.size := by obtain ⟨o, ho, _⟩ := p'; exact Heap.lt_size ho
      refine call_enumV (begins_tuple a its.toArray) p' fun h' he hit hsz hk => wpAny_pyIter_enum he ?_
      have I2 : Inv X pins σ H1 { s1 with heap := h' } := I1.kept (t' := s1.toks) hk
      exact ⟨s1.heap.objs.size + 1, [s1.heap.objs.size + 1, s1.heap.objs.size], _, _, H1, rfl, I2, turn_enumT a (s1.heap.objs.size + 1) s1.heap.objs.size (Nat.ne_of_gt (Nat.lt_succ_of_lt hal)) (Nat.ne_of_gt hal), ⟨⟨.none, he⟩, ⟨_, hit, rfl, rfl⟩, Nat.succ_ne_self _⟩, fpo, q⟩
section
variable {X : Cx} {c : Ctx} {pos p : Pos}
theorem enum_get {x : List D} {i : Nat} : ((x.zipIdx 0).map fun p => PyData.tuple [.int p.2, p.1])[i]? = (x[i]?).map fun d => .tuple [.int (i : Int), d] := by
  rw [List.getElem?_map, List.getElem?_zipIdx]
  cases x[i]? <;> simp
theorem ei_enum {tpos : Pos} {elts : List Expr} {kk : Nat} {a : Expr} {ea : E} (hg : Gl X "enumerate") (hm : X.mg "enumerate" = none) (ha : Pas X c [a] [ea]) (hs : starEach [a] X.env = [(false, eval a X.env)] := by rfl) :
    Pi X c (.Tuple elts kk tpos) (.Call (.Name "enumerate" p) [a] [] pos) (.bi .enum .fr [ea]) :=
  PI.imp (pi_enumA hg hm ha hs) fun σ H R' h => by
    obtain ⟨Pr, g, s, σa, u, s', R0, S0, e, hn, k⟩ := h
    obtain ⟨vs, e1, e2⟩ := ev_biD e
    refine ⟨Pr, g, s, σa, vs, s', R0, S0, e1, fun ws H' g' X' R1 V => ?_⟩
    have e2 : (match vs.mapM valD with
      | some as => bi .enum .fr as s'
      | none => .bad) = R.ok u s' := e2
    cases hm' : vs.mapM valD with
    | none => rw [hm'] at e2; cases e2
    | some as =>
      rw [hm'] at e2
      have dq := valD_all V hm'
      rcases bi_cases e2 with ⟨l, hl, hml⟩ | ⟨r, _, hr, _⟩
      · rcases as with _ | ⟨q, _ | ⟨q2, t⟩⟩
        · cases hl
        · cases dq with
          | cons d1 dq =>
            cases dq
            have hl' : (itemsOf q).map (fun x => (x.zipIdx 0).map fun p => PyData.tuple [.int p.2, p.1]) = some l := hl
            cases q with
            | list x =>
              have e3 : ((x.zipIdx 0).map fun p => PyData.tuple [.int p.2, p.1]) = l := Option.some.inj hl'
              subst e3
              injection hml with e4 _
              subst e4
              cases d1 with
              | lst h1 n1 t1 =>
                rename_i a1 xs1
                refine ⟨a1, xs1, rfl, .inl ⟨.inl (.inl h1), k _ H' g' X' R1 ?_⟩⟩
                intro P2 g2 H2 s2 px X2 R2 i
                obtain ⟨p1, _⟩ := lst_ext2 px X2 h1 n1
                have w1 := t1.ext2 R1 px X2
                have z1 := w1.length
                rw [nth_list, enum_get]
                refine ⟨fun e => ?_, fun y e => ?_⟩
                · have := Option.map_eq_none_iff.mp (Option.map_eq_none_iff.mp (Option.some.inj e))
                  have := List.getElem?_eq_none_iff.mp this
                  exact ⟨xs1, .inl (.inl p1), by omega⟩
                · obtain ⟨d, e1, rfl⟩ := Option.map_eq_some_iff.mp (Option.some.inj e)
                  obtain ⟨d', f1, rfl⟩ := Option.map_eq_some_iff.mp e1
                  obtain ⟨v1, f3, f4⟩ := w1.get f1
                  refine ⟨⟨xs1, v1, .inl (.inl p1), f3⟩, fun v H3 y => ?_⟩
                  obtain ⟨T, x', rfl, hT, rfl, y1⟩ := y
                  have y1 := y1 xs1 (.inl (.inl p1))
                  rw [f3] at y1; cases y1
                  exact ⟨ext_new hT, R2.new hT, Dq.tup (.inl (.inl upd_same)) (.cons (.int _) (.cons (f4.ext R2 (ext_new hT)) .nil))⟩
            | tuple x =>
              have e3 : ((x.zipIdx 0).map fun p => PyData.tuple [.int p.2, p.1]) = l := Option.some.inj hl'
              subst e3
              injection hml with e4 _
              subst e4
              cases d1 with
              | tup h1 t1 =>
                rename_i a1 xs1
                refine ⟨a1, xs1, rfl, .inr ⟨h1, k _ H' g' X' R1 ?_⟩⟩
                intro P2 g2 H2 s2 px X2 R2 i
                have p1 := sqt_ext R1 X2 h1
                have w1 := t1.ext2 R1 px X2
                have z1 := w1.length
                rw [nth_list, enum_get]
                refine ⟨fun e => ?_, fun y e => ?_⟩
                · have := Option.map_eq_none_iff.mp (Option.map_eq_none_iff.mp (Option.some.inj e))
                  have := List.getElem?_eq_none_iff.mp this
                  exact ⟨xs1, p1, by omega⟩
                · obtain ⟨d, e1, rfl⟩ := Option.map_eq_some_iff.mp (Option.some.inj e)
                  obtain ⟨d', f1, rfl⟩ := Option.map_eq_some_iff.mp e1
                  obtain ⟨v1, f3, f4⟩ := w1.get f1
                  refine ⟨⟨xs1, v1, p1, f3⟩, fun v H3 y => ?_⟩
                  obtain ⟨T, x', rfl, hT, rfl, y1⟩ := y
                  have y1 := y1 xs1 p1
                  rw [f3] at y1; cases y1
                  exact ⟨ext_new hT, R2.new hT, Dq.tup (.inl (.inl upd_same)) (.cons (.int _) (.cons (f4.ext R2 (ext_new hT)) .nil))⟩
            | _ => cases hl'
        · rcases t with _ | ⟨z, t⟩ <;> cases hl
      · rcases as with _ | ⟨q, _ | ⟨q2, _ | ⟨z, t⟩⟩⟩
        · cases hr
        · cases q <;> cases hr
        · cases q <;> cases q2 <;> cases hr
        · cases hr
end
end Em
end

section
set_option Elab.async false
set_option linter.all false
set_option maxRecDepth 100000
set_option maxHeartbeats 400000
/-! EmF: a, b = x, y where a name is a cell. -/
namespace Em
open PySem PySem.Spec PyProof.Rows L2
section
variable {X : Cx} {c : Ctx} {n0 : Nat} {pos : Pos}
theorem st_parC {i j : Nat} {x y : Str} {a b : Expr} {ea eb : E} {px py pt : Pos} {kt k2 pt2} (hc : X.calm = true) (hN : X.N.Nodup) (hi : X.N[i]? = some x) (hj : X.N[j]? = some y) (ha : Pas X c [a, b] [ea, eb])
    (hx : Loc X.env.scope x := by first | exact .inl rfl | exact .inr rfl) (hy : Loc X.env.scope y := by first | exact .inl rfl | exact .inr rfl)
    (hfx : X.fn x = true ∨ X.env.scope.names.lookup x = some .local := by first | exact .inl rfl | exact .inr rfl) (hfy : X.fn y = true ∨ X.env.scope.names.lookup y = some .local := by first | exact .inl rfl | exact .inr rfl)
    (hs : swapsWithSole [.Tuple [.Name x px, .Name y py] kt pt] (.Tuple [a, b] k2 pt2) pos.line X.env = pure false := by rfl)
    (hw : swappedStores [.Tuple [.Name x px, .Name y py] kt pt] (.Tuple [a, b] k2 pt2) X.env = pure none := by rfl)
    (h1 : (assignEach [.Tuple [.Name x px, .Name y py] kt pt] X.env).map (·.2) = [assign (.Tuple [.Name x px, .Name y py] kt pt) X.env] := by rfl)
    (hs1 : (assignEach [.Name x px, .Name y py] X.env).map (·.2) = assign (.Name x px) X.env :: (assignEach [.Name y py] X.env).map (·.2) := by rfl)
    (hs2 : (assignEach [.Name y py] X.env).map (·.2) = assign (.Name y py) X.env :: (assignEach [] X.env).map (·.2) := by rfl)
    (hn : (assignEach [.Name x px, .Name y py] X.env).length = 2 := by rfl) (hst : (assignEach [.Name x px, .Name y py] X.env).findIdx? (·.1) = none := by rfl) :
    Ps X c n0 (.Assign [.Tuple [.Name x px, .Name y py] kt pt] (.Tuple [a, b] k2 pt2) pos) (.asgs [i, j] [ea, eb]) :=
  PS.imp (ps_asg (pe_tup ha) (pg_tup (n := 2) hc (pgs_cons (pg_name hN hi hx hfx) (pgs_cons (pg_name hN hj hy hfy) pgs_nil hs2) hs1) hn hst) hs hw h1) fun D σ H h => by
  obtain ⟨Pr, g, s, σa, z, s', hn, R0, S0, e, k⟩ := h
  rw [es_asgs] at e
  obtain ⟨vs, s1, e1, e⟩ := R.bd_eq e
  have hl := evs_len e1
  rcases vs with _ | ⟨u, _ | ⟨w, _ | ⟨_, _⟩⟩⟩
  · cases hl
  · cases hl
  · cases h : putSlots [i, j] [u, w] σa with
    | none => simp only [h] at e; cases e
    | some σ1 =>
      simp only [h] at e
      injection e with e2 e3
      subst e2; subst e3
      unfold putSlots putSlots putSlots at h
      by_cases q1 : i < σa.length
      · rw [if_pos q1] at h
        by_cases q2 : j < (σa.set i (some u)).length
        · rw [if_pos q2] at h
          have h := Option.some.inj h
          subst h
          refine ⟨Pr, g, s, σa, [u, w], s1, R0, S0, e1, fun ws H' g' X' R' V' => ?_⟩
          obtain ⟨v1, v2, rfl, V1, V2⟩ := V'.two
          refine ⟨(by rw [sizeLine_eq]; show 2 ≤ 16777216; decide), fun p hp => ⟨p, [v1, v2], rfl, .inl (.inl upd_same), rfl, v1, [v2], rfl, v2, [], rfl, rfl, ?_⟩⟩
          have X2 := ext_new (g := g') (o := .tup [v1, v2]) hp
          have R2 := R'.new (o := .tup [v1, v2]) hp
          exact k _ _ g' (X'.trans X2) R2 ((((S0.ext R0 X').ext R' X2).set (V1.ext R' X2)).set (V2.ext R' X2))
        · rw [if_neg q2] at h; cases h
      · rw [if_neg q1] at h; cases h
  · cases hl
end
end Em
end

section
set_option Elab.async false
set_option linter.all false
set_option maxRecDepth 100000
set_option maxHeartbeats 0
namespace Wk
open PySem PySem.Spec PyProof.Rows L2 Em
def d0 : Def := ⟨"is_integer", 1, ["value"], [.ret (.and (.isi (.v 0) ["int"]) (.not (.isi (.v 0) ["bool"])))]⟩
def d1 : Def := ⟨"is_within", 3, ["value", "least", "most"], [.ret (.and (.call 0 .fr [.v 0] []) (.chain .le .le (.v 1) (.v 0) (.v 2)))]⟩
def d2 : Def := ⟨"is_tuple", 2, ["value", "many"], [.ret (.and (.isi (.v 0) ["tuple"]) (.op .eq .fr (.bi .len .fr [.v 0]) (.v 1)))]⟩
def d3 : Def := ⟨"are_rising", 1, ["values", "near", "far"], [.ret (.bi .all .fr [.lc .fr (.op .lt .fr (.v 1) (.v 2)) (.tup [.slot 1, .slot 2]) (.bi .zip .fr [.v 0, .sl .fr (.v 0) (some (.k (.int 1))) none]) none [1, 2]])]⟩
def d4 : Def := ⟨"is_lot_of", 2, ["value", "many", "one"], [.ret (.and (.isi (.v 0) ["tuple"]) (.and (.bi .all .fr [.lc .fr (.call 1 .fr [.v 2, .k (.int 0), .op .sub .fr (.v 1) (.k (.int 1))] []) (.slot 2) (.v 0) none [2]]) (.call 3 .fr [.v 0] [])))]⟩
def d5 : Def := ⟨"is_road_value", 2, ["value", "villages", "one"], [.ite (.or (.not (.call 2 .fr [.v 0, .k (.int 4)] [])) (.not (.bi .all .fr [.lc .fr (.call 1 .fr [.v 2, .k (.int 0), .op .sub .fr (.v 1) (.k (.int 1))] []) (.slot 2) (.sl .fr (.v 0) none (some (.k (.int 2)))) none [2]]))) [.ret (.k (.bool false))] [], .ret (.and (.op .lt .fr (.ix (.v 0) (.k (.int 0))) (.ix (.v 0) (.k (.int 1)))) (.and (.call 1 .fr [.ix (.v 0) (.k (.int 2)), .k (.int 1), .g 2] []) (.call 1 .fr [.ix (.v 0) (.k (.int 3)), .k (.int 1), .g 3] [])))]⟩
def d6 : Def := ⟨"is_shire_value", 1, ["value", "one"], [.ite (.or (.not (.call 2 .fr [.v 0, .k (.int 3)] [])) (.or (.not (.isi (.ix (.v 0) (.k (.int 0))) ["str"])) (.op .ne .fr (.ix (.v 0) (.k (.int 0))) (.k (.str (Str.ofString "shire")))))) [.ret (.k (.bool false))] [], .ite (.or (.not (.call 1 .fr [.ix (.v 0) (.k (.int 1)), .k (.int 1), .g 0] [])) (.or (.not (.isi (.ix (.v 0) (.k (.int 2))) ["tuple"])) (.op .gt .fr (.bi .len .fr [.ix (.v 0) (.k (.int 2))]) (.g 1)))) [.ret (.k (.bool false))] [], .ret (.bi .all .fr [.lc .fr (.call 5 .fr [.v 1, .ix (.v 0) (.k (.int 1))] []) (.slot 1) (.ix (.v 0) (.k (.int 2))) none [1]])]⟩
def d7 : Def := ⟨"want_shire", 1, ["shire"], [.ite (.not (.call 6 .fr [.v 0] [])) [.raise 1 [.v 0]] []]⟩
def d8 : Def := ⟨"is_village_of", 2, ["shire", "value"], [.ret (.call 1 .fl [.v 1, .k (.int 0), .op .sub .fr (.ix (.v 0) (.k (.int 1))) (.k (.int 1))] [])]⟩
def d9 : Def := ⟨"want_village", 2, ["shire", "village"], [.ite (.not (.call 8 .fr [.v 0, .v 1] [])) [.raise 2 [.v 1]] []]⟩
def d10 : Def := ⟨"want_lot", 2, ["shire", "lot"], [.ite (.not (.call 4 .fr [.v 1, .bi .len .fr [.ix (.v 0) (.k (.int 2))]] [])) [.raise 3 [.v 1]] []]⟩
def d11 : Def := ⟨"all_roads", 1, ["shire"], [.ret (.bi .tuple .fr [.bi .range1 .fr [.bi .len .fr [.ix (.v 0) (.k (.int 2))]]])]⟩
def d12 : Def := ⟨"all_villages", 1, ["shire"], [.ret (.bi .tuple .fr [.bi .range1 .fr [.ix (.v 0) (.k (.int 1))]])]⟩
def d13 : Def := ⟨"ends_of", 2, ["shire", "road"], [.ret (.sl .fr (.ix (.ix (.v 0) (.k (.int 2))) (.v 1)) none (some (.k (.int 2))))]⟩
def d14 : Def := ⟨"other_end", 3, ["shire", "road", "village", "one", "other"], [.asg (.tup [.slot 3, .slot 4]) (.call 13 .fr [.v 0, .v 1] []), .ret (.ite (.op .eq .fr (.v 2) (.v 3)) (.v 4) (.v 3))]⟩
def d15 : Def := ⟨"roads_at", 3, ["shire", "lot", "village", "road"], [.ret (.lc .fl (.v 3) (.slot 3) (.v 1) (some (.op .isIn .fr (.v 2) (.call 13 .fr [.v 0, .v 3] []))) [3])]⟩
def d16 : Def := ⟨"reached_by", 3, ["shire", "lot", "village", "found", "left", "here", "road", "there"], [.asgs [3, 4] [.lst .fl [.v 2], .lst .fl [.v 2]], .while_ (.op .ne .fr (.v 4) (.lst .fr [])) [.asg (.slot 5) (.mt .pop (.v 4) []), .for_ (.slot 6) (.call 15 .fr [.v 0, .v 1, .v 5] []) [.asg (.slot 7) (.call 14 .fr [.v 0, .v 6, .v 5] []), .ite (.op .notIn .fr (.v 7) (.v 3)) [.expr (.mt .append (.v 3) [.v 7]), .expr (.mt .append (.v 4) [.v 7])] []]], .ret (.bi .tuple .fr [.bi .sorted .fr [.v 3]])]⟩
def d17 : Def := ⟨"pieces_by", 2, ["shire", "lot", "village", "found", "known", "piece"], [.asgs [3, 4] [.lst .fl [], .lst .fl []], .for_ (.slot 2) (.call 12 .fr [.v 0] []) [.ite (.op .notIn .fr (.v 2) (.v 4)) [.asg (.slot 5) (.call 16 .fr [.v 0, .v 1, .v 2] []), .expr (.mt .append (.v 3) [.v 5]), .expr (.mt .extend (.v 4) [.bi .list .fr [.v 5]])] []], .ret (.v 3)]⟩
def d18 : Def := ⟨"rank_of", 2, ["shire", "lot"], [.ret (.op .sub .fr (.ix (.v 0) (.k (.int 1))) (.bi .len .fr [.call 17 .fr [.v 0, .v 1] []]))]⟩
def d19 : Def := ⟨"pieces_along", 2, ["shire", "lot"], [.expr (.call 7 .fr [.v 0] []), .expr (.call 10 .fr [.v 0, .v 1] []), .ret (.call 17 .fl [.v 0, .v 1] [])]⟩
def d20 : Def := ⟨"walks_from", 3, ["shire", "lot", "village", "found", "last", "late", "here", "road", "there"], [.asgs [3, 4] [.dsp (.v 2) (.lst .fr []), .lst .fr [.v 2]], .while_ (.op .ne .fr (.v 4) (.lst .fr [])) [.asg (.slot 5) (.lst .fl []), .for_ (.slot 6) (.v 4) [.for_ (.slot 7) (.call 15 .fr [.v 0, .v 1, .v 6] []) [.asg (.slot 8) (.call 14 .fr [.v 0, .v 7, .v 6] []), .ite (.din true (.v 8) (.v 3)) [.dput (.v 3) (.v 8) (.op .add .fr (.dix (.v 3) (.v 6)) (.lst .fr [.tup [.v 7, .v 8]])), .expr (.mt .append (.v 5) [.v 8])] []]], .asg (.slot 4) (.v 5)], .ret (.v 3)]⟩
def d21 : Def := ⟨"is_forest_of", 2, ["shire", "lot"], [.ret (.op .eq .fr (.call 18 .fr [.v 0, .v 1] []) (.bi .len .fr [.v 1]))]⟩
def d22 : Def := ⟨"ring_of", 2, ["shire", "lot", "at", "road", "back", "one", "other"], [.for_ (.tup [.slot 2, .slot 3]) (.bi .enum .fr [.v 1]) [.asg (.tup [.slot 5, .slot 6]) (.call 13 .fr [.v 0, .v 3] []), .asg (.slot 4) (.dgt (.call 20 .fl [.v 0, .sl .fr (.v 1) none (some (.v 2)), .v 6] []) (.v 5) (.k (.none))), .ite (.op .isNot .fr (.v 4) (.k (.none))) [.ret (.op .add .fr (.lst .fr [.tup [.v 3, .v 6]]) (.v 4))] []], .ret (.k (.none))]⟩
def d23 : Def := ⟨"grown", 2, ["shire", "roads", "found", "road"], [.asg (.slot 2) (.tup []), .for_ (.slot 3) (.v 1) [.ite (.op .gt .fr (.call 18 .fr [.v 0, .op .add .fr (.v 2) (.tup [.v 3])] []) (.bi .len .fr [.v 2])) [.asg (.slot 2) (.op .add .fr (.v 2) (.tup [.v 3]))] []], .ret (.bi .tuple .fr [.bi .sorted .fr [.v 2]])]⟩
def d24 : Def := ⟨"walk", 4, ["shire", "lot", "village", "other"], [.expr (.call 7 .fr [.v 0] []), .expr (.call 10 .fr [.v 0, .v 1] []), .expr (.call 9 .fr [.v 0, .v 2] []), .expr (.call 9 .fr [.v 0, .v 3] []), .ret (.dgt (.call 20 .fl [.v 0, .v 1, .v 2] []) (.v 3) (.k (.none)))]⟩
def d25 : Def := ⟨"ring", 2, ["shire", "lot"], [.expr (.call 7 .fr [.v 0] []), .expr (.call 10 .fr [.v 0, .v 1] []), .ret (.call 22 .fl [.v 0, .v 1] [])]⟩
def d26 : Def := ⟨"is_forest", 2, ["shire", "value"], [.expr (.call 7 .fr [.v 0] []), .ret (.and (.call 4 .fr [.v 1, .bi .len .fr [.ix (.v 0) (.k (.int 2))]] []) (.call 21 .fr [.v 0, .v 1] []))]⟩
def d27 : Def := ⟨"first_forest", 1, ["shire"], [.expr (.call 7 .fr [.v 0] []), .ret (.call 23 .fl [.v 0, .call 11 .fr [.v 0] []] [])]⟩
def d28 : Def := ⟨"with_roads", 2, ["shire", "roads"], [.ret (.op .add .fr (.sl .fr (.v 0) none (some (.k (.int 2)))) (.tup [.bi .tuple .fr [.v 1]]))]⟩
def d29 : Def := ⟨"left_out", 2, ["shire", "lot", "road"], [.ret (.call 28 .fl [.v 0, .lc .fr (.ix (.ix (.v 0) (.k (.int 2))) (.v 2)) (.slot 2) (.call 11 .fr [.v 0] []) (some (.op .notIn .fr (.v 2) (.v 1))) [2]] [])]⟩
def d30 : Def := ⟨"without", 2, ["shire", "lot"], [.expr (.call 7 .fr [.v 0] []), .expr (.call 10 .fr [.v 0, .v 1] []), .ret (.call 29 .fl [.v 0, .v 1] [])]⟩
def d31 : Def := ⟨"_law_pot", 2, ["script", "k", "cell"], [.asg (.slot 2) (.ite (.op .lt .fr (.v 1) (.bi .len .fr [.v 0])) (.bi .abs .fr [.ix (.v 0) (.v 1)]) (.op .add .fr (.op .mul .fr (.k (.int 1549)) (.v 1)) (.k (.int 431)))), .ret (.lst .fl [.bi .max2 .fr [.k (.int 0), .op .sub .fr (.v 2) (.pow 10 18)], .op .add .fr (.op .mod .fr (.bi .int .fr [.op .add .fr (.op .add .fr (.op .mul .fr (.op .mod .fr (.bi .int .fr [.v 2]) (.k (.int 2147483549))) (.k (.int 40014))) (.op .mul .fr (.k (.int 7207)) (.v 1))) (.k (.int 1193))]) (.k (.int 2147483563))) (.k (.int 1))])]⟩
def d32 : Def := ⟨"_law_draw", 2, ["pot", "many", "digit"], [.ite (.op .gt .fr (.ix (.v 0) (.k (.int 0))) (.k (.int 0))) [.asgt [.sub (.v 0) (.k (.int 0)), .slot 2] (.bi .divmod .fr [.ix (.v 0) (.k (.int 0)), .v 1]), .ret (.v 2)] [], .asgx (.v 0) (.k (.int 1)) (.op .mod .fr (.bi .int .fr [.op .add .fr (.op .mul .fr (.ix (.v 0) (.k (.int 1))) (.k (.int 40692))) (.k (.int 10273))]) (.k (.int 2147483587))), .ret (.op .mod .fr (.bi .int .fr [.op .fdiv .fr (.op .mod .fr (.bi .int .fr [.op .mul .fr (.ix (.v 0) (.k (.int 1))) (.ix (.v 0) (.k (.int 1)))]) (.k (.int 2147483549))) (.k (.int 17))]) (.v 1))]⟩
def d33 : Def := ⟨"_law_shire", 3, ["pot", "villages", "roads", "turn", "many", "found", "one", "other"], [.asgs [4, 5] [.op .add .fr (.k (.int 1)) (.call 32 .fr [.v 0, .v 1] []), .lst .fl []], .for_ (.slot 3) (.bi .range1 .fr [.ite (.op .gt .fr (.v 4) (.k (.int 1))) (.call 32 .fr [.v 0, .op .add .fr (.v 2) (.k (.int 1))] []) (.k (.int 0))]) [.asg (.slot 6) (.call 32 .fr [.v 0, .v 4] []), .asg (.slot 7) (.bi .int .fr [.op .mod .fr (.op .add .fr (.op .add .fr (.v 6) (.k (.int 1))) (.call 32 .fr [.v 0, .op .sub .fr (.v 4) (.k (.int 1))] [])) (.v 4)]), .expr (.mt .append (.v 5) [.tup [.bi .min2 .fr [.v 6, .v 7], .bi .max2 .fr [.v 6, .v 7], .op .add .fr (.k (.int 1)) (.call 32 .fr [.v 0, .k (.int 9)] []), .op .add .fr (.k (.int 1)) (.call 32 .fr [.v 0, .k (.int 4)] [])]])], .ret (.tup [.k (.str (Str.ofString "shire")), .v 4, .bi .tuple .fr [.v 5]])]⟩
def d34 : Def := ⟨"_law_lot", 2, ["pot", "shire", "road"], [.ret (.bi .tuple .fr [.lc .fr (.v 2) (.slot 2) (.bi .range1 .fr [.bi .len .fr [.ix (.v 1) (.k (.int 2))]]) (some (.op .eq .fr (.call 32 .fr [.v 0, .k (.int 2)] []) (.k (.int 0)))) [2]])]⟩
def d35 : Def := ⟨"_law_rank", 2, ["shire", "lot"], [.ret (.op .sub .fr (.ix (.v 0) (.k (.int 1))) (.bi .len .fr [.call 19 .fr [.v 0, .v 1] []]))]⟩
def d36 : Def := ⟨"_law_right", 1, ["pot", "shire", "road", "both", "whole", "found", "rest", "near", "every", "one", "other", "late", "joined", "at"], [.asg (.slot 1) (.call 33 .fr [.v 0, .k (.int 7), .k (.int 11)] []), .asg (.tup [.slot 8, .slot 9, .slot 10]) (.tup [.bi .tuple .fr [.bi .range1 .fr [.bi .len .fr [.ix (.v 1) (.k (.int 2))]]], .call 34 .fr [.v 0, .v 1] [], .call 34 .fr [.v 0, .v 1] []]), .for_ (.slot 2) (.v 8) [.asg (.slot 11) (.bi .tuple .fr [.bi .sset .fr [.op .add .fr (.v 9) (.tup [.v 2])]]), .asg (.slot 12) (.op .isNot .fr (.call 24 .fr [.v 1, .v 9, .ix (.ix (.ix (.v 1) (.k (.int 2))) (.v 2)) (.k (.int 0)), .ix (.ix (.ix (.v 1) (.k (.int 2))) (.v 2)) (.k (.int 1))] []) (.k (.none))), .ite (.op .ne .fr (.call 35 .fr [.v 1, .v 11] []) (.op .add .fr (.call 35 .fr [.v 1, .v 9] []) (.bi .int .fr [.not (.v 12)]))) [.ret (.k (.bool false))] []], .asg (.slot 3) (.bi .tuple .fr [.lc .fr (.v 2) (.slot 2) (.v 9) (some (.op .isIn .fr (.v 2) (.v 10))) [2]]), .asg (.slot 4) (.bi .tuple .fr [.bi .sset .fr [.op .add .fr (.v 9) (.v 10)]]), .ite (.op .gt .fr (.op .add .fr (.call 35 .fr [.v 1, .v 4] []) (.call 35 .fr [.v 1, .v 3] [])) (.op .add .fr (.call 35 .fr [.v 1, .v 9] []) (.call 35 .fr [.v 1, .v 10] []))) [.ret (.k (.bool false))] [], .asg (.slot 5) (.tup []), .for_ (.slot 2) (.v 9) [.ite (.op .is .fr (.call 25 .fr [.v 1, .bi .tuple .fr [.bi .sorted .fr [.op .add .fr (.v 5) (.tup [.v 2])]]] []) (.k (.none))) [.asg (.slot 5) (.op .add .fr (.v 5) (.tup [.v 2]))] []], .ite (.or (.op .ne .fr (.bi .len .fr [.v 5]) (.call 35 .fr [.v 1, .v 9] [])) (.or (.not (.call 26 .fr [.v 1, .v 5] [])) (.op .ne .fr (.call 19 .fr [.v 1, .v 5] []) (.call 19 .fr [.v 1, .v 9] [])))) [.ret (.k (.bool false))] [], .asg (.slot 6) (.bi .tuple .fr [.lc .fr (.v 2) (.slot 2) (.v 8) (some (.op .notIn .fr (.v 2) (.v 9))) [2]]), .asg (.slot 7) (.call 27 .fr [.call 30 .fr [.v 1, .v 6] []] []), .ite (.op .ne .fr (.bi .tuple .fr [.lc .fr (.ix (.v 9) (.v 13)) (.slot 13) (.v 7) none [13]]) (.v 5)) [.ret (.k (.bool false))] [], .for_ (.slot 2) (.v 8) [.ite (.op .is .fr (.call 25 .fr [.v 1, .bi .tuple .fr [.bi .sset .fr [.op .add .fr (.v 5) (.tup [.v 2])]]] []) (.k (.none))) [.asg (.slot 5) (.bi .tuple .fr [.bi .sset .fr [.op .add .fr (.v 5) (.tup [.v 2])]])] []], .ret (.and (.op .eq .fr (.bi .len .fr [.v 5]) (.call 35 .fr [.v 1, .v 8] [])) (.call 26 .fr [.v 1, .v 5] []))]⟩
def d37 : Def := ⟨"law", 1, ["script", "k", "pot", "turn"], [.for_ (.slot 1) (.bi .range1 .fr [.bi .max2 .fr [.k (.int 1), .bi .min2 .fr [.k (.int 3), .bi .len .fr [.v 0]]]]) [.asg (.slot 2) (.call 31 .fl [.v 0, .v 1] []), .ite (.not (.bi .all .fr [.lc .fr (.call 36 .fr [.v 2] []) (.slot 3) (.bi .range1 .fr [.k (.int 2)]) none [3]])) [.ret (.k (.bool false))] []], .ret (.k (.bool true))]⟩
def fns : List Def := [d0, d1, d2, d3, d4, d5, d6, d7, d8, d9, d10, d11, d12, d13, d14, d15, d16, d17, d18, d19, d20, d21, d22, d23, d24, d25, d26, d27, d28, d29, d30, d31, d32, d33, d34, d35, d36, d37]
def globs : List (Option D) := [some (.int 10), some (.int 30), some (.int 99), some (.int 9)]
def prog : Prog := ⟨fun i => fns[i]?, fun i => (globs[i]?).join, 1000000⟩
/-! the text -/
def top (i : Nat) : Stmt := PySem.Challenge.pw_roadkeepers_k24_whole_ranks_of_lots.main.body.getD i (.Pass ⟨0, 0, 0, 0⟩)
/-- what is known of the module behind its top -/
structure Tb (K : PySem.W.Frag) (mg : Str → Option Value) (f : Nat → Addr) (fd : Nat → FuncData) : Prop where
  sysd : ∃ o, K.lookup sysModules = some o ∧ o.cls = .type "dict"
  n_abs : mg "abs" = none
  n_all : mg "all" = none
  n_bool : mg "bool" = none
  n_divmod : mg "divmod" = none
  n_enumerate : mg "enumerate" = none
  n_int : mg "int" = none
  n_isinstance : mg "isinstance" = none
  n_len : mg "len" = none
  n_list : mg "list" = none
  n_max : mg "max" = none
  n_min : mg "min" = none
  n_range : mg "range" = none
  n_set : mg "set" = none
  n_sorted : mg "sorted" = none
  n_str : mg "str" = none
  n_tuple : mg "tuple" = none
  n_zip : mg "zip" = none
  g_MOST_COST : ∃ t, mg "MOST_COST" = some (.int 99 t)
  g_MOST_ROADS : ∃ t, mg "MOST_ROADS" = some (.int 30 t)
  g_MOST_ROOM : ∃ t, mg "MOST_ROOM" = some (.int 9 t)
  g_MOST_VILLAGES : ∃ t, mg "MOST_VILLAGES" = some (.int 10 t)
  m_0 : mg "is_integer" = some (.ref (f 0))
  F_0 : FunD K "is_integer" "is_integer" (defArgs (top 1)) (defBody (top 1)) (defScope (top 1)) [] [] (f 0) (fd 0)
  m_1 : mg "is_within" = some (.ref (f 1))
  F_1 : FunD K "is_within" "is_within" (defArgs (top 2)) (defBody (top 2)) (defScope (top 2)) [] [] (f 1) (fd 1)
  m_2 : mg "is_tuple" = some (.ref (f 2))
  F_2 : FunD K "is_tuple" "is_tuple" (defArgs (top 3)) (defBody (top 3)) (defScope (top 3)) [] [] (f 2) (fd 2)
  m_3 : mg "are_rising" = some (.ref (f 3))
  F_3 : FunD K "are_rising" "are_rising" (defArgs (top 4)) (defBody (top 4)) (defScope (top 4)) [] [] (f 3) (fd 3)
  m_4 : mg "is_lot_of" = some (.ref (f 4))
  F_4 : FunD K "is_lot_of" "is_lot_of" (defArgs (top 5)) (defBody (top 5)) (defScope (top 5)) [] [] (f 4) (fd 4)
  m_5 : mg "is_road_value" = some (.ref (f 5))
  F_5 : FunD K "is_road_value" "is_road_value" (defArgs (top 16)) (defBody (top 16)) (defScope (top 16)) [] [] (f 5) (fd 5)
  m_6 : mg "is_shire_value" = some (.ref (f 6))
  F_6 : FunD K "is_shire_value" "is_shire_value" (defArgs (top 17)) (defBody (top 17)) (defScope (top 17)) [] [] (f 6) (fd 6)
  m_7 : mg "want_shire" = some (.ref (f 7))
  F_7 : FunD K "want_shire" "want_shire" (defArgs (top 18)) (defBody (top 18)) (defScope (top 18)) [] [] (f 7) (fd 7)
  m_8 : mg "is_village_of" = some (.ref (f 8))
  F_8 : FunD K "is_village_of" "is_village_of" (defArgs (top 19)) (defBody (top 19)) (defScope (top 19)) [] [] (f 8) (fd 8)
  m_9 : mg "want_village" = some (.ref (f 9))
  F_9 : FunD K "want_village" "want_village" (defArgs (top 20)) (defBody (top 20)) (defScope (top 20)) [] [] (f 9) (fd 9)
  m_10 : mg "want_lot" = some (.ref (f 10))
  F_10 : FunD K "want_lot" "want_lot" (defArgs (top 21)) (defBody (top 21)) (defScope (top 21)) [] [] (f 10) (fd 10)
  m_11 : mg "all_roads" = some (.ref (f 11))
  F_11 : FunD K "all_roads" "all_roads" (defArgs (top 22)) (defBody (top 22)) (defScope (top 22)) [] [] (f 11) (fd 11)
  m_12 : mg "all_villages" = some (.ref (f 12))
  F_12 : FunD K "all_villages" "all_villages" (defArgs (top 23)) (defBody (top 23)) (defScope (top 23)) [] [] (f 12) (fd 12)
  m_13 : mg "ends_of" = some (.ref (f 13))
  F_13 : FunD K "ends_of" "ends_of" (defArgs (top 24)) (defBody (top 24)) (defScope (top 24)) [] [] (f 13) (fd 13)
  m_14 : mg "other_end" = some (.ref (f 14))
  F_14 : FunD K "other_end" "other_end" (defArgs (top 25)) (defBody (top 25)) (defScope (top 25)) [] [] (f 14) (fd 14)
  m_15 : mg "roads_at" = some (.ref (f 15))
  F_15 : FunD K "roads_at" "roads_at" (defArgs (top 26)) (defBody (top 26)) (defScope (top 26)) [] [] (f 15) (fd 15)
  m_16 : mg "reached_by" = some (.ref (f 16))
  F_16 : FunD K "reached_by" "reached_by" (defArgs (top 27)) (defBody (top 27)) (defScope (top 27)) [] [] (f 16) (fd 16)
  m_17 : mg "pieces_by" = some (.ref (f 17))
  F_17 : FunD K "pieces_by" "pieces_by" (defArgs (top 28)) (defBody (top 28)) (defScope (top 28)) [] [] (f 17) (fd 17)
  m_18 : mg "rank_of" = some (.ref (f 18))
  F_18 : FunD K "rank_of" "rank_of" (defArgs (top 29)) (defBody (top 29)) (defScope (top 29)) [] [] (f 18) (fd 18)
  m_19 : mg "pieces_along" = some (.ref (f 19))
  F_19 : FunD K "pieces_along" "pieces_along" (defArgs (top 30)) (defBody (top 30)) (defScope (top 30)) [] [] (f 19) (fd 19)
  m_20 : mg "walks_from" = some (.ref (f 20))
  F_20 : FunD K "walks_from" "walks_from" (defArgs (top 32)) (defBody (top 32)) (defScope (top 32)) [] [] (f 20) (fd 20)
  m_21 : mg "is_forest_of" = some (.ref (f 21))
  F_21 : FunD K "is_forest_of" "is_forest_of" (defArgs (top 33)) (defBody (top 33)) (defScope (top 33)) [] [] (f 21) (fd 21)
  m_22 : mg "ring_of" = some (.ref (f 22))
  F_22 : FunD K "ring_of" "ring_of" (defArgs (top 34)) (defBody (top 34)) (defScope (top 34)) [] [] (f 22) (fd 22)
  m_23 : mg "grown" = some (.ref (f 23))
  F_23 : FunD K "grown" "grown" (defArgs (top 35)) (defBody (top 35)) (defScope (top 35)) [] [] (f 23) (fd 23)
  m_24 : mg "walk" = some (.ref (f 24))
  F_24 : FunD K "walk" "walk" (defArgs (top 36)) (defBody (top 36)) (defScope (top 36)) [] [] (f 24) (fd 24)
  m_25 : mg "ring" = some (.ref (f 25))
  F_25 : FunD K "ring" "ring" (defArgs (top 37)) (defBody (top 37)) (defScope (top 37)) [] [] (f 25) (fd 25)
  m_26 : mg "is_forest" = some (.ref (f 26))
  F_26 : FunD K "is_forest" "is_forest" (defArgs (top 38)) (defBody (top 38)) (defScope (top 38)) [] [] (f 26) (fd 26)
  m_27 : mg "first_forest" = some (.ref (f 27))
  F_27 : FunD K "first_forest" "first_forest" (defArgs (top 39)) (defBody (top 39)) (defScope (top 39)) [] [] (f 27) (fd 27)
  m_28 : mg "with_roads" = some (.ref (f 28))
  F_28 : FunD K "with_roads" "with_roads" (defArgs (top 41)) (defBody (top 41)) (defScope (top 41)) [] [] (f 28) (fd 28)
  m_29 : mg "left_out" = some (.ref (f 29))
  F_29 : FunD K "left_out" "left_out" (defArgs (top 42)) (defBody (top 42)) (defScope (top 42)) [] [] (f 29) (fd 29)
  m_30 : mg "without" = some (.ref (f 30))
  F_30 : FunD K "without" "without" (defArgs (top 43)) (defBody (top 43)) (defScope (top 43)) [] [] (f 30) (fd 30)
  m_31 : mg "_law_pot" = some (.ref (f 31))
  F_31 : FunD K "_law_pot" "_law_pot" (defArgs (top 45)) (defBody (top 45)) (defScope (top 45)) [] [] (f 31) (fd 31)
  m_32 : mg "_law_draw" = some (.ref (f 32))
  F_32 : FunD K "_law_draw" "_law_draw" (defArgs (top 46)) (defBody (top 46)) (defScope (top 46)) [] [] (f 32) (fd 32)
  m_33 : mg "_law_shire" = some (.ref (f 33))
  F_33 : FunD K "_law_shire" "_law_shire" (defArgs (top 47)) (defBody (top 47)) (defScope (top 47)) [] [] (f 33) (fd 33)
  m_34 : mg "_law_lot" = some (.ref (f 34))
  F_34 : FunD K "_law_lot" "_law_lot" (defArgs (top 48)) (defBody (top 48)) (defScope (top 48)) [] [] (f 34) (fd 34)
  m_35 : mg "_law_rank" = some (.ref (f 35))
  F_35 : FunD K "_law_rank" "_law_rank" (defArgs (top 49)) (defBody (top 49)) (defScope (top 49)) [] [] (f 35) (fd 35)
  m_36 : mg "_law_right" = some (.ref (f 36))
  F_36 : FunD K "_law_right" "_law_right" (defArgs (top 50)) (defBody (top 50)) (defScope (top 50)) [] [] (f 36) (fd 36)
  m_37 : mg "law" = some (.ref (f 37))
  F_37 : FunD K "law" "law" (defArgs (top 51)) (defBody (top 51)) (defScope (top 51)) [] [] (f 37) (fd 37)
theorem sc_0 : FnScope ["value"] ["value"] (defScope (top 1)) := ⟨rfl, rfl, rfl, by decide +kernel, rfl, by decide +kernel, by decide +kernel⟩
theorem sc_1 : FnScope ["value", "least", "most"] ["value", "least", "most"] (defScope (top 2)) := ⟨rfl, rfl, rfl, by decide +kernel, rfl, by decide +kernel, by decide +kernel⟩
theorem sc_2 : FnScope ["value", "many"] ["value", "many"] (defScope (top 3)) := ⟨rfl, rfl, rfl, by decide +kernel, rfl, by decide +kernel, by decide +kernel⟩
theorem sc_3 : FnScope ["values", "near", "far"] ["values"] (defScope (top 4)) := ⟨rfl, rfl, rfl, by decide +kernel, rfl, by decide +kernel, by decide +kernel⟩
theorem sc_4 : FnScope ["value", "many", "one"] ["value", "many"] (defScope (top 5)) := ⟨rfl, rfl, rfl, by decide +kernel, rfl, by decide +kernel, by decide +kernel⟩
theorem sc_5 : FnScope ["value", "villages", "one"] ["value", "villages"] (defScope (top 16)) := ⟨rfl, rfl, rfl, by decide +kernel, rfl, by decide +kernel, by decide +kernel⟩
theorem sc_6 : FnScope ["value", "one"] ["value"] (defScope (top 17)) := ⟨rfl, rfl, rfl, by decide +kernel, rfl, by decide +kernel, by decide +kernel⟩
theorem sc_7 : FnScope ["shire"] ["shire"] (defScope (top 18)) := ⟨rfl, rfl, rfl, by decide +kernel, rfl, by decide +kernel, by decide +kernel⟩
theorem sc_8 : FnScope ["shire", "value"] ["shire", "value"] (defScope (top 19)) := ⟨rfl, rfl, rfl, by decide +kernel, rfl, by decide +kernel, by decide +kernel⟩
theorem sc_9 : FnScope ["shire", "village"] ["shire", "village"] (defScope (top 20)) := ⟨rfl, rfl, rfl, by decide +kernel, rfl, by decide +kernel, by decide +kernel⟩
theorem sc_10 : FnScope ["shire", "lot"] ["shire", "lot"] (defScope (top 21)) := ⟨rfl, rfl, rfl, by decide +kernel, rfl, by decide +kernel, by decide +kernel⟩
theorem sc_11 : FnScope ["shire"] ["shire"] (defScope (top 22)) := ⟨rfl, rfl, rfl, by decide +kernel, rfl, by decide +kernel, by decide +kernel⟩
theorem sc_12 : FnScope ["shire"] ["shire"] (defScope (top 23)) := ⟨rfl, rfl, rfl, by decide +kernel, rfl, by decide +kernel, by decide +kernel⟩
theorem sc_13 : FnScope ["shire", "road"] ["shire", "road"] (defScope (top 24)) := ⟨rfl, rfl, rfl, by decide +kernel, rfl, by decide +kernel, by decide +kernel⟩
theorem sc_14 : FnScope ["shire", "road", "village", "one", "other"] ["shire", "road", "village"] (defScope (top 25)) := ⟨rfl, rfl, rfl, by decide +kernel, rfl, by decide +kernel, by decide +kernel⟩
theorem sc_15 : FnScope ["shire", "lot", "village", "road"] ["shire", "lot", "village"] (defScope (top 26)) := ⟨rfl, rfl, rfl, by decide +kernel, rfl, by decide +kernel, by decide +kernel⟩
theorem sc_16 : FnScope ["shire", "lot", "village", "found", "left", "here", "road", "there"] ["shire", "lot", "village"] (defScope (top 27)) := ⟨rfl, rfl, rfl, by decide +kernel, rfl, by decide +kernel, by decide +kernel⟩
theorem sc_17 : FnScope ["shire", "lot", "village", "found", "known", "piece"] ["shire", "lot"] (defScope (top 28)) := ⟨rfl, rfl, rfl, by decide +kernel, rfl, by decide +kernel, by decide +kernel⟩
theorem sc_18 : FnScope ["shire", "lot"] ["shire", "lot"] (defScope (top 29)) := ⟨rfl, rfl, rfl, by decide +kernel, rfl, by decide +kernel, by decide +kernel⟩
theorem sc_19 : FnScope ["shire", "lot"] ["shire", "lot"] (defScope (top 30)) := ⟨rfl, rfl, rfl, by decide +kernel, rfl, by decide +kernel, by decide +kernel⟩
theorem sc_20 : FnScope ["shire", "lot", "village", "found", "last", "late", "here", "road", "there"] ["shire", "lot", "village"] (defScope (top 32)) := ⟨rfl, rfl, rfl, by decide +kernel, rfl, by decide +kernel, by decide +kernel⟩
theorem sc_21 : FnScope ["shire", "lot"] ["shire", "lot"] (defScope (top 33)) := ⟨rfl, rfl, rfl, by decide +kernel, rfl, by decide +kernel, by decide +kernel⟩
theorem sc_22 : FnScope ["shire", "lot", "at", "road", "back", "one", "other"] ["shire", "lot"] (defScope (top 34)) := ⟨rfl, rfl, rfl, by decide +kernel, rfl, by decide +kernel, by decide +kernel⟩
theorem sc_23 : FnScope ["shire", "roads", "found", "road"] ["shire", "roads"] (defScope (top 35)) := ⟨rfl, rfl, rfl, by decide +kernel, rfl, by decide +kernel, by decide +kernel⟩
theorem sc_24 : FnScope ["shire", "lot", "village", "other"] ["shire", "lot", "village", "other"] (defScope (top 36)) := ⟨rfl, rfl, rfl, by decide +kernel, rfl, by decide +kernel, by decide +kernel⟩
theorem sc_25 : FnScope ["shire", "lot"] ["shire", "lot"] (defScope (top 37)) := ⟨rfl, rfl, rfl, by decide +kernel, rfl, by decide +kernel, by decide +kernel⟩
theorem sc_26 : FnScope ["shire", "value"] ["shire", "value"] (defScope (top 38)) := ⟨rfl, rfl, rfl, by decide +kernel, rfl, by decide +kernel, by decide +kernel⟩
theorem sc_27 : FnScope ["shire"] ["shire"] (defScope (top 39)) := ⟨rfl, rfl, rfl, by decide +kernel, rfl, by decide +kernel, by decide +kernel⟩
theorem sc_28 : FnScope ["shire", "roads"] ["shire", "roads"] (defScope (top 41)) := ⟨rfl, rfl, rfl, by decide +kernel, rfl, by decide +kernel, by decide +kernel⟩
theorem sc_29 : FnScope ["shire", "lot", "road"] ["shire", "lot"] (defScope (top 42)) := ⟨rfl, rfl, rfl, by decide +kernel, rfl, by decide +kernel, by decide +kernel⟩
theorem sc_30 : FnScope ["shire", "lot"] ["shire", "lot"] (defScope (top 43)) := ⟨rfl, rfl, rfl, by decide +kernel, rfl, by decide +kernel, by decide +kernel⟩
theorem sc_31 : FnScope ["script", "k", "cell"] ["script", "k"] (defScope (top 45)) := ⟨rfl, rfl, rfl, by decide +kernel, rfl, by decide +kernel, by decide +kernel⟩
theorem sc_32 : FnScope ["pot", "many", "digit"] ["pot", "many"] (defScope (top 46)) := ⟨rfl, rfl, rfl, by decide +kernel, rfl, by decide +kernel, by decide +kernel⟩
theorem sc_33 : FnScope ["pot", "villages", "roads", "turn", "many", "found", "one", "other"] ["pot", "villages", "roads"] (defScope (top 47)) := ⟨rfl, rfl, rfl, by decide +kernel, rfl, by decide +kernel, by decide +kernel⟩
theorem sc_34 : FnScope ["pot", "shire", "road"] ["pot", "shire"] (defScope (top 48)) := ⟨rfl, rfl, rfl, by decide +kernel, rfl, by decide +kernel, by decide +kernel⟩
theorem sc_35 : FnScope ["shire", "lot"] ["shire", "lot"] (defScope (top 49)) := ⟨rfl, rfl, rfl, by decide +kernel, rfl, by decide +kernel, by decide +kernel⟩
theorem sc_36 : FnScope ["pot", "shire", "road", "both", "whole", "found", "rest", "near", "every", "one", "other", "late", "joined", "at"] ["pot"] (defScope (top 50)) := ⟨rfl, rfl, rfl, by decide +kernel, rfl, by decide +kernel, by decide +kernel⟩
theorem sc_37 : FnScope ["script", "k", "pot", "turn"] ["script"] (defScope (top 51)) := ⟨rfl, rfl, rfl, by decide +kernel, rfl, by decide +kernel, by decide +kernel⟩
section
variable {P : Program} {w : World} {K : PySem.W.Frag} {mg : Str → Option Value} {base : Heap} {f : Nat → Addr} {fd : Nat → FuncData} {n : Nat}
theorem b_0 (T : Tb K mg f fd) : Binds K (fd 0) ["value"] [] := T.F_0.bindsN fun _ _ _ _ _ _ us hl => match us, hl with | [_], _ => rfl
theorem b_1 (T : Tb K mg f fd) : Binds K (fd 1) ["value", "least", "most"] [] := T.F_1.bindsN fun _ _ _ _ _ _ us hl => match us, hl with | [_, _, _], _ => rfl
theorem b_2 (T : Tb K mg f fd) : Binds K (fd 2) ["value", "many"] [] := T.F_2.bindsN fun _ _ _ _ _ _ us hl => match us, hl with | [_, _], _ => rfl
theorem b_3 (T : Tb K mg f fd) : Binds K (fd 3) ["values"] [] := T.F_3.bindsN fun _ _ _ _ _ _ us hl => match us, hl with | [_], _ => rfl
theorem b_4 (T : Tb K mg f fd) : Binds K (fd 4) ["value", "many"] [] := T.F_4.bindsN fun _ _ _ _ _ _ us hl => match us, hl with | [_, _], _ => rfl
theorem b_5 (T : Tb K mg f fd) : Binds K (fd 5) ["value", "villages"] [] := T.F_5.bindsN fun _ _ _ _ _ _ us hl => match us, hl with | [_, _], _ => rfl
theorem b_6 (T : Tb K mg f fd) : Binds K (fd 6) ["value"] [] := T.F_6.bindsN fun _ _ _ _ _ _ us hl => match us, hl with | [_], _ => rfl
theorem b_7 (T : Tb K mg f fd) : Binds K (fd 7) ["shire"] [] := T.F_7.bindsN fun _ _ _ _ _ _ us hl => match us, hl with | [_], _ => rfl
theorem b_8 (T : Tb K mg f fd) : Binds K (fd 8) ["shire", "value"] [] := T.F_8.bindsN fun _ _ _ _ _ _ us hl => match us, hl with | [_, _], _ => rfl
theorem b_9 (T : Tb K mg f fd) : Binds K (fd 9) ["shire", "village"] [] := T.F_9.bindsN fun _ _ _ _ _ _ us hl => match us, hl with | [_, _], _ => rfl
theorem b_10 (T : Tb K mg f fd) : Binds K (fd 10) ["shire", "lot"] [] := T.F_10.bindsN fun _ _ _ _ _ _ us hl => match us, hl with | [_, _], _ => rfl
theorem b_11 (T : Tb K mg f fd) : Binds K (fd 11) ["shire"] [] := T.F_11.bindsN fun _ _ _ _ _ _ us hl => match us, hl with | [_], _ => rfl
theorem b_12 (T : Tb K mg f fd) : Binds K (fd 12) ["shire"] [] := T.F_12.bindsN fun _ _ _ _ _ _ us hl => match us, hl with | [_], _ => rfl
theorem b_13 (T : Tb K mg f fd) : Binds K (fd 13) ["shire", "road"] [] := T.F_13.bindsN fun _ _ _ _ _ _ us hl => match us, hl with | [_, _], _ => rfl
theorem b_14 (T : Tb K mg f fd) : Binds K (fd 14) ["shire", "road", "village"] [] := T.F_14.bindsN fun _ _ _ _ _ _ us hl => match us, hl with | [_, _, _], _ => rfl
theorem b_15 (T : Tb K mg f fd) : Binds K (fd 15) ["shire", "lot", "village"] [] := T.F_15.bindsN fun _ _ _ _ _ _ us hl => match us, hl with | [_, _, _], _ => rfl
theorem b_16 (T : Tb K mg f fd) : Binds K (fd 16) ["shire", "lot", "village"] [] := T.F_16.bindsN fun _ _ _ _ _ _ us hl => match us, hl with | [_, _, _], _ => rfl
theorem b_17 (T : Tb K mg f fd) : Binds K (fd 17) ["shire", "lot"] [] := T.F_17.bindsN fun _ _ _ _ _ _ us hl => match us, hl with | [_, _], _ => rfl
theorem b_18 (T : Tb K mg f fd) : Binds K (fd 18) ["shire", "lot"] [] := T.F_18.bindsN fun _ _ _ _ _ _ us hl => match us, hl with | [_, _], _ => rfl
theorem b_19 (T : Tb K mg f fd) : Binds K (fd 19) ["shire", "lot"] [] := T.F_19.bindsN fun _ _ _ _ _ _ us hl => match us, hl with | [_, _], _ => rfl
theorem b_20 (T : Tb K mg f fd) : Binds K (fd 20) ["shire", "lot", "village"] [] := T.F_20.bindsN fun _ _ _ _ _ _ us hl => match us, hl with | [_, _, _], _ => rfl
theorem b_21 (T : Tb K mg f fd) : Binds K (fd 21) ["shire", "lot"] [] := T.F_21.bindsN fun _ _ _ _ _ _ us hl => match us, hl with | [_, _], _ => rfl
theorem b_22 (T : Tb K mg f fd) : Binds K (fd 22) ["shire", "lot"] [] := T.F_22.bindsN fun _ _ _ _ _ _ us hl => match us, hl with | [_, _], _ => rfl
theorem b_23 (T : Tb K mg f fd) : Binds K (fd 23) ["shire", "roads"] [] := T.F_23.bindsN fun _ _ _ _ _ _ us hl => match us, hl with | [_, _], _ => rfl
theorem b_24 (T : Tb K mg f fd) : Binds K (fd 24) ["shire", "lot", "village", "other"] [] := T.F_24.bindsN fun _ _ _ _ _ _ us hl => match us, hl with | [_, _, _, _], _ => rfl
theorem b_25 (T : Tb K mg f fd) : Binds K (fd 25) ["shire", "lot"] [] := T.F_25.bindsN fun _ _ _ _ _ _ us hl => match us, hl with | [_, _], _ => rfl
theorem b_26 (T : Tb K mg f fd) : Binds K (fd 26) ["shire", "value"] [] := T.F_26.bindsN fun _ _ _ _ _ _ us hl => match us, hl with | [_, _], _ => rfl
theorem b_27 (T : Tb K mg f fd) : Binds K (fd 27) ["shire"] [] := T.F_27.bindsN fun _ _ _ _ _ _ us hl => match us, hl with | [_], _ => rfl
theorem b_28 (T : Tb K mg f fd) : Binds K (fd 28) ["shire", "roads"] [] := T.F_28.bindsN fun _ _ _ _ _ _ us hl => match us, hl with | [_, _], _ => rfl
theorem b_29 (T : Tb K mg f fd) : Binds K (fd 29) ["shire", "lot"] [] := T.F_29.bindsN fun _ _ _ _ _ _ us hl => match us, hl with | [_, _], _ => rfl
theorem b_30 (T : Tb K mg f fd) : Binds K (fd 30) ["shire", "lot"] [] := T.F_30.bindsN fun _ _ _ _ _ _ us hl => match us, hl with | [_, _], _ => rfl
theorem b_31 (T : Tb K mg f fd) : Binds K (fd 31) ["script", "k"] [] := T.F_31.bindsN fun _ _ _ _ _ _ us hl => match us, hl with | [_, _], _ => rfl
theorem b_32 (T : Tb K mg f fd) : Binds K (fd 32) ["pot", "many"] [] := T.F_32.bindsN fun _ _ _ _ _ _ us hl => match us, hl with | [_, _], _ => rfl
theorem b_33 (T : Tb K mg f fd) : Binds K (fd 33) ["pot", "villages", "roads"] [] := T.F_33.bindsN fun _ _ _ _ _ _ us hl => match us, hl with | [_, _, _], _ => rfl
theorem b_34 (T : Tb K mg f fd) : Binds K (fd 34) ["pot", "shire"] [] := T.F_34.bindsN fun _ _ _ _ _ _ us hl => match us, hl with | [_, _], _ => rfl
theorem b_35 (T : Tb K mg f fd) : Binds K (fd 35) ["shire", "lot"] [] := T.F_35.bindsN fun _ _ _ _ _ _ us hl => match us, hl with | [_, _], _ => rfl
theorem b_36 (T : Tb K mg f fd) : Binds K (fd 36) ["pot"] [] := T.F_36.bindsN fun _ _ _ _ _ _ us hl => match us, hl with | [_], _ => rfl
theorem b_37 (T : Tb K mg f fd) : Binds K (fd 37) ["script"] [] := T.F_37.bindsN fun _ _ _ _ _ _ us hl => match us, hl with | [_], _ => rfl
/-- every def keeps its promise, n calls deep -/
structure Lv (P : Program) (w : World) (K : PySem.W.Frag) (mg : Str → Option Value) (base : Heap) (f : Nat → Addr) (fd : Nat → FuncData) (n : Nat) : Prop where
  L_0 : FnG P w K mg base n (f 0) (fd 0) ["value"] (spF K prog n 0 1)
  L_1 : FnG P w K mg base n (f 1) (fd 1) ["value", "least", "most"] (spF K prog n 1 3)
  L_2 : FnG P w K mg base n (f 2) (fd 2) ["value", "many"] (spF K prog n 2 2)
  L_3 : FnG P w K mg base n (f 3) (fd 3) ["values"] (spF K prog n 3 1)
  L_4 : FnG P w K mg base n (f 4) (fd 4) ["value", "many"] (spF K prog n 4 2)
  L_5 : FnG P w K mg base n (f 5) (fd 5) ["value", "villages"] (spF K prog n 5 2)
  L_6 : FnG P w K mg base n (f 6) (fd 6) ["value"] (spF K prog n 6 1)
  L_7 : FnG P w K mg base n (f 7) (fd 7) ["shire"] (spF K prog n 7 1)
  L_8 : FnG P w K mg base n (f 8) (fd 8) ["shire", "value"] (spF K prog n 8 2)
  L_9 : FnG P w K mg base n (f 9) (fd 9) ["shire", "village"] (spF K prog n 9 2)
  L_10 : FnG P w K mg base n (f 10) (fd 10) ["shire", "lot"] (spF K prog n 10 2)
  L_11 : FnG P w K mg base n (f 11) (fd 11) ["shire"] (spF K prog n 11 1)
  L_12 : FnG P w K mg base n (f 12) (fd 12) ["shire"] (spF K prog n 12 1)
  L_13 : FnG P w K mg base n (f 13) (fd 13) ["shire", "road"] (spF K prog n 13 2)
  L_14 : FnG P w K mg base n (f 14) (fd 14) ["shire", "road", "village"] (spF K prog n 14 3)
  L_15 : FnG P w K mg base n (f 15) (fd 15) ["shire", "lot", "village"] (spF K prog n 15 3)
  L_16 : FnG P w K mg base n (f 16) (fd 16) ["shire", "lot", "village"] (spF K prog n 16 3)
  L_17 : FnG P w K mg base n (f 17) (fd 17) ["shire", "lot"] (spF K prog n 17 2)
  L_18 : FnG P w K mg base n (f 18) (fd 18) ["shire", "lot"] (spF K prog n 18 2)
  L_19 : FnG P w K mg base n (f 19) (fd 19) ["shire", "lot"] (spF K prog n 19 2)
  L_20 : FnG P w K mg base n (f 20) (fd 20) ["shire", "lot", "village"] (spF K prog n 20 3)
  L_21 : FnG P w K mg base n (f 21) (fd 21) ["shire", "lot"] (spF K prog n 21 2)
  L_22 : FnG P w K mg base n (f 22) (fd 22) ["shire", "lot"] (spF K prog n 22 2)
  L_23 : FnG P w K mg base n (f 23) (fd 23) ["shire", "roads"] (spF K prog n 23 2)
  L_24 : FnG P w K mg base n (f 24) (fd 24) ["shire", "lot", "village", "other"] (spF K prog n 24 4)
  L_25 : FnG P w K mg base n (f 25) (fd 25) ["shire", "lot"] (spF K prog n 25 2)
  L_26 : FnG P w K mg base n (f 26) (fd 26) ["shire", "value"] (spF K prog n 26 2)
  L_27 : FnG P w K mg base n (f 27) (fd 27) ["shire"] (spF K prog n 27 1)
  L_28 : FnG P w K mg base n (f 28) (fd 28) ["shire", "roads"] (spF K prog n 28 2)
  L_29 : FnG P w K mg base n (f 29) (fd 29) ["shire", "lot"] (spF K prog n 29 2)
  L_30 : FnG P w K mg base n (f 30) (fd 30) ["shire", "lot"] (spF K prog n 30 2)
  L_31 : FnG P w K mg base n (f 31) (fd 31) ["script", "k"] (spF K prog n 31 2)
  L_32 : FnG P w K mg base n (f 32) (fd 32) ["pot", "many"] (spF K prog n 32 2)
  L_33 : FnG P w K mg base n (f 33) (fd 33) ["pot", "villages", "roads"] (spF K prog n 33 3)
  L_34 : FnG P w K mg base n (f 34) (fd 34) ["pot", "shire"] (spF K prog n 34 2)
  L_35 : FnG P w K mg base n (f 35) (fd 35) ["shire", "lot"] (spF K prog n 35 2)
  L_36 : FnG P w K mg base n (f 36) (fd 36) ["pot"] (spF K prog n 36 1)
  L_37 : FnG P w K mg base n (f 37) (fd 37) ["script"] (spF K prog n 37 1)
theorem body_0 (T : Tb K mg f fd) (L : Lv P w K mg base f fd n) (cdv : Value) (A : Around) (outer : List PySem.Env) (s : Shared) (H : Hp) (E : XK) (n0 : Nat) (hr : Room n (A.deeper (envOfC "is_integer" (defScope (top 1)) s.heap.objs.size (f 0) cdv))) (hgd : A.guards = some []) :
    Pss (cxOf C8.CX0 P w K mg base ["value"] "is_integer" (defScope (top 1)) (f 0) cdv A outer s H E) ⟨evF prog n, prog.glob, prog.fuel⟩ n0 (defBody (top 1)) d0.body := by
  have nd : (cxOf C8.CX0 P w K mg base ["value"] "is_integer" (defScope (top 1)) (f 0) cdv A outer s H E).N.Nodup := sc_0.nd
  have hp : PassesOwn (model P w) (cxOf C8.CX0 P w K mg base ["value"] "is_integer" (defScope (top 1)) (f 0) cdv A outer s H E).A (cxOf C8.CX0 P w K mg base ["value"] "is_integer" (defScope (top 1)) (f 0) cdv A outer s H E).env (cxOf C8.CX0 P w K mg base ["value"] "is_integer" (defScope (top 1)) (f 0) cdv A outer s H E).xe := PassesOwn.leaving
  have u1 : (cxOf C8.CX0 P w K mg base ["value"] "is_integer" (defScope (top 1)) (f 0) cdv A outer s H E).A.units + 1 < cLine := by have := hr.un; show (A.deeper _).units + 1 < _; omega
  have u64 : (cxOf C8.CX0 P w K mg base ["value"] "is_integer" (defScope (top 1)) (f 0) cdv A outer s H E).A.units + 64 < cLine := by have := hr.un; show (A.deeper _).units + 64 < _; omega
  have u65 : (cxOf C8.CX0 P w K mg base ["value"] "is_integer" (defScope (top 1)) (f 0) cdv A outer s H E).A.units + 65 < cLine := by have := hr.un; show (A.deeper _).units + 65 < _; omega
  have u66 : (cxOf C8.CX0 P w K mg base ["value"] "is_integer" (defScope (top 1)) (f 0) cdv A outer s H E).A.units + 66 < cLine := by have := hr.un; show (A.deeper _).units + 66 < _; omega
  exact (st_cons (st_ret (em_and (em_isi (T := "int") (by decide) (em_v (i := 0) rfl) rfl T.n_isinstance rfl T.n_int PyProof.Rows.boot_int) (em_one (em_not (em_isi (T := "bool") (by decide) (em_v (i := 0) rfl) rfl T.n_isinstance rfl T.n_bool PyProof.Rows.boot_bool)))))
  st_nil)
theorem body_1 (T : Tb K mg f fd) (L : Lv P w K mg base f fd n) (cdv : Value) (A : Around) (outer : List PySem.Env) (s : Shared) (H : Hp) (E : XK) (n0 : Nat) (hr : Room n (A.deeper (envOfC "is_within" (defScope (top 2)) s.heap.objs.size (f 1) cdv))) (hgd : A.guards = some []) :
    Pss (cxOf C8.CX0 P w K mg base ["value", "least", "most"] "is_within" (defScope (top 2)) (f 1) cdv A outer s H E) ⟨evF prog n, prog.glob, prog.fuel⟩ n0 (defBody (top 2)) d1.body := by
  have nd : (cxOf C8.CX0 P w K mg base ["value", "least", "most"] "is_within" (defScope (top 2)) (f 1) cdv A outer s H E).N.Nodup := sc_1.nd
  have hp : PassesOwn (model P w) (cxOf C8.CX0 P w K mg base ["value", "least", "most"] "is_within" (defScope (top 2)) (f 1) cdv A outer s H E).A (cxOf C8.CX0 P w K mg base ["value", "least", "most"] "is_within" (defScope (top 2)) (f 1) cdv A outer s H E).env (cxOf C8.CX0 P w K mg base ["value", "least", "most"] "is_within" (defScope (top 2)) (f 1) cdv A outer s H E).xe := PassesOwn.leaving
  have u1 : (cxOf C8.CX0 P w K mg base ["value", "least", "most"] "is_within" (defScope (top 2)) (f 1) cdv A outer s H E).A.units + 1 < cLine := by have := hr.un; show (A.deeper _).units + 1 < _; omega
  have u64 : (cxOf C8.CX0 P w K mg base ["value", "least", "most"] "is_within" (defScope (top 2)) (f 1) cdv A outer s H E).A.units + 64 < cLine := by have := hr.un; show (A.deeper _).units + 64 < _; omega
  have u65 : (cxOf C8.CX0 P w K mg base ["value", "least", "most"] "is_within" (defScope (top 2)) (f 1) cdv A outer s H E).A.units + 65 < cLine := by have := hr.un; show (A.deeper _).units + 65 < _; omega
  have u66 : (cxOf C8.CX0 P w K mg base ["value", "least", "most"] "is_within" (defScope (top 2)) (f 1) cdv A outer s H E).A.units + 66 < cLine := by have := hr.un; show (A.deeper _).units + 66 < _; omega
  exact (st_cons (st_ret (em_and (em_call L.L_0 hr hgd rfl T.m_0 T.F_0.kp (b_0 T) (es_cons (em_v (i := 0) rfl) es_nil)) (em_one (em_chain opr_le opr_le (chk (by decide)) (em_v (i := 1) rfl) (em_v (i := 0) rfl) (em_v (i := 2) rfl)))))
  st_nil)
theorem body_2 (T : Tb K mg f fd) (L : Lv P w K mg base f fd n) (cdv : Value) (A : Around) (outer : List PySem.Env) (s : Shared) (H : Hp) (E : XK) (n0 : Nat) (hr : Room n (A.deeper (envOfC "is_tuple" (defScope (top 3)) s.heap.objs.size (f 2) cdv))) (hgd : A.guards = some []) :
    Pss (cxOf C8.CX0 P w K mg base ["value", "many"] "is_tuple" (defScope (top 3)) (f 2) cdv A outer s H E) ⟨evF prog n, prog.glob, prog.fuel⟩ n0 (defBody (top 3)) d2.body := by
  have nd : (cxOf C8.CX0 P w K mg base ["value", "many"] "is_tuple" (defScope (top 3)) (f 2) cdv A outer s H E).N.Nodup := sc_2.nd
  have hp : PassesOwn (model P w) (cxOf C8.CX0 P w K mg base ["value", "many"] "is_tuple" (defScope (top 3)) (f 2) cdv A outer s H E).A (cxOf C8.CX0 P w K mg base ["value", "many"] "is_tuple" (defScope (top 3)) (f 2) cdv A outer s H E).env (cxOf C8.CX0 P w K mg base ["value", "many"] "is_tuple" (defScope (top 3)) (f 2) cdv A outer s H E).xe := PassesOwn.leaving
  have u1 : (cxOf C8.CX0 P w K mg base ["value", "many"] "is_tuple" (defScope (top 3)) (f 2) cdv A outer s H E).A.units + 1 < cLine := by have := hr.un; show (A.deeper _).units + 1 < _; omega
  have u64 : (cxOf C8.CX0 P w K mg base ["value", "many"] "is_tuple" (defScope (top 3)) (f 2) cdv A outer s H E).A.units + 64 < cLine := by have := hr.un; show (A.deeper _).units + 64 < _; omega
  have u65 : (cxOf C8.CX0 P w K mg base ["value", "many"] "is_tuple" (defScope (top 3)) (f 2) cdv A outer s H E).A.units + 65 < cLine := by have := hr.un; show (A.deeper _).units + 65 < _; omega
  have u66 : (cxOf C8.CX0 P w K mg base ["value", "many"] "is_tuple" (defScope (top 3)) (f 2) cdv A outer s H E).A.units + 66 < cLine := by have := hr.un; show (A.deeper _).units + 66 < _; omega
  exact (st_cons (st_ret (em_and (em_isi (T := "tuple") (by decide) (em_v (i := 0) rfl) rfl T.n_isinstance rfl T.n_tuple PyProof.Rows.boot_tuple) (em_one (em_cmp (opr_eq u64) (em_bi crx_len rfl T.n_len PySem.boot_len (es_cons (em_v (i := 0) rfl) es_nil)) (em_v (i := 1) rfl)))))
  st_nil)
theorem body_3 (T : Tb K mg f fd) (L : Lv P w K mg base f fd n) (cdv : Value) (A : Around) (outer : List PySem.Env) (s : Shared) (H : Hp) (E : XK) (n0 : Nat) (hr : Room n (A.deeper (envOfC "are_rising" (defScope (top 4)) s.heap.objs.size (f 3) cdv))) (hgd : A.guards = some []) :
    Pss (cxOf C8.CX0 P w K mg base ["values", "near", "far"] "are_rising" (defScope (top 4)) (f 3) cdv A outer s H E) ⟨evF prog n, prog.glob, prog.fuel⟩ n0 (defBody (top 4)) d3.body := by
  have nd : (cxOf C8.CX0 P w K mg base ["values", "near", "far"] "are_rising" (defScope (top 4)) (f 3) cdv A outer s H E).N.Nodup := sc_3.nd
  have hp : PassesOwn (model P w) (cxOf C8.CX0 P w K mg base ["values", "near", "far"] "are_rising" (defScope (top 4)) (f 3) cdv A outer s H E).A (cxOf C8.CX0 P w K mg base ["values", "near", "far"] "are_rising" (defScope (top 4)) (f 3) cdv A outer s H E).env (cxOf C8.CX0 P w K mg base ["values", "near", "far"] "are_rising" (defScope (top 4)) (f 3) cdv A outer s H E).xe := PassesOwn.leaving
  have u1 : (cxOf C8.CX0 P w K mg base ["values", "near", "far"] "are_rising" (defScope (top 4)) (f 3) cdv A outer s H E).A.units + 1 < cLine := by have := hr.un; show (A.deeper _).units + 1 < _; omega
  have u64 : (cxOf C8.CX0 P w K mg base ["values", "near", "far"] "are_rising" (defScope (top 4)) (f 3) cdv A outer s H E).A.units + 64 < cLine := by have := hr.un; show (A.deeper _).units + 64 < _; omega
  have u65 : (cxOf C8.CX0 P w K mg base ["values", "near", "far"] "are_rising" (defScope (top 4)) (f 3) cdv A outer s H E).A.units + 65 < cLine := by have := hr.un; show (A.deeper _).units + 65 < _; omega
  have u66 : (cxOf C8.CX0 P w K mg base ["values", "near", "far"] "are_rising" (defScope (top 4)) (f 3) cdv A outer s H E).A.units + 66 < cLine := by have := hr.un; show (A.deeper _).units + 66 < _; omega
  exact (st_cons (st_ret (em_bi (crx_all rfl) rfl T.n_all PyProof.Rows.boot_all (es_cons (em_lc (own := [("near", 1), ("far", 2)]) rfl nd (blkOk_by (N := ["values", "near", "far"]) (sc := defScope (top 4)) (by decide +kernel)) (ei_zip rfl T.n_zip (es_cons (em_v (i := 0) rfl) (es_cons (em_sl (em_v (i := 0) rfl) (eo_some em_int) eo_none) es_nil))) (fun _ _ _ _ _ => (eg_tup rfl (egs_cons (eg_name (i := 1) nd rfl) (egs_cons (eg_name (i := 2) nd rfl) egs_nil)))) (fun _ _ _ _ _ => ec_nil) (fun _ _ _ _ _ => (em_cmp (opr_lt u64) (em_v (i := 1) rfl) (em_v (i := 2) rfl)))) es_nil)))
  st_nil)
theorem body_4 (T : Tb K mg f fd) (L : Lv P w K mg base f fd n) (cdv : Value) (A : Around) (outer : List PySem.Env) (s : Shared) (H : Hp) (E : XK) (n0 : Nat) (hr : Room n (A.deeper (envOfC "is_lot_of" (defScope (top 5)) s.heap.objs.size (f 4) cdv))) (hgd : A.guards = some []) :
    Pss (cxOf C8.CX0 P w K mg base ["value", "many", "one"] "is_lot_of" (defScope (top 5)) (f 4) cdv A outer s H E) ⟨evF prog n, prog.glob, prog.fuel⟩ n0 (defBody (top 5)) d4.body := by
  have nd : (cxOf C8.CX0 P w K mg base ["value", "many", "one"] "is_lot_of" (defScope (top 5)) (f 4) cdv A outer s H E).N.Nodup := sc_4.nd
  have hp : PassesOwn (model P w) (cxOf C8.CX0 P w K mg base ["value", "many", "one"] "is_lot_of" (defScope (top 5)) (f 4) cdv A outer s H E).A (cxOf C8.CX0 P w K mg base ["value", "many", "one"] "is_lot_of" (defScope (top 5)) (f 4) cdv A outer s H E).env (cxOf C8.CX0 P w K mg base ["value", "many", "one"] "is_lot_of" (defScope (top 5)) (f 4) cdv A outer s H E).xe := PassesOwn.leaving
  have u1 : (cxOf C8.CX0 P w K mg base ["value", "many", "one"] "is_lot_of" (defScope (top 5)) (f 4) cdv A outer s H E).A.units + 1 < cLine := by have := hr.un; show (A.deeper _).units + 1 < _; omega
  have u64 : (cxOf C8.CX0 P w K mg base ["value", "many", "one"] "is_lot_of" (defScope (top 5)) (f 4) cdv A outer s H E).A.units + 64 < cLine := by have := hr.un; show (A.deeper _).units + 64 < _; omega
  have u65 : (cxOf C8.CX0 P w K mg base ["value", "many", "one"] "is_lot_of" (defScope (top 5)) (f 4) cdv A outer s H E).A.units + 65 < cLine := by have := hr.un; show (A.deeper _).units + 65 < _; omega
  have u66 : (cxOf C8.CX0 P w K mg base ["value", "many", "one"] "is_lot_of" (defScope (top 5)) (f 4) cdv A outer s H E).A.units + 66 < cLine := by have := hr.un; show (A.deeper _).units + 66 < _; omega
  exact (st_cons (st_ret (em_and (em_isi (T := "tuple") (by decide) (em_v (i := 0) rfl) rfl T.n_isinstance rfl T.n_tuple PyProof.Rows.boot_tuple) (em_and (em_bi (crx_all rfl) rfl T.n_all PyProof.Rows.boot_all (es_cons (em_lc (own := [("one", 2)]) rfl nd (blkOk_by (N := ["value", "many", "one"]) (sc := defScope (top 5)) (by decide +kernel)) (ei_seq (em_v (i := 0) rfl)) (fun _ _ _ _ _ => (eg_name (i := 2) nd rfl)) (fun _ _ _ _ _ => ec_nil) (fun _ _ _ _ _ => (em_call L.L_1 hr hgd rfl T.m_1 T.F_1.kp (b_1 T) (es_cons (em_v (i := 2) rfl) (es_cons em_int (es_cons (em_op opr_sub (em_v (i := 1) rfl) em_int) es_nil)))))) es_nil)) (em_one (em_call L.L_3 hr hgd rfl T.m_3 T.F_3.kp (b_3 T) (es_cons (em_v (i := 0) rfl) es_nil))))))
  st_nil)
theorem body_5 (T : Tb K mg f fd) (L : Lv P w K mg base f fd n) (cdv : Value) (A : Around) (outer : List PySem.Env) (s : Shared) (H : Hp) (E : XK) (n0 : Nat) (hr : Room n (A.deeper (envOfC "is_road_value" (defScope (top 16)) s.heap.objs.size (f 5) cdv))) (hgd : A.guards = some []) :
    Pss (cxOf C8.CX0 P w K mg base ["value", "villages", "one"] "is_road_value" (defScope (top 16)) (f 5) cdv A outer s H E) ⟨evF prog n, prog.glob, prog.fuel⟩ n0 (defBody (top 16)) d5.body := by
  have nd : (cxOf C8.CX0 P w K mg base ["value", "villages", "one"] "is_road_value" (defScope (top 16)) (f 5) cdv A outer s H E).N.Nodup := sc_5.nd
  have hp : PassesOwn (model P w) (cxOf C8.CX0 P w K mg base ["value", "villages", "one"] "is_road_value" (defScope (top 16)) (f 5) cdv A outer s H E).A (cxOf C8.CX0 P w K mg base ["value", "villages", "one"] "is_road_value" (defScope (top 16)) (f 5) cdv A outer s H E).env (cxOf C8.CX0 P w K mg base ["value", "villages", "one"] "is_road_value" (defScope (top 16)) (f 5) cdv A outer s H E).xe := PassesOwn.leaving
  have u1 : (cxOf C8.CX0 P w K mg base ["value", "villages", "one"] "is_road_value" (defScope (top 16)) (f 5) cdv A outer s H E).A.units + 1 < cLine := by have := hr.un; show (A.deeper _).units + 1 < _; omega
  have u64 : (cxOf C8.CX0 P w K mg base ["value", "villages", "one"] "is_road_value" (defScope (top 16)) (f 5) cdv A outer s H E).A.units + 64 < cLine := by have := hr.un; show (A.deeper _).units + 64 < _; omega
  have u65 : (cxOf C8.CX0 P w K mg base ["value", "villages", "one"] "is_road_value" (defScope (top 16)) (f 5) cdv A outer s H E).A.units + 65 < cLine := by have := hr.un; show (A.deeper _).units + 65 < _; omega
  have u66 : (cxOf C8.CX0 P w K mg base ["value", "villages", "one"] "is_road_value" (defScope (top 16)) (f 5) cdv A outer s H E).A.units + 66 < cLine := by have := hr.un; show (A.deeper _).units + 66 < _; omega
  exact (st_cons (st_if (tt_w (tw_or (tt_not (tt_val (em_call L.L_2 hr hgd rfl T.m_2 T.F_2.kp (b_2 T) (es_cons (em_v (i := 0) rfl) (es_cons em_int es_nil))))) (tw_or1 (tt_not (tt_val (em_bi (crx_all rfl) rfl T.n_all PyProof.Rows.boot_all (es_cons (em_lc (own := [("one", 2)]) rfl nd (blkOk_by (N := ["value", "villages", "one"]) (sc := defScope (top 16)) (by decide +kernel)) (ei_seq (em_sl (em_v (i := 0) rfl) eo_none (eo_some em_int))) (fun _ _ _ _ _ => (eg_name (i := 2) nd rfl)) (fun _ _ _ _ _ => ec_nil) (fun _ _ _ _ _ => (em_call L.L_1 hr hgd rfl T.m_1 T.F_1.kp (b_1 T) (es_cons (em_v (i := 2) rfl) (es_cons em_int (es_cons (em_op opr_sub (em_v (i := 1) rfl) em_int) es_nil)))))) es_nil)))))))
  (st_cons (st_ret em_bl)
  st_nil)
  st_nil)
  (st_cons (st_ret (em_and (em_cmp (opr_lt u64) (em_ix (em_v (i := 0) rfl) em_int) (em_ix (em_v (i := 0) rfl) em_int)) (em_and (em_call L.L_1 hr hgd rfl T.m_1 T.F_1.kp (b_1 T) (es_cons (em_ix (em_v (i := 0) rfl) em_int) (es_cons em_int (es_cons (em_gi (i := 2) rfl rfl T.g_MOST_COST) es_nil)))) (em_one (em_call L.L_1 hr hgd rfl T.m_1 T.F_1.kp (b_1 T) (es_cons (em_ix (em_v (i := 0) rfl) em_int) (es_cons em_int (es_cons (em_gi (i := 3) rfl rfl T.g_MOST_ROOM) es_nil))))))))
  st_nil))
theorem body_6 (T : Tb K mg f fd) (L : Lv P w K mg base f fd n) (cdv : Value) (A : Around) (outer : List PySem.Env) (s : Shared) (H : Hp) (E : XK) (n0 : Nat) (hr : Room n (A.deeper (envOfC "is_shire_value" (defScope (top 17)) s.heap.objs.size (f 6) cdv))) (hgd : A.guards = some []) :
    Pss (cxOf C8.CX0 P w K mg base ["value", "one"] "is_shire_value" (defScope (top 17)) (f 6) cdv A outer s H E) ⟨evF prog n, prog.glob, prog.fuel⟩ n0 (defBody (top 17)) d6.body := by
  have nd : (cxOf C8.CX0 P w K mg base ["value", "one"] "is_shire_value" (defScope (top 17)) (f 6) cdv A outer s H E).N.Nodup := sc_6.nd
  have hp : PassesOwn (model P w) (cxOf C8.CX0 P w K mg base ["value", "one"] "is_shire_value" (defScope (top 17)) (f 6) cdv A outer s H E).A (cxOf C8.CX0 P w K mg base ["value", "one"] "is_shire_value" (defScope (top 17)) (f 6) cdv A outer s H E).env (cxOf C8.CX0 P w K mg base ["value", "one"] "is_shire_value" (defScope (top 17)) (f 6) cdv A outer s H E).xe := PassesOwn.leaving
  have u1 : (cxOf C8.CX0 P w K mg base ["value", "one"] "is_shire_value" (defScope (top 17)) (f 6) cdv A outer s H E).A.units + 1 < cLine := by have := hr.un; show (A.deeper _).units + 1 < _; omega
  have u64 : (cxOf C8.CX0 P w K mg base ["value", "one"] "is_shire_value" (defScope (top 17)) (f 6) cdv A outer s H E).A.units + 64 < cLine := by have := hr.un; show (A.deeper _).units + 64 < _; omega
  have u65 : (cxOf C8.CX0 P w K mg base ["value", "one"] "is_shire_value" (defScope (top 17)) (f 6) cdv A outer s H E).A.units + 65 < cLine := by have := hr.un; show (A.deeper _).units + 65 < _; omega
  have u66 : (cxOf C8.CX0 P w K mg base ["value", "one"] "is_shire_value" (defScope (top 17)) (f 6) cdv A outer s H E).A.units + 66 < cLine := by have := hr.un; show (A.deeper _).units + 66 < _; omega
  exact (st_cons (st_if (tt_w (tw_or (tt_not (tt_val (em_call L.L_2 hr hgd rfl T.m_2 T.F_2.kp (b_2 T) (es_cons (em_v (i := 0) rfl) (es_cons em_int es_nil))))) (tw_or (tt_not (tt_val (em_isi (T := "str") (by decide) (em_ix (em_v (i := 0) rfl) em_int) rfl T.n_isinstance rfl T.n_str PyProof.Rows.boot_str))) (tw_or1 (tt_cmp (opr_ne u64) (em_ix (em_v (i := 0) rfl) em_int) em_str)))))
  (st_cons (st_ret em_bl)
  st_nil)
  st_nil)
  (st_cons (st_if (tt_w (tw_or (tt_not (tt_val (em_call L.L_1 hr hgd rfl T.m_1 T.F_1.kp (b_1 T) (es_cons (em_ix (em_v (i := 0) rfl) em_int) (es_cons em_int (es_cons (em_gi (i := 0) rfl rfl T.g_MOST_VILLAGES) es_nil)))))) (tw_or (tt_not (tt_val (em_isi (T := "tuple") (by decide) (em_ix (em_v (i := 0) rfl) em_int) rfl T.n_isinstance rfl T.n_tuple PyProof.Rows.boot_tuple))) (tw_or1 (tt_cmp opr_gt (em_bi crx_len rfl T.n_len PySem.boot_len (es_cons (em_ix (em_v (i := 0) rfl) em_int) es_nil)) (em_gi (i := 1) rfl rfl T.g_MOST_ROADS))))))
  (st_cons (st_ret em_bl)
  st_nil)
  st_nil)
  (st_cons (st_ret (em_bi (crx_all rfl) rfl T.n_all PyProof.Rows.boot_all (es_cons (em_lc (own := [("one", 1)]) rfl nd (blkOk_by (N := ["value", "one"]) (sc := defScope (top 17)) (by decide +kernel)) (ei_seq (em_ix (em_v (i := 0) rfl) em_int)) (fun _ _ _ _ _ => (eg_name (i := 1) nd rfl)) (fun _ _ _ _ _ => ec_nil) (fun _ _ _ _ _ => (em_call L.L_5 hr hgd rfl T.m_5 T.F_5.kp (b_5 T) (es_cons (em_v (i := 1) rfl) (es_cons (em_ix (em_v (i := 0) rfl) em_int) es_nil))))) es_nil)))
  st_nil)))
theorem body_7 (T : Tb K mg f fd) (L : Lv P w K mg base f fd n) (cdv : Value) (A : Around) (outer : List PySem.Env) (s : Shared) (H : Hp) (E : XK) (n0 : Nat) (hr : Room n (A.deeper (envOfC "want_shire" (defScope (top 18)) s.heap.objs.size (f 7) cdv))) (hgd : A.guards = some []) :
    Pss (cxOf C8.CX0 P w K mg base ["shire"] "want_shire" (defScope (top 18)) (f 7) cdv A outer s H E) ⟨evF prog n, prog.glob, prog.fuel⟩ n0 (defBody (top 18)) d7.body := by
  have nd : (cxOf C8.CX0 P w K mg base ["shire"] "want_shire" (defScope (top 18)) (f 7) cdv A outer s H E).N.Nodup := sc_7.nd
  have hp : PassesOwn (model P w) (cxOf C8.CX0 P w K mg base ["shire"] "want_shire" (defScope (top 18)) (f 7) cdv A outer s H E).A (cxOf C8.CX0 P w K mg base ["shire"] "want_shire" (defScope (top 18)) (f 7) cdv A outer s H E).env (cxOf C8.CX0 P w K mg base ["shire"] "want_shire" (defScope (top 18)) (f 7) cdv A outer s H E).xe := PassesOwn.leaving
  have u1 : (cxOf C8.CX0 P w K mg base ["shire"] "want_shire" (defScope (top 18)) (f 7) cdv A outer s H E).A.units + 1 < cLine := by have := hr.un; show (A.deeper _).units + 1 < _; omega
  have u64 : (cxOf C8.CX0 P w K mg base ["shire"] "want_shire" (defScope (top 18)) (f 7) cdv A outer s H E).A.units + 64 < cLine := by have := hr.un; show (A.deeper _).units + 64 < _; omega
  have u65 : (cxOf C8.CX0 P w K mg base ["shire"] "want_shire" (defScope (top 18)) (f 7) cdv A outer s H E).A.units + 65 < cLine := by have := hr.un; show (A.deeper _).units + 65 < _; omega
  have u66 : (cxOf C8.CX0 P w K mg base ["shire"] "want_shire" (defScope (top 18)) (f 7) cdv A outer s H E).A.units + 66 < cLine := by have := hr.un; show (A.deeper _).units + 66 < _; omega
  exact (st_cons (st_if (tt_not (tt_val (em_call L.L_6 hr hgd rfl T.m_6 T.F_6.kp (b_6 T) (es_cons (em_v (i := 0) rfl) es_nil))))
  (st_cons st_raise
  st_nil)
  st_nil)
  st_nil)
theorem body_8 (T : Tb K mg f fd) (L : Lv P w K mg base f fd n) (cdv : Value) (A : Around) (outer : List PySem.Env) (s : Shared) (H : Hp) (E : XK) (n0 : Nat) (hr : Room n (A.deeper (envOfC "is_village_of" (defScope (top 19)) s.heap.objs.size (f 8) cdv))) (hgd : A.guards = some []) :
    Pss (cxOf C8.CX0 P w K mg base ["shire", "value"] "is_village_of" (defScope (top 19)) (f 8) cdv A outer s H E) ⟨evF prog n, prog.glob, prog.fuel⟩ n0 (defBody (top 19)) d8.body := by
  have nd : (cxOf C8.CX0 P w K mg base ["shire", "value"] "is_village_of" (defScope (top 19)) (f 8) cdv A outer s H E).N.Nodup := sc_8.nd
  have hp : PassesOwn (model P w) (cxOf C8.CX0 P w K mg base ["shire", "value"] "is_village_of" (defScope (top 19)) (f 8) cdv A outer s H E).A (cxOf C8.CX0 P w K mg base ["shire", "value"] "is_village_of" (defScope (top 19)) (f 8) cdv A outer s H E).env (cxOf C8.CX0 P w K mg base ["shire", "value"] "is_village_of" (defScope (top 19)) (f 8) cdv A outer s H E).xe := PassesOwn.leaving
  have u1 : (cxOf C8.CX0 P w K mg base ["shire", "value"] "is_village_of" (defScope (top 19)) (f 8) cdv A outer s H E).A.units + 1 < cLine := by have := hr.un; show (A.deeper _).units + 1 < _; omega
  have u64 : (cxOf C8.CX0 P w K mg base ["shire", "value"] "is_village_of" (defScope (top 19)) (f 8) cdv A outer s H E).A.units + 64 < cLine := by have := hr.un; show (A.deeper _).units + 64 < _; omega
  have u65 : (cxOf C8.CX0 P w K mg base ["shire", "value"] "is_village_of" (defScope (top 19)) (f 8) cdv A outer s H E).A.units + 65 < cLine := by have := hr.un; show (A.deeper _).units + 65 < _; omega
  have u66 : (cxOf C8.CX0 P w K mg base ["shire", "value"] "is_village_of" (defScope (top 19)) (f 8) cdv A outer s H E).A.units + 66 < cLine := by have := hr.un; show (A.deeper _).units + 66 < _; omega
  exact (st_cons (st_ret (em_call L.L_1 hr hgd rfl T.m_1 T.F_1.kp (b_1 T) (es_cons (em_v (i := 1) rfl) (es_cons em_int (es_cons (em_op opr_sub (em_ix (em_v (i := 0) rfl) em_int) em_int) es_nil)))))
  st_nil)
theorem body_9 (T : Tb K mg f fd) (L : Lv P w K mg base f fd n) (cdv : Value) (A : Around) (outer : List PySem.Env) (s : Shared) (H : Hp) (E : XK) (n0 : Nat) (hr : Room n (A.deeper (envOfC "want_village" (defScope (top 20)) s.heap.objs.size (f 9) cdv))) (hgd : A.guards = some []) :
    Pss (cxOf C8.CX0 P w K mg base ["shire", "village"] "want_village" (defScope (top 20)) (f 9) cdv A outer s H E) ⟨evF prog n, prog.glob, prog.fuel⟩ n0 (defBody (top 20)) d9.body := by
  have nd : (cxOf C8.CX0 P w K mg base ["shire", "village"] "want_village" (defScope (top 20)) (f 9) cdv A outer s H E).N.Nodup := sc_9.nd
  have hp : PassesOwn (model P w) (cxOf C8.CX0 P w K mg base ["shire", "village"] "want_village" (defScope (top 20)) (f 9) cdv A outer s H E).A (cxOf C8.CX0 P w K mg base ["shire", "village"] "want_village" (defScope (top 20)) (f 9) cdv A outer s H E).env (cxOf C8.CX0 P w K mg base ["shire", "village"] "want_village" (defScope (top 20)) (f 9) cdv A outer s H E).xe := PassesOwn.leaving
  have u1 : (cxOf C8.CX0 P w K mg base ["shire", "village"] "want_village" (defScope (top 20)) (f 9) cdv A outer s H E).A.units + 1 < cLine := by have := hr.un; show (A.deeper _).units + 1 < _; omega
  have u64 : (cxOf C8.CX0 P w K mg base ["shire", "village"] "want_village" (defScope (top 20)) (f 9) cdv A outer s H E).A.units + 64 < cLine := by have := hr.un; show (A.deeper _).units + 64 < _; omega
  have u65 : (cxOf C8.CX0 P w K mg base ["shire", "village"] "want_village" (defScope (top 20)) (f 9) cdv A outer s H E).A.units + 65 < cLine := by have := hr.un; show (A.deeper _).units + 65 < _; omega
  have u66 : (cxOf C8.CX0 P w K mg base ["shire", "village"] "want_village" (defScope (top 20)) (f 9) cdv A outer s H E).A.units + 66 < cLine := by have := hr.un; show (A.deeper _).units + 66 < _; omega
  exact (st_cons (st_if (tt_not (tt_val (em_call L.L_8 hr hgd rfl T.m_8 T.F_8.kp (b_8 T) (es_cons (em_v (i := 0) rfl) (es_cons (em_v (i := 1) rfl) es_nil)))))
  (st_cons st_raise
  st_nil)
  st_nil)
  st_nil)
theorem body_10 (T : Tb K mg f fd) (L : Lv P w K mg base f fd n) (cdv : Value) (A : Around) (outer : List PySem.Env) (s : Shared) (H : Hp) (E : XK) (n0 : Nat) (hr : Room n (A.deeper (envOfC "want_lot" (defScope (top 21)) s.heap.objs.size (f 10) cdv))) (hgd : A.guards = some []) :
    Pss (cxOf C8.CX0 P w K mg base ["shire", "lot"] "want_lot" (defScope (top 21)) (f 10) cdv A outer s H E) ⟨evF prog n, prog.glob, prog.fuel⟩ n0 (defBody (top 21)) d10.body := by
  have nd : (cxOf C8.CX0 P w K mg base ["shire", "lot"] "want_lot" (defScope (top 21)) (f 10) cdv A outer s H E).N.Nodup := sc_10.nd
  have hp : PassesOwn (model P w) (cxOf C8.CX0 P w K mg base ["shire", "lot"] "want_lot" (defScope (top 21)) (f 10) cdv A outer s H E).A (cxOf C8.CX0 P w K mg base ["shire", "lot"] "want_lot" (defScope (top 21)) (f 10) cdv A outer s H E).env (cxOf C8.CX0 P w K mg base ["shire", "lot"] "want_lot" (defScope (top 21)) (f 10) cdv A outer s H E).xe := PassesOwn.leaving
  have u1 : (cxOf C8.CX0 P w K mg base ["shire", "lot"] "want_lot" (defScope (top 21)) (f 10) cdv A outer s H E).A.units + 1 < cLine := by have := hr.un; show (A.deeper _).units + 1 < _; omega
  have u64 : (cxOf C8.CX0 P w K mg base ["shire", "lot"] "want_lot" (defScope (top 21)) (f 10) cdv A outer s H E).A.units + 64 < cLine := by have := hr.un; show (A.deeper _).units + 64 < _; omega
  have u65 : (cxOf C8.CX0 P w K mg base ["shire", "lot"] "want_lot" (defScope (top 21)) (f 10) cdv A outer s H E).A.units + 65 < cLine := by have := hr.un; show (A.deeper _).units + 65 < _; omega
  have u66 : (cxOf C8.CX0 P w K mg base ["shire", "lot"] "want_lot" (defScope (top 21)) (f 10) cdv A outer s H E).A.units + 66 < cLine := by have := hr.un; show (A.deeper _).units + 66 < _; omega
  exact (st_cons (st_if (tt_not (tt_val (em_call L.L_4 hr hgd rfl T.m_4 T.F_4.kp (b_4 T) (es_cons (em_v (i := 1) rfl) (es_cons (em_bi crx_len rfl T.n_len PySem.boot_len (es_cons (em_ix (em_v (i := 0) rfl) em_int) es_nil)) es_nil)))))
  (st_cons st_raise
  st_nil)
  st_nil)
  st_nil)
theorem body_11 (T : Tb K mg f fd) (L : Lv P w K mg base f fd n) (cdv : Value) (A : Around) (outer : List PySem.Env) (s : Shared) (H : Hp) (E : XK) (n0 : Nat) (hr : Room n (A.deeper (envOfC "all_roads" (defScope (top 22)) s.heap.objs.size (f 11) cdv))) (hgd : A.guards = some []) :
    Pss (cxOf C8.CX0 P w K mg base ["shire"] "all_roads" (defScope (top 22)) (f 11) cdv A outer s H E) ⟨evF prog n, prog.glob, prog.fuel⟩ n0 (defBody (top 22)) d11.body := by
  have nd : (cxOf C8.CX0 P w K mg base ["shire"] "all_roads" (defScope (top 22)) (f 11) cdv A outer s H E).N.Nodup := sc_11.nd
  have hp : PassesOwn (model P w) (cxOf C8.CX0 P w K mg base ["shire"] "all_roads" (defScope (top 22)) (f 11) cdv A outer s H E).A (cxOf C8.CX0 P w K mg base ["shire"] "all_roads" (defScope (top 22)) (f 11) cdv A outer s H E).env (cxOf C8.CX0 P w K mg base ["shire"] "all_roads" (defScope (top 22)) (f 11) cdv A outer s H E).xe := PassesOwn.leaving
  have u1 : (cxOf C8.CX0 P w K mg base ["shire"] "all_roads" (defScope (top 22)) (f 11) cdv A outer s H E).A.units + 1 < cLine := by have := hr.un; show (A.deeper _).units + 1 < _; omega
  have u64 : (cxOf C8.CX0 P w K mg base ["shire"] "all_roads" (defScope (top 22)) (f 11) cdv A outer s H E).A.units + 64 < cLine := by have := hr.un; show (A.deeper _).units + 64 < _; omega
  have u65 : (cxOf C8.CX0 P w K mg base ["shire"] "all_roads" (defScope (top 22)) (f 11) cdv A outer s H E).A.units + 65 < cLine := by have := hr.un; show (A.deeper _).units + 65 < _; omega
  have u66 : (cxOf C8.CX0 P w K mg base ["shire"] "all_roads" (defScope (top 22)) (f 11) cdv A outer s H E).A.units + 66 < cLine := by have := hr.un; show (A.deeper _).units + 66 < _; omega
  exact (st_cons (st_ret (em_tupRg rfl rfl T.n_tuple rfl T.n_range (em_bi crx_len rfl T.n_len PySem.boot_len (es_cons (em_ix (em_v (i := 0) rfl) em_int) es_nil))))
  st_nil)
theorem body_12 (T : Tb K mg f fd) (L : Lv P w K mg base f fd n) (cdv : Value) (A : Around) (outer : List PySem.Env) (s : Shared) (H : Hp) (E : XK) (n0 : Nat) (hr : Room n (A.deeper (envOfC "all_villages" (defScope (top 23)) s.heap.objs.size (f 12) cdv))) (hgd : A.guards = some []) :
    Pss (cxOf C8.CX0 P w K mg base ["shire"] "all_villages" (defScope (top 23)) (f 12) cdv A outer s H E) ⟨evF prog n, prog.glob, prog.fuel⟩ n0 (defBody (top 23)) d12.body := by
  have nd : (cxOf C8.CX0 P w K mg base ["shire"] "all_villages" (defScope (top 23)) (f 12) cdv A outer s H E).N.Nodup := sc_12.nd
  have hp : PassesOwn (model P w) (cxOf C8.CX0 P w K mg base ["shire"] "all_villages" (defScope (top 23)) (f 12) cdv A outer s H E).A (cxOf C8.CX0 P w K mg base ["shire"] "all_villages" (defScope (top 23)) (f 12) cdv A outer s H E).env (cxOf C8.CX0 P w K mg base ["shire"] "all_villages" (defScope (top 23)) (f 12) cdv A outer s H E).xe := PassesOwn.leaving
  have u1 : (cxOf C8.CX0 P w K mg base ["shire"] "all_villages" (defScope (top 23)) (f 12) cdv A outer s H E).A.units + 1 < cLine := by have := hr.un; show (A.deeper _).units + 1 < _; omega
  have u64 : (cxOf C8.CX0 P w K mg base ["shire"] "all_villages" (defScope (top 23)) (f 12) cdv A outer s H E).A.units + 64 < cLine := by have := hr.un; show (A.deeper _).units + 64 < _; omega
  have u65 : (cxOf C8.CX0 P w K mg base ["shire"] "all_villages" (defScope (top 23)) (f 12) cdv A outer s H E).A.units + 65 < cLine := by have := hr.un; show (A.deeper _).units + 65 < _; omega
  have u66 : (cxOf C8.CX0 P w K mg base ["shire"] "all_villages" (defScope (top 23)) (f 12) cdv A outer s H E).A.units + 66 < cLine := by have := hr.un; show (A.deeper _).units + 66 < _; omega
  exact (st_cons (st_ret (em_tupRg rfl rfl T.n_tuple rfl T.n_range (em_ix (em_v (i := 0) rfl) em_int)))
  st_nil)
theorem body_13 (T : Tb K mg f fd) (L : Lv P w K mg base f fd n) (cdv : Value) (A : Around) (outer : List PySem.Env) (s : Shared) (H : Hp) (E : XK) (n0 : Nat) (hr : Room n (A.deeper (envOfC "ends_of" (defScope (top 24)) s.heap.objs.size (f 13) cdv))) (hgd : A.guards = some []) :
    Pss (cxOf C8.CX0 P w K mg base ["shire", "road"] "ends_of" (defScope (top 24)) (f 13) cdv A outer s H E) ⟨evF prog n, prog.glob, prog.fuel⟩ n0 (defBody (top 24)) d13.body := by
  have nd : (cxOf C8.CX0 P w K mg base ["shire", "road"] "ends_of" (defScope (top 24)) (f 13) cdv A outer s H E).N.Nodup := sc_13.nd
  have hp : PassesOwn (model P w) (cxOf C8.CX0 P w K mg base ["shire", "road"] "ends_of" (defScope (top 24)) (f 13) cdv A outer s H E).A (cxOf C8.CX0 P w K mg base ["shire", "road"] "ends_of" (defScope (top 24)) (f 13) cdv A outer s H E).env (cxOf C8.CX0 P w K mg base ["shire", "road"] "ends_of" (defScope (top 24)) (f 13) cdv A outer s H E).xe := PassesOwn.leaving
  have u1 : (cxOf C8.CX0 P w K mg base ["shire", "road"] "ends_of" (defScope (top 24)) (f 13) cdv A outer s H E).A.units + 1 < cLine := by have := hr.un; show (A.deeper _).units + 1 < _; omega
  have u64 : (cxOf C8.CX0 P w K mg base ["shire", "road"] "ends_of" (defScope (top 24)) (f 13) cdv A outer s H E).A.units + 64 < cLine := by have := hr.un; show (A.deeper _).units + 64 < _; omega
  have u65 : (cxOf C8.CX0 P w K mg base ["shire", "road"] "ends_of" (defScope (top 24)) (f 13) cdv A outer s H E).A.units + 65 < cLine := by have := hr.un; show (A.deeper _).units + 65 < _; omega
  have u66 : (cxOf C8.CX0 P w K mg base ["shire", "road"] "ends_of" (defScope (top 24)) (f 13) cdv A outer s H E).A.units + 66 < cLine := by have := hr.un; show (A.deeper _).units + 66 < _; omega
  exact (st_cons (st_ret (em_sl (em_ix (em_ix (em_v (i := 0) rfl) em_int) (em_v (i := 1) rfl)) eo_none (eo_some em_int)))
  st_nil)
theorem body_14 (T : Tb K mg f fd) (L : Lv P w K mg base f fd n) (cdv : Value) (A : Around) (outer : List PySem.Env) (s : Shared) (H : Hp) (E : XK) (n0 : Nat) (hr : Room n (A.deeper (envOfC "other_end" (defScope (top 25)) s.heap.objs.size (f 14) cdv))) (hgd : A.guards = some []) :
    Pss (cxOf C8.CX0 P w K mg base ["shire", "road", "village", "one", "other"] "other_end" (defScope (top 25)) (f 14) cdv A outer s H E) ⟨evF prog n, prog.glob, prog.fuel⟩ n0 (defBody (top 25)) d14.body := by
  have nd : (cxOf C8.CX0 P w K mg base ["shire", "road", "village", "one", "other"] "other_end" (defScope (top 25)) (f 14) cdv A outer s H E).N.Nodup := sc_14.nd
  have hp : PassesOwn (model P w) (cxOf C8.CX0 P w K mg base ["shire", "road", "village", "one", "other"] "other_end" (defScope (top 25)) (f 14) cdv A outer s H E).A (cxOf C8.CX0 P w K mg base ["shire", "road", "village", "one", "other"] "other_end" (defScope (top 25)) (f 14) cdv A outer s H E).env (cxOf C8.CX0 P w K mg base ["shire", "road", "village", "one", "other"] "other_end" (defScope (top 25)) (f 14) cdv A outer s H E).xe := PassesOwn.leaving
  have u1 : (cxOf C8.CX0 P w K mg base ["shire", "road", "village", "one", "other"] "other_end" (defScope (top 25)) (f 14) cdv A outer s H E).A.units + 1 < cLine := by have := hr.un; show (A.deeper _).units + 1 < _; omega
  have u64 : (cxOf C8.CX0 P w K mg base ["shire", "road", "village", "one", "other"] "other_end" (defScope (top 25)) (f 14) cdv A outer s H E).A.units + 64 < cLine := by have := hr.un; show (A.deeper _).units + 64 < _; omega
  have u65 : (cxOf C8.CX0 P w K mg base ["shire", "road", "village", "one", "other"] "other_end" (defScope (top 25)) (f 14) cdv A outer s H E).A.units + 65 < cLine := by have := hr.un; show (A.deeper _).units + 65 < _; omega
  have u66 : (cxOf C8.CX0 P w K mg base ["shire", "road", "village", "one", "other"] "other_end" (defScope (top 25)) (f 14) cdv A outer s H E).A.units + 66 < cLine := by have := hr.un; show (A.deeper _).units + 66 < _; omega
  exact (st_cons (st_asg (em_call L.L_13 hr hgd rfl T.m_13 T.F_13.kp (b_13 T) (es_cons (em_v (i := 0) rfl) (es_cons (em_v (i := 1) rfl) es_nil))) (eg_tup rfl (egs_cons (eg_name (i := 3) nd rfl) (egs_cons (eg_name (i := 4) nd rfl) egs_nil))))
  (st_cons (st_ret (em_ite (tt_cmp (opr_eq u64) (em_v (i := 2) rfl) (em_v (i := 3) rfl)) (em_v (i := 4) rfl) (em_v (i := 3) rfl)))
  st_nil))
theorem body_15 (T : Tb K mg f fd) (L : Lv P w K mg base f fd n) (cdv : Value) (A : Around) (outer : List PySem.Env) (s : Shared) (H : Hp) (E : XK) (n0 : Nat) (hr : Room n (A.deeper (envOfC "roads_at" (defScope (top 26)) s.heap.objs.size (f 15) cdv))) (hgd : A.guards = some []) :
    Pss (cxOf C8.CX0 P w K mg base ["shire", "lot", "village", "road"] "roads_at" (defScope (top 26)) (f 15) cdv A outer s H E) ⟨evF prog n, prog.glob, prog.fuel⟩ n0 (defBody (top 26)) d15.body := by
  have nd : (cxOf C8.CX0 P w K mg base ["shire", "lot", "village", "road"] "roads_at" (defScope (top 26)) (f 15) cdv A outer s H E).N.Nodup := sc_15.nd
  have hp : PassesOwn (model P w) (cxOf C8.CX0 P w K mg base ["shire", "lot", "village", "road"] "roads_at" (defScope (top 26)) (f 15) cdv A outer s H E).A (cxOf C8.CX0 P w K mg base ["shire", "lot", "village", "road"] "roads_at" (defScope (top 26)) (f 15) cdv A outer s H E).env (cxOf C8.CX0 P w K mg base ["shire", "lot", "village", "road"] "roads_at" (defScope (top 26)) (f 15) cdv A outer s H E).xe := PassesOwn.leaving
  have u1 : (cxOf C8.CX0 P w K mg base ["shire", "lot", "village", "road"] "roads_at" (defScope (top 26)) (f 15) cdv A outer s H E).A.units + 1 < cLine := by have := hr.un; show (A.deeper _).units + 1 < _; omega
  have u64 : (cxOf C8.CX0 P w K mg base ["shire", "lot", "village", "road"] "roads_at" (defScope (top 26)) (f 15) cdv A outer s H E).A.units + 64 < cLine := by have := hr.un; show (A.deeper _).units + 64 < _; omega
  have u65 : (cxOf C8.CX0 P w K mg base ["shire", "lot", "village", "road"] "roads_at" (defScope (top 26)) (f 15) cdv A outer s H E).A.units + 65 < cLine := by have := hr.un; show (A.deeper _).units + 65 < _; omega
  have u66 : (cxOf C8.CX0 P w K mg base ["shire", "lot", "village", "road"] "roads_at" (defScope (top 26)) (f 15) cdv A outer s H E).A.units + 66 < cLine := by have := hr.un; show (A.deeper _).units + 66 < _; omega
  exact (st_cons (st_ret (em_lc (own := [("road", 3)]) rfl nd (blkOk_by (N := ["shire", "lot", "village", "road"]) (sc := defScope (top 26)) (by decide +kernel)) (ei_seq (em_v (i := 1) rfl)) (fun _ _ _ _ _ => (eg_name (i := 3) nd rfl)) (fun _ _ _ _ _ => (ec_one (tt_cmp (opr_in u65) (em_v (i := 2) rfl) (em_call L.L_13 hr hgd rfl T.m_13 T.F_13.kp (b_13 T) (es_cons (em_v (i := 0) rfl) (es_cons (em_v (i := 3) rfl) es_nil)))))) (fun _ _ _ _ _ => (em_v (i := 3) rfl))))
  st_nil)
theorem body_16 (T : Tb K mg f fd) (L : Lv P w K mg base f fd n) (cdv : Value) (A : Around) (outer : List PySem.Env) (s : Shared) (H : Hp) (E : XK) (n0 : Nat) (hr : Room n (A.deeper (envOfC "reached_by" (defScope (top 27)) s.heap.objs.size (f 16) cdv))) (hgd : A.guards = some []) :
    Pss (cxOf C8.CX0 P w K mg base ["shire", "lot", "village", "found", "left", "here", "road", "there"] "reached_by" (defScope (top 27)) (f 16) cdv A outer s H E) ⟨evF prog n, prog.glob, prog.fuel⟩ n0 (defBody (top 27)) d16.body := by
  have nd : (cxOf C8.CX0 P w K mg base ["shire", "lot", "village", "found", "left", "here", "road", "there"] "reached_by" (defScope (top 27)) (f 16) cdv A outer s H E).N.Nodup := sc_16.nd
  have hp : PassesOwn (model P w) (cxOf C8.CX0 P w K mg base ["shire", "lot", "village", "found", "left", "here", "road", "there"] "reached_by" (defScope (top 27)) (f 16) cdv A outer s H E).A (cxOf C8.CX0 P w K mg base ["shire", "lot", "village", "found", "left", "here", "road", "there"] "reached_by" (defScope (top 27)) (f 16) cdv A outer s H E).env (cxOf C8.CX0 P w K mg base ["shire", "lot", "village", "found", "left", "here", "road", "there"] "reached_by" (defScope (top 27)) (f 16) cdv A outer s H E).xe := PassesOwn.leaving
  have u1 : (cxOf C8.CX0 P w K mg base ["shire", "lot", "village", "found", "left", "here", "road", "there"] "reached_by" (defScope (top 27)) (f 16) cdv A outer s H E).A.units + 1 < cLine := by have := hr.un; show (A.deeper _).units + 1 < _; omega
  have u64 : (cxOf C8.CX0 P w K mg base ["shire", "lot", "village", "found", "left", "here", "road", "there"] "reached_by" (defScope (top 27)) (f 16) cdv A outer s H E).A.units + 64 < cLine := by have := hr.un; show (A.deeper _).units + 64 < _; omega
  have u65 : (cxOf C8.CX0 P w K mg base ["shire", "lot", "village", "found", "left", "here", "road", "there"] "reached_by" (defScope (top 27)) (f 16) cdv A outer s H E).A.units + 65 < cLine := by have := hr.un; show (A.deeper _).units + 65 < _; omega
  have u66 : (cxOf C8.CX0 P w K mg base ["shire", "lot", "village", "found", "left", "here", "road", "there"] "reached_by" (defScope (top 27)) (f 16) cdv A outer s H E).A.units + 66 < cLine := by have := hr.un; show (A.deeper _).units + 66 < _; omega
  exact (st_cons (st_par (i := 3) (j := 4) rfl nd rfl rfl (es_cons (em_lst (es_cons (em_v (i := 2) rfl) es_nil)) (es_cons (em_lst (es_cons (em_v (i := 2) rfl) es_nil)) es_nil)))
  (st_cons (st_while hp (tt_cmp (opr_ne u64) (em_v (i := 4) rfl) (em_lst es_nil))
  (st_cons (st_set (i := 5) nd rfl (em_mt0 PySem.F.slot_list_pop PySem.F.type_list_pop mtr_pop (em_v (i := 4) rfl)))
  (st_cons (st_for hp rfl (ei_seq (em_call L.L_15 hr hgd rfl T.m_15 T.F_15.kp (b_15 T) (es_cons (em_v (i := 0) rfl) (es_cons (em_v (i := 1) rfl) (es_cons (em_v (i := 5) rfl) es_nil))))) (eg_name (i := 6) nd rfl)
  (st_cons (st_set (i := 7) nd rfl (em_call L.L_14 hr hgd rfl T.m_14 T.F_14.kp (b_14 T) (es_cons (em_v (i := 0) rfl) (es_cons (em_v (i := 6) rfl) (es_cons (em_v (i := 5) rfl) es_nil)))))
  (st_cons (st_if (tt_cmp (opr_notIn u65) (em_v (i := 7) rfl) (em_v (i := 3) rfl))
  (st_cons (st_expr (em_mt PySem.F.slot_list_append PySem.F.type_list_append mtr_append (em_v (i := 3) rfl) (es_cons (em_v (i := 7) rfl) es_nil)))
  (st_cons (st_expr (em_mt PySem.F.slot_list_append PySem.F.type_list_append mtr_append (em_v (i := 4) rfl) (es_cons (em_v (i := 7) rfl) es_nil)))
  st_nil))
  st_nil)
  st_nil)))
  st_nil)))
  (st_cons (st_ret (em_ty crx_tuple rfl T.n_tuple PyProof.Rows.boot_tuple (es_cons (em_bi (crx_sorted u66) rfl T.n_sorted PyProof.Rows.boot_sorted (es_cons (em_v (i := 3) rfl) es_nil)) es_nil)))
  st_nil)))
theorem body_17 (T : Tb K mg f fd) (L : Lv P w K mg base f fd n) (cdv : Value) (A : Around) (outer : List PySem.Env) (s : Shared) (H : Hp) (E : XK) (n0 : Nat) (hr : Room n (A.deeper (envOfC "pieces_by" (defScope (top 28)) s.heap.objs.size (f 17) cdv))) (hgd : A.guards = some []) :
    Pss (cxOf C8.CX0 P w K mg base ["shire", "lot", "village", "found", "known", "piece"] "pieces_by" (defScope (top 28)) (f 17) cdv A outer s H E) ⟨evF prog n, prog.glob, prog.fuel⟩ n0 (defBody (top 28)) d17.body := by
  have nd : (cxOf C8.CX0 P w K mg base ["shire", "lot", "village", "found", "known", "piece"] "pieces_by" (defScope (top 28)) (f 17) cdv A outer s H E).N.Nodup := sc_17.nd
  have hp : PassesOwn (model P w) (cxOf C8.CX0 P w K mg base ["shire", "lot", "village", "found", "known", "piece"] "pieces_by" (defScope (top 28)) (f 17) cdv A outer s H E).A (cxOf C8.CX0 P w K mg base ["shire", "lot", "village", "found", "known", "piece"] "pieces_by" (defScope (top 28)) (f 17) cdv A outer s H E).env (cxOf C8.CX0 P w K mg base ["shire", "lot", "village", "found", "known", "piece"] "pieces_by" (defScope (top 28)) (f 17) cdv A outer s H E).xe := PassesOwn.leaving
  have u1 : (cxOf C8.CX0 P w K mg base ["shire", "lot", "village", "found", "known", "piece"] "pieces_by" (defScope (top 28)) (f 17) cdv A outer s H E).A.units + 1 < cLine := by have := hr.un; show (A.deeper _).units + 1 < _; omega
  have u64 : (cxOf C8.CX0 P w K mg base ["shire", "lot", "village", "found", "known", "piece"] "pieces_by" (defScope (top 28)) (f 17) cdv A outer s H E).A.units + 64 < cLine := by have := hr.un; show (A.deeper _).units + 64 < _; omega
  have u65 : (cxOf C8.CX0 P w K mg base ["shire", "lot", "village", "found", "known", "piece"] "pieces_by" (defScope (top 28)) (f 17) cdv A outer s H E).A.units + 65 < cLine := by have := hr.un; show (A.deeper _).units + 65 < _; omega
  have u66 : (cxOf C8.CX0 P w K mg base ["shire", "lot", "village", "found", "known", "piece"] "pieces_by" (defScope (top 28)) (f 17) cdv A outer s H E).A.units + 66 < cLine := by have := hr.un; show (A.deeper _).units + 66 < _; omega
  exact (st_cons (st_par (i := 3) (j := 4) rfl nd rfl rfl (es_cons (em_lst es_nil) (es_cons (em_lst es_nil) es_nil)))
  (st_cons (st_for hp rfl (ei_seq (em_call L.L_12 hr hgd rfl T.m_12 T.F_12.kp (b_12 T) (es_cons (em_v (i := 0) rfl) es_nil))) (eg_name (i := 2) nd rfl)
  (st_cons (st_if (tt_cmp (opr_notIn u65) (em_v (i := 2) rfl) (em_v (i := 4) rfl))
  (st_cons (st_set (i := 5) nd rfl (em_call L.L_16 hr hgd rfl T.m_16 T.F_16.kp (b_16 T) (es_cons (em_v (i := 0) rfl) (es_cons (em_v (i := 1) rfl) (es_cons (em_v (i := 2) rfl) es_nil)))))
  (st_cons (st_expr (em_mt PySem.F.slot_list_append PySem.F.type_list_append mtr_append (em_v (i := 3) rfl) (es_cons (em_v (i := 5) rfl) es_nil)))
  (st_cons (st_expr (em_mt PySem.F.slot_list_extend PySem.F.type_list_extend mtr_extend (em_v (i := 4) rfl) (es_cons (em_ty crx_list rfl T.n_list PyProof.Rows.boot_list (es_cons (em_v (i := 5) rfl) es_nil)) es_nil)))
  st_nil)))
  st_nil)
  st_nil))
  (st_cons (st_ret (em_v (i := 3) rfl))
  st_nil)))
theorem body_18 (T : Tb K mg f fd) (L : Lv P w K mg base f fd n) (cdv : Value) (A : Around) (outer : List PySem.Env) (s : Shared) (H : Hp) (E : XK) (n0 : Nat) (hr : Room n (A.deeper (envOfC "rank_of" (defScope (top 29)) s.heap.objs.size (f 18) cdv))) (hgd : A.guards = some []) :
    Pss (cxOf C8.CX0 P w K mg base ["shire", "lot"] "rank_of" (defScope (top 29)) (f 18) cdv A outer s H E) ⟨evF prog n, prog.glob, prog.fuel⟩ n0 (defBody (top 29)) d18.body := by
  have nd : (cxOf C8.CX0 P w K mg base ["shire", "lot"] "rank_of" (defScope (top 29)) (f 18) cdv A outer s H E).N.Nodup := sc_18.nd
  have hp : PassesOwn (model P w) (cxOf C8.CX0 P w K mg base ["shire", "lot"] "rank_of" (defScope (top 29)) (f 18) cdv A outer s H E).A (cxOf C8.CX0 P w K mg base ["shire", "lot"] "rank_of" (defScope (top 29)) (f 18) cdv A outer s H E).env (cxOf C8.CX0 P w K mg base ["shire", "lot"] "rank_of" (defScope (top 29)) (f 18) cdv A outer s H E).xe := PassesOwn.leaving
  have u1 : (cxOf C8.CX0 P w K mg base ["shire", "lot"] "rank_of" (defScope (top 29)) (f 18) cdv A outer s H E).A.units + 1 < cLine := by have := hr.un; show (A.deeper _).units + 1 < _; omega
  have u64 : (cxOf C8.CX0 P w K mg base ["shire", "lot"] "rank_of" (defScope (top 29)) (f 18) cdv A outer s H E).A.units + 64 < cLine := by have := hr.un; show (A.deeper _).units + 64 < _; omega
  have u65 : (cxOf C8.CX0 P w K mg base ["shire", "lot"] "rank_of" (defScope (top 29)) (f 18) cdv A outer s H E).A.units + 65 < cLine := by have := hr.un; show (A.deeper _).units + 65 < _; omega
  have u66 : (cxOf C8.CX0 P w K mg base ["shire", "lot"] "rank_of" (defScope (top 29)) (f 18) cdv A outer s H E).A.units + 66 < cLine := by have := hr.un; show (A.deeper _).units + 66 < _; omega
  exact (st_cons (st_ret (em_op opr_sub (em_ix (em_v (i := 0) rfl) em_int) (em_bi crx_len rfl T.n_len PySem.boot_len (es_cons (em_call L.L_17 hr hgd rfl T.m_17 T.F_17.kp (b_17 T) (es_cons (em_v (i := 0) rfl) (es_cons (em_v (i := 1) rfl) es_nil))) es_nil))))
  st_nil)
theorem body_19 (T : Tb K mg f fd) (L : Lv P w K mg base f fd n) (cdv : Value) (A : Around) (outer : List PySem.Env) (s : Shared) (H : Hp) (E : XK) (n0 : Nat) (hr : Room n (A.deeper (envOfC "pieces_along" (defScope (top 30)) s.heap.objs.size (f 19) cdv))) (hgd : A.guards = some []) :
    Pss (cxOf C8.CX0 P w K mg base ["shire", "lot"] "pieces_along" (defScope (top 30)) (f 19) cdv A outer s H E) ⟨evF prog n, prog.glob, prog.fuel⟩ n0 (defBody (top 30)) d19.body := by
  have nd : (cxOf C8.CX0 P w K mg base ["shire", "lot"] "pieces_along" (defScope (top 30)) (f 19) cdv A outer s H E).N.Nodup := sc_19.nd
  have hp : PassesOwn (model P w) (cxOf C8.CX0 P w K mg base ["shire", "lot"] "pieces_along" (defScope (top 30)) (f 19) cdv A outer s H E).A (cxOf C8.CX0 P w K mg base ["shire", "lot"] "pieces_along" (defScope (top 30)) (f 19) cdv A outer s H E).env (cxOf C8.CX0 P w K mg base ["shire", "lot"] "pieces_along" (defScope (top 30)) (f 19) cdv A outer s H E).xe := PassesOwn.leaving
  have u1 : (cxOf C8.CX0 P w K mg base ["shire", "lot"] "pieces_along" (defScope (top 30)) (f 19) cdv A outer s H E).A.units + 1 < cLine := by have := hr.un; show (A.deeper _).units + 1 < _; omega
  have u64 : (cxOf C8.CX0 P w K mg base ["shire", "lot"] "pieces_along" (defScope (top 30)) (f 19) cdv A outer s H E).A.units + 64 < cLine := by have := hr.un; show (A.deeper _).units + 64 < _; omega
  have u65 : (cxOf C8.CX0 P w K mg base ["shire", "lot"] "pieces_along" (defScope (top 30)) (f 19) cdv A outer s H E).A.units + 65 < cLine := by have := hr.un; show (A.deeper _).units + 65 < _; omega
  have u66 : (cxOf C8.CX0 P w K mg base ["shire", "lot"] "pieces_along" (defScope (top 30)) (f 19) cdv A outer s H E).A.units + 66 < cLine := by have := hr.un; show (A.deeper _).units + 66 < _; omega
  exact (st_cons (st_expr (em_call L.L_7 hr hgd rfl T.m_7 T.F_7.kp (b_7 T) (es_cons (em_v (i := 0) rfl) es_nil)))
  (st_cons (st_expr (em_call L.L_10 hr hgd rfl T.m_10 T.F_10.kp (b_10 T) (es_cons (em_v (i := 0) rfl) (es_cons (em_v (i := 1) rfl) es_nil))))
  (st_cons (st_ret (em_call L.L_17 hr hgd rfl T.m_17 T.F_17.kp (b_17 T) (es_cons (em_v (i := 0) rfl) (es_cons (em_v (i := 1) rfl) es_nil))))
  st_nil)))
theorem body_20 (T : Tb K mg f fd) (L : Lv P w K mg base f fd n) (cdv : Value) (A : Around) (outer : List PySem.Env) (s : Shared) (H : Hp) (E : XK) (n0 : Nat) (hr : Room n (A.deeper (envOfC "walks_from" (defScope (top 32)) s.heap.objs.size (f 20) cdv))) (hgd : A.guards = some []) :
    Pss (cxOf C8.CX0 P w K mg base ["shire", "lot", "village", "found", "last", "late", "here", "road", "there"] "walks_from" (defScope (top 32)) (f 20) cdv A outer s H E) ⟨evF prog n, prog.glob, prog.fuel⟩ n0 (defBody (top 32)) d20.body := by
  have nd : (cxOf C8.CX0 P w K mg base ["shire", "lot", "village", "found", "last", "late", "here", "road", "there"] "walks_from" (defScope (top 32)) (f 20) cdv A outer s H E).N.Nodup := sc_20.nd
  have hp : PassesOwn (model P w) (cxOf C8.CX0 P w K mg base ["shire", "lot", "village", "found", "last", "late", "here", "road", "there"] "walks_from" (defScope (top 32)) (f 20) cdv A outer s H E).A (cxOf C8.CX0 P w K mg base ["shire", "lot", "village", "found", "last", "late", "here", "road", "there"] "walks_from" (defScope (top 32)) (f 20) cdv A outer s H E).env (cxOf C8.CX0 P w K mg base ["shire", "lot", "village", "found", "last", "late", "here", "road", "there"] "walks_from" (defScope (top 32)) (f 20) cdv A outer s H E).xe := PassesOwn.leaving
  have u1 : (cxOf C8.CX0 P w K mg base ["shire", "lot", "village", "found", "last", "late", "here", "road", "there"] "walks_from" (defScope (top 32)) (f 20) cdv A outer s H E).A.units + 1 < cLine := by have := hr.un; show (A.deeper _).units + 1 < _; omega
  have u64 : (cxOf C8.CX0 P w K mg base ["shire", "lot", "village", "found", "last", "late", "here", "road", "there"] "walks_from" (defScope (top 32)) (f 20) cdv A outer s H E).A.units + 64 < cLine := by have := hr.un; show (A.deeper _).units + 64 < _; omega
  have u65 : (cxOf C8.CX0 P w K mg base ["shire", "lot", "village", "found", "last", "late", "here", "road", "there"] "walks_from" (defScope (top 32)) (f 20) cdv A outer s H E).A.units + 65 < cLine := by have := hr.un; show (A.deeper _).units + 65 < _; omega
  have u66 : (cxOf C8.CX0 P w K mg base ["shire", "lot", "village", "found", "last", "late", "here", "road", "there"] "walks_from" (defScope (top 32)) (f 20) cdv A outer s H E).A.units + 66 < cLine := by have := hr.un; show (A.deeper _).units + 66 < _; omega
  exact (st_cons (st_par (i := 3) (j := 4) rfl nd rfl rfl (es_cons (em_dsp (em_v (i := 2) rfl) (em_lst es_nil)) (es_cons (em_lst (es_cons (em_v (i := 2) rfl) es_nil)) es_nil)))
  (st_cons (st_while hp (tt_cmp (opr_ne u64) (em_v (i := 4) rfl) (em_lst es_nil))
  (st_cons (st_set (i := 5) nd rfl (em_lst es_nil))
  (st_cons (st_for hp rfl (ei_seq (em_v (i := 4) rfl)) (eg_name (i := 6) nd rfl)
  (st_cons (st_for hp rfl (ei_seq (em_call L.L_15 hr hgd rfl T.m_15 T.F_15.kp (b_15 T) (es_cons (em_v (i := 0) rfl) (es_cons (em_v (i := 1) rfl) (es_cons (em_v (i := 6) rfl) es_nil))))) (eg_name (i := 7) nd rfl)
  (st_cons (st_set (i := 8) nd rfl (em_call L.L_14 hr hgd rfl T.m_14 T.F_14.kp (b_14 T) (es_cons (em_v (i := 0) rfl) (es_cons (em_v (i := 7) rfl) (es_cons (em_v (i := 6) rfl) es_nil)))))
  (st_cons (st_if (tt_dnotin u1 (em_v (i := 8) rfl) (em_v (i := 3) rfl))
  (st_cons (st_dput u1 (em_v (i := 3) rfl) (em_v (i := 8) rfl) (em_op opr_add (em_dix u1 (em_v (i := 3) rfl) (em_v (i := 6) rfl)) (em_lst (es_cons (em_tup (es_cons (em_v (i := 7) rfl) (es_cons (em_v (i := 8) rfl) es_nil))) es_nil))))
  (st_cons (st_expr (em_mt PySem.F.slot_list_append PySem.F.type_list_append mtr_append (em_v (i := 5) rfl) (es_cons (em_v (i := 8) rfl) es_nil)))
  st_nil))
  st_nil)
  st_nil)))
  st_nil))
  (st_cons (st_set (i := 4) nd rfl (em_v (i := 5) rfl))
  st_nil))))
  (st_cons (st_ret (em_v (i := 3) rfl))
  st_nil)))
theorem body_21 (T : Tb K mg f fd) (L : Lv P w K mg base f fd n) (cdv : Value) (A : Around) (outer : List PySem.Env) (s : Shared) (H : Hp) (E : XK) (n0 : Nat) (hr : Room n (A.deeper (envOfC "is_forest_of" (defScope (top 33)) s.heap.objs.size (f 21) cdv))) (hgd : A.guards = some []) :
    Pss (cxOf C8.CX0 P w K mg base ["shire", "lot"] "is_forest_of" (defScope (top 33)) (f 21) cdv A outer s H E) ⟨evF prog n, prog.glob, prog.fuel⟩ n0 (defBody (top 33)) d21.body := by
  have nd : (cxOf C8.CX0 P w K mg base ["shire", "lot"] "is_forest_of" (defScope (top 33)) (f 21) cdv A outer s H E).N.Nodup := sc_21.nd
  have hp : PassesOwn (model P w) (cxOf C8.CX0 P w K mg base ["shire", "lot"] "is_forest_of" (defScope (top 33)) (f 21) cdv A outer s H E).A (cxOf C8.CX0 P w K mg base ["shire", "lot"] "is_forest_of" (defScope (top 33)) (f 21) cdv A outer s H E).env (cxOf C8.CX0 P w K mg base ["shire", "lot"] "is_forest_of" (defScope (top 33)) (f 21) cdv A outer s H E).xe := PassesOwn.leaving
  have u1 : (cxOf C8.CX0 P w K mg base ["shire", "lot"] "is_forest_of" (defScope (top 33)) (f 21) cdv A outer s H E).A.units + 1 < cLine := by have := hr.un; show (A.deeper _).units + 1 < _; omega
  have u64 : (cxOf C8.CX0 P w K mg base ["shire", "lot"] "is_forest_of" (defScope (top 33)) (f 21) cdv A outer s H E).A.units + 64 < cLine := by have := hr.un; show (A.deeper _).units + 64 < _; omega
  have u65 : (cxOf C8.CX0 P w K mg base ["shire", "lot"] "is_forest_of" (defScope (top 33)) (f 21) cdv A outer s H E).A.units + 65 < cLine := by have := hr.un; show (A.deeper _).units + 65 < _; omega
  have u66 : (cxOf C8.CX0 P w K mg base ["shire", "lot"] "is_forest_of" (defScope (top 33)) (f 21) cdv A outer s H E).A.units + 66 < cLine := by have := hr.un; show (A.deeper _).units + 66 < _; omega
  exact (st_cons (st_ret (em_cmp (opr_eq u64) (em_call L.L_18 hr hgd rfl T.m_18 T.F_18.kp (b_18 T) (es_cons (em_v (i := 0) rfl) (es_cons (em_v (i := 1) rfl) es_nil))) (em_bi crx_len rfl T.n_len PySem.boot_len (es_cons (em_v (i := 1) rfl) es_nil))))
  st_nil)
theorem body_22 (T : Tb K mg f fd) (L : Lv P w K mg base f fd n) (cdv : Value) (A : Around) (outer : List PySem.Env) (s : Shared) (H : Hp) (E : XK) (n0 : Nat) (hr : Room n (A.deeper (envOfC "ring_of" (defScope (top 34)) s.heap.objs.size (f 22) cdv))) (hgd : A.guards = some []) :
    Pss (cxOf C8.CX0 P w K mg base ["shire", "lot", "at", "road", "back", "one", "other"] "ring_of" (defScope (top 34)) (f 22) cdv A outer s H E) ⟨evF prog n, prog.glob, prog.fuel⟩ n0 (defBody (top 34)) d22.body := by
  have nd : (cxOf C8.CX0 P w K mg base ["shire", "lot", "at", "road", "back", "one", "other"] "ring_of" (defScope (top 34)) (f 22) cdv A outer s H E).N.Nodup := sc_22.nd
  have hp : PassesOwn (model P w) (cxOf C8.CX0 P w K mg base ["shire", "lot", "at", "road", "back", "one", "other"] "ring_of" (defScope (top 34)) (f 22) cdv A outer s H E).A (cxOf C8.CX0 P w K mg base ["shire", "lot", "at", "road", "back", "one", "other"] "ring_of" (defScope (top 34)) (f 22) cdv A outer s H E).env (cxOf C8.CX0 P w K mg base ["shire", "lot", "at", "road", "back", "one", "other"] "ring_of" (defScope (top 34)) (f 22) cdv A outer s H E).xe := PassesOwn.leaving
  have u1 : (cxOf C8.CX0 P w K mg base ["shire", "lot", "at", "road", "back", "one", "other"] "ring_of" (defScope (top 34)) (f 22) cdv A outer s H E).A.units + 1 < cLine := by have := hr.un; show (A.deeper _).units + 1 < _; omega
  have u64 : (cxOf C8.CX0 P w K mg base ["shire", "lot", "at", "road", "back", "one", "other"] "ring_of" (defScope (top 34)) (f 22) cdv A outer s H E).A.units + 64 < cLine := by have := hr.un; show (A.deeper _).units + 64 < _; omega
  have u65 : (cxOf C8.CX0 P w K mg base ["shire", "lot", "at", "road", "back", "one", "other"] "ring_of" (defScope (top 34)) (f 22) cdv A outer s H E).A.units + 65 < cLine := by have := hr.un; show (A.deeper _).units + 65 < _; omega
  have u66 : (cxOf C8.CX0 P w K mg base ["shire", "lot", "at", "road", "back", "one", "other"] "ring_of" (defScope (top 34)) (f 22) cdv A outer s H E).A.units + 66 < cLine := by have := hr.un; show (A.deeper _).units + 66 < _; omega
  exact (st_cons (st_for hp rfl (ei_enum rfl T.n_enumerate (es_cons (em_v (i := 1) rfl) es_nil)) (eg_tup rfl (egs_cons (eg_name (i := 2) nd rfl) (egs_cons (eg_name (i := 3) nd rfl) egs_nil)))
  (st_cons (st_asg (em_call L.L_13 hr hgd rfl T.m_13 T.F_13.kp (b_13 T) (es_cons (em_v (i := 0) rfl) (es_cons (em_v (i := 3) rfl) es_nil))) (eg_tup rfl (egs_cons (eg_name (i := 5) nd rfl) (egs_cons (eg_name (i := 6) nd rfl) egs_nil))))
  (st_cons (st_set (i := 4) nd rfl (em_dgt u1 (em_call L.L_20 hr hgd rfl T.m_20 T.F_20.kp (b_20 T) (es_cons (em_v (i := 0) rfl) (es_cons (em_sl (em_v (i := 1) rfl) eo_none (eo_some (em_v (i := 2) rfl))) (es_cons (em_v (i := 6) rfl) es_nil)))) (em_v (i := 5) rfl) em_non))
  (st_cons (st_if (tt_cmp opr_isNot (em_v (i := 4) rfl) em_non)
  (st_cons (st_ret (em_op opr_add (em_lst (es_cons (em_tup (es_cons (em_v (i := 3) rfl) (es_cons (em_v (i := 6) rfl) es_nil))) es_nil)) (em_v (i := 4) rfl)))
  st_nil)
  st_nil)
  st_nil))))
  (st_cons (st_ret em_non)
  st_nil))
theorem body_23 (T : Tb K mg f fd) (L : Lv P w K mg base f fd n) (cdv : Value) (A : Around) (outer : List PySem.Env) (s : Shared) (H : Hp) (E : XK) (n0 : Nat) (hr : Room n (A.deeper (envOfC "grown" (defScope (top 35)) s.heap.objs.size (f 23) cdv))) (hgd : A.guards = some []) :
    Pss (cxOf C8.CX0 P w K mg base ["shire", "roads", "found", "road"] "grown" (defScope (top 35)) (f 23) cdv A outer s H E) ⟨evF prog n, prog.glob, prog.fuel⟩ n0 (defBody (top 35)) d23.body := by
  have nd : (cxOf C8.CX0 P w K mg base ["shire", "roads", "found", "road"] "grown" (defScope (top 35)) (f 23) cdv A outer s H E).N.Nodup := sc_23.nd
  have hp : PassesOwn (model P w) (cxOf C8.CX0 P w K mg base ["shire", "roads", "found", "road"] "grown" (defScope (top 35)) (f 23) cdv A outer s H E).A (cxOf C8.CX0 P w K mg base ["shire", "roads", "found", "road"] "grown" (defScope (top 35)) (f 23) cdv A outer s H E).env (cxOf C8.CX0 P w K mg base ["shire", "roads", "found", "road"] "grown" (defScope (top 35)) (f 23) cdv A outer s H E).xe := PassesOwn.leaving
  have u1 : (cxOf C8.CX0 P w K mg base ["shire", "roads", "found", "road"] "grown" (defScope (top 35)) (f 23) cdv A outer s H E).A.units + 1 < cLine := by have := hr.un; show (A.deeper _).units + 1 < _; omega
  have u64 : (cxOf C8.CX0 P w K mg base ["shire", "roads", "found", "road"] "grown" (defScope (top 35)) (f 23) cdv A outer s H E).A.units + 64 < cLine := by have := hr.un; show (A.deeper _).units + 64 < _; omega
  have u65 : (cxOf C8.CX0 P w K mg base ["shire", "roads", "found", "road"] "grown" (defScope (top 35)) (f 23) cdv A outer s H E).A.units + 65 < cLine := by have := hr.un; show (A.deeper _).units + 65 < _; omega
  have u66 : (cxOf C8.CX0 P w K mg base ["shire", "roads", "found", "road"] "grown" (defScope (top 35)) (f 23) cdv A outer s H E).A.units + 66 < cLine := by have := hr.un; show (A.deeper _).units + 66 < _; omega
  exact (st_cons (st_set (i := 2) nd rfl (em_tup es_nil))
  (st_cons (st_for hp rfl (ei_seq (em_v (i := 1) rfl)) (eg_name (i := 3) nd rfl)
  (st_cons (st_if (tt_cmp opr_gt (em_call L.L_18 hr hgd rfl T.m_18 T.F_18.kp (b_18 T) (es_cons (em_v (i := 0) rfl) (es_cons (em_op opr_add (em_v (i := 2) rfl) (em_tup (es_cons (em_v (i := 3) rfl) es_nil))) es_nil))) (em_bi crx_len rfl T.n_len PySem.boot_len (es_cons (em_v (i := 2) rfl) es_nil)))
  (st_cons (st_set (i := 2) nd rfl (em_op opr_add (em_v (i := 2) rfl) (em_tup (es_cons (em_v (i := 3) rfl) es_nil))))
  st_nil)
  st_nil)
  st_nil))
  (st_cons (st_ret (em_ty crx_tuple rfl T.n_tuple PyProof.Rows.boot_tuple (es_cons (em_bi (crx_sorted u66) rfl T.n_sorted PyProof.Rows.boot_sorted (es_cons (em_v (i := 2) rfl) es_nil)) es_nil)))
  st_nil)))
theorem body_24 (T : Tb K mg f fd) (L : Lv P w K mg base f fd n) (cdv : Value) (A : Around) (outer : List PySem.Env) (s : Shared) (H : Hp) (E : XK) (n0 : Nat) (hr : Room n (A.deeper (envOfC "walk" (defScope (top 36)) s.heap.objs.size (f 24) cdv))) (hgd : A.guards = some []) :
    Pss (cxOf C8.CX0 P w K mg base ["shire", "lot", "village", "other"] "walk" (defScope (top 36)) (f 24) cdv A outer s H E) ⟨evF prog n, prog.glob, prog.fuel⟩ n0 (defBody (top 36)) d24.body := by
  have nd : (cxOf C8.CX0 P w K mg base ["shire", "lot", "village", "other"] "walk" (defScope (top 36)) (f 24) cdv A outer s H E).N.Nodup := sc_24.nd
  have hp : PassesOwn (model P w) (cxOf C8.CX0 P w K mg base ["shire", "lot", "village", "other"] "walk" (defScope (top 36)) (f 24) cdv A outer s H E).A (cxOf C8.CX0 P w K mg base ["shire", "lot", "village", "other"] "walk" (defScope (top 36)) (f 24) cdv A outer s H E).env (cxOf C8.CX0 P w K mg base ["shire", "lot", "village", "other"] "walk" (defScope (top 36)) (f 24) cdv A outer s H E).xe := PassesOwn.leaving
  have u1 : (cxOf C8.CX0 P w K mg base ["shire", "lot", "village", "other"] "walk" (defScope (top 36)) (f 24) cdv A outer s H E).A.units + 1 < cLine := by have := hr.un; show (A.deeper _).units + 1 < _; omega
  have u64 : (cxOf C8.CX0 P w K mg base ["shire", "lot", "village", "other"] "walk" (defScope (top 36)) (f 24) cdv A outer s H E).A.units + 64 < cLine := by have := hr.un; show (A.deeper _).units + 64 < _; omega
  have u65 : (cxOf C8.CX0 P w K mg base ["shire", "lot", "village", "other"] "walk" (defScope (top 36)) (f 24) cdv A outer s H E).A.units + 65 < cLine := by have := hr.un; show (A.deeper _).units + 65 < _; omega
  have u66 : (cxOf C8.CX0 P w K mg base ["shire", "lot", "village", "other"] "walk" (defScope (top 36)) (f 24) cdv A outer s H E).A.units + 66 < cLine := by have := hr.un; show (A.deeper _).units + 66 < _; omega
  exact (st_cons (st_expr (em_call L.L_7 hr hgd rfl T.m_7 T.F_7.kp (b_7 T) (es_cons (em_v (i := 0) rfl) es_nil)))
  (st_cons (st_expr (em_call L.L_10 hr hgd rfl T.m_10 T.F_10.kp (b_10 T) (es_cons (em_v (i := 0) rfl) (es_cons (em_v (i := 1) rfl) es_nil))))
  (st_cons (st_expr (em_call L.L_9 hr hgd rfl T.m_9 T.F_9.kp (b_9 T) (es_cons (em_v (i := 0) rfl) (es_cons (em_v (i := 2) rfl) es_nil))))
  (st_cons (st_expr (em_call L.L_9 hr hgd rfl T.m_9 T.F_9.kp (b_9 T) (es_cons (em_v (i := 0) rfl) (es_cons (em_v (i := 3) rfl) es_nil))))
  (st_cons (st_ret (em_dgt u1 (em_call L.L_20 hr hgd rfl T.m_20 T.F_20.kp (b_20 T) (es_cons (em_v (i := 0) rfl) (es_cons (em_v (i := 1) rfl) (es_cons (em_v (i := 2) rfl) es_nil)))) (em_v (i := 3) rfl) em_non))
  st_nil)))))
theorem body_25 (T : Tb K mg f fd) (L : Lv P w K mg base f fd n) (cdv : Value) (A : Around) (outer : List PySem.Env) (s : Shared) (H : Hp) (E : XK) (n0 : Nat) (hr : Room n (A.deeper (envOfC "ring" (defScope (top 37)) s.heap.objs.size (f 25) cdv))) (hgd : A.guards = some []) :
    Pss (cxOf C8.CX0 P w K mg base ["shire", "lot"] "ring" (defScope (top 37)) (f 25) cdv A outer s H E) ⟨evF prog n, prog.glob, prog.fuel⟩ n0 (defBody (top 37)) d25.body := by
  have nd : (cxOf C8.CX0 P w K mg base ["shire", "lot"] "ring" (defScope (top 37)) (f 25) cdv A outer s H E).N.Nodup := sc_25.nd
  have hp : PassesOwn (model P w) (cxOf C8.CX0 P w K mg base ["shire", "lot"] "ring" (defScope (top 37)) (f 25) cdv A outer s H E).A (cxOf C8.CX0 P w K mg base ["shire", "lot"] "ring" (defScope (top 37)) (f 25) cdv A outer s H E).env (cxOf C8.CX0 P w K mg base ["shire", "lot"] "ring" (defScope (top 37)) (f 25) cdv A outer s H E).xe := PassesOwn.leaving
  have u1 : (cxOf C8.CX0 P w K mg base ["shire", "lot"] "ring" (defScope (top 37)) (f 25) cdv A outer s H E).A.units + 1 < cLine := by have := hr.un; show (A.deeper _).units + 1 < _; omega
  have u64 : (cxOf C8.CX0 P w K mg base ["shire", "lot"] "ring" (defScope (top 37)) (f 25) cdv A outer s H E).A.units + 64 < cLine := by have := hr.un; show (A.deeper _).units + 64 < _; omega
  have u65 : (cxOf C8.CX0 P w K mg base ["shire", "lot"] "ring" (defScope (top 37)) (f 25) cdv A outer s H E).A.units + 65 < cLine := by have := hr.un; show (A.deeper _).units + 65 < _; omega
  have u66 : (cxOf C8.CX0 P w K mg base ["shire", "lot"] "ring" (defScope (top 37)) (f 25) cdv A outer s H E).A.units + 66 < cLine := by have := hr.un; show (A.deeper _).units + 66 < _; omega
  exact (st_cons (st_expr (em_call L.L_7 hr hgd rfl T.m_7 T.F_7.kp (b_7 T) (es_cons (em_v (i := 0) rfl) es_nil)))
  (st_cons (st_expr (em_call L.L_10 hr hgd rfl T.m_10 T.F_10.kp (b_10 T) (es_cons (em_v (i := 0) rfl) (es_cons (em_v (i := 1) rfl) es_nil))))
  (st_cons (st_ret (em_call L.L_22 hr hgd rfl T.m_22 T.F_22.kp (b_22 T) (es_cons (em_v (i := 0) rfl) (es_cons (em_v (i := 1) rfl) es_nil))))
  st_nil)))
theorem body_26 (T : Tb K mg f fd) (L : Lv P w K mg base f fd n) (cdv : Value) (A : Around) (outer : List PySem.Env) (s : Shared) (H : Hp) (E : XK) (n0 : Nat) (hr : Room n (A.deeper (envOfC "is_forest" (defScope (top 38)) s.heap.objs.size (f 26) cdv))) (hgd : A.guards = some []) :
    Pss (cxOf C8.CX0 P w K mg base ["shire", "value"] "is_forest" (defScope (top 38)) (f 26) cdv A outer s H E) ⟨evF prog n, prog.glob, prog.fuel⟩ n0 (defBody (top 38)) d26.body := by
  have nd : (cxOf C8.CX0 P w K mg base ["shire", "value"] "is_forest" (defScope (top 38)) (f 26) cdv A outer s H E).N.Nodup := sc_26.nd
  have hp : PassesOwn (model P w) (cxOf C8.CX0 P w K mg base ["shire", "value"] "is_forest" (defScope (top 38)) (f 26) cdv A outer s H E).A (cxOf C8.CX0 P w K mg base ["shire", "value"] "is_forest" (defScope (top 38)) (f 26) cdv A outer s H E).env (cxOf C8.CX0 P w K mg base ["shire", "value"] "is_forest" (defScope (top 38)) (f 26) cdv A outer s H E).xe := PassesOwn.leaving
  have u1 : (cxOf C8.CX0 P w K mg base ["shire", "value"] "is_forest" (defScope (top 38)) (f 26) cdv A outer s H E).A.units + 1 < cLine := by have := hr.un; show (A.deeper _).units + 1 < _; omega
  have u64 : (cxOf C8.CX0 P w K mg base ["shire", "value"] "is_forest" (defScope (top 38)) (f 26) cdv A outer s H E).A.units + 64 < cLine := by have := hr.un; show (A.deeper _).units + 64 < _; omega
  have u65 : (cxOf C8.CX0 P w K mg base ["shire", "value"] "is_forest" (defScope (top 38)) (f 26) cdv A outer s H E).A.units + 65 < cLine := by have := hr.un; show (A.deeper _).units + 65 < _; omega
  have u66 : (cxOf C8.CX0 P w K mg base ["shire", "value"] "is_forest" (defScope (top 38)) (f 26) cdv A outer s H E).A.units + 66 < cLine := by have := hr.un; show (A.deeper _).units + 66 < _; omega
  exact (st_cons (st_expr (em_call L.L_7 hr hgd rfl T.m_7 T.F_7.kp (b_7 T) (es_cons (em_v (i := 0) rfl) es_nil)))
  (st_cons (st_ret (em_and (em_call L.L_4 hr hgd rfl T.m_4 T.F_4.kp (b_4 T) (es_cons (em_v (i := 1) rfl) (es_cons (em_bi crx_len rfl T.n_len PySem.boot_len (es_cons (em_ix (em_v (i := 0) rfl) em_int) es_nil)) es_nil))) (em_one (em_call L.L_21 hr hgd rfl T.m_21 T.F_21.kp (b_21 T) (es_cons (em_v (i := 0) rfl) (es_cons (em_v (i := 1) rfl) es_nil))))))
  st_nil))
theorem body_27 (T : Tb K mg f fd) (L : Lv P w K mg base f fd n) (cdv : Value) (A : Around) (outer : List PySem.Env) (s : Shared) (H : Hp) (E : XK) (n0 : Nat) (hr : Room n (A.deeper (envOfC "first_forest" (defScope (top 39)) s.heap.objs.size (f 27) cdv))) (hgd : A.guards = some []) :
    Pss (cxOf C8.CX0 P w K mg base ["shire"] "first_forest" (defScope (top 39)) (f 27) cdv A outer s H E) ⟨evF prog n, prog.glob, prog.fuel⟩ n0 (defBody (top 39)) d27.body := by
  have nd : (cxOf C8.CX0 P w K mg base ["shire"] "first_forest" (defScope (top 39)) (f 27) cdv A outer s H E).N.Nodup := sc_27.nd
  have hp : PassesOwn (model P w) (cxOf C8.CX0 P w K mg base ["shire"] "first_forest" (defScope (top 39)) (f 27) cdv A outer s H E).A (cxOf C8.CX0 P w K mg base ["shire"] "first_forest" (defScope (top 39)) (f 27) cdv A outer s H E).env (cxOf C8.CX0 P w K mg base ["shire"] "first_forest" (defScope (top 39)) (f 27) cdv A outer s H E).xe := PassesOwn.leaving
  have u1 : (cxOf C8.CX0 P w K mg base ["shire"] "first_forest" (defScope (top 39)) (f 27) cdv A outer s H E).A.units + 1 < cLine := by have := hr.un; show (A.deeper _).units + 1 < _; omega
  have u64 : (cxOf C8.CX0 P w K mg base ["shire"] "first_forest" (defScope (top 39)) (f 27) cdv A outer s H E).A.units + 64 < cLine := by have := hr.un; show (A.deeper _).units + 64 < _; omega
  have u65 : (cxOf C8.CX0 P w K mg base ["shire"] "first_forest" (defScope (top 39)) (f 27) cdv A outer s H E).A.units + 65 < cLine := by have := hr.un; show (A.deeper _).units + 65 < _; omega
  have u66 : (cxOf C8.CX0 P w K mg base ["shire"] "first_forest" (defScope (top 39)) (f 27) cdv A outer s H E).A.units + 66 < cLine := by have := hr.un; show (A.deeper _).units + 66 < _; omega
  exact (st_cons (st_expr (em_call L.L_7 hr hgd rfl T.m_7 T.F_7.kp (b_7 T) (es_cons (em_v (i := 0) rfl) es_nil)))
  (st_cons (st_ret (em_call L.L_23 hr hgd rfl T.m_23 T.F_23.kp (b_23 T) (es_cons (em_v (i := 0) rfl) (es_cons (em_call L.L_11 hr hgd rfl T.m_11 T.F_11.kp (b_11 T) (es_cons (em_v (i := 0) rfl) es_nil)) es_nil))))
  st_nil))
theorem body_28 (T : Tb K mg f fd) (L : Lv P w K mg base f fd n) (cdv : Value) (A : Around) (outer : List PySem.Env) (s : Shared) (H : Hp) (E : XK) (n0 : Nat) (hr : Room n (A.deeper (envOfC "with_roads" (defScope (top 41)) s.heap.objs.size (f 28) cdv))) (hgd : A.guards = some []) :
    Pss (cxOf C8.CX0 P w K mg base ["shire", "roads"] "with_roads" (defScope (top 41)) (f 28) cdv A outer s H E) ⟨evF prog n, prog.glob, prog.fuel⟩ n0 (defBody (top 41)) d28.body := by
  have nd : (cxOf C8.CX0 P w K mg base ["shire", "roads"] "with_roads" (defScope (top 41)) (f 28) cdv A outer s H E).N.Nodup := sc_28.nd
  have hp : PassesOwn (model P w) (cxOf C8.CX0 P w K mg base ["shire", "roads"] "with_roads" (defScope (top 41)) (f 28) cdv A outer s H E).A (cxOf C8.CX0 P w K mg base ["shire", "roads"] "with_roads" (defScope (top 41)) (f 28) cdv A outer s H E).env (cxOf C8.CX0 P w K mg base ["shire", "roads"] "with_roads" (defScope (top 41)) (f 28) cdv A outer s H E).xe := PassesOwn.leaving
  have u1 : (cxOf C8.CX0 P w K mg base ["shire", "roads"] "with_roads" (defScope (top 41)) (f 28) cdv A outer s H E).A.units + 1 < cLine := by have := hr.un; show (A.deeper _).units + 1 < _; omega
  have u64 : (cxOf C8.CX0 P w K mg base ["shire", "roads"] "with_roads" (defScope (top 41)) (f 28) cdv A outer s H E).A.units + 64 < cLine := by have := hr.un; show (A.deeper _).units + 64 < _; omega
  have u65 : (cxOf C8.CX0 P w K mg base ["shire", "roads"] "with_roads" (defScope (top 41)) (f 28) cdv A outer s H E).A.units + 65 < cLine := by have := hr.un; show (A.deeper _).units + 65 < _; omega
  have u66 : (cxOf C8.CX0 P w K mg base ["shire", "roads"] "with_roads" (defScope (top 41)) (f 28) cdv A outer s H E).A.units + 66 < cLine := by have := hr.un; show (A.deeper _).units + 66 < _; omega
  exact (st_cons (st_ret (em_op opr_add (em_sl (em_v (i := 0) rfl) eo_none (eo_some em_int)) (em_tup (es_cons (em_ty crx_tuple rfl T.n_tuple PyProof.Rows.boot_tuple (es_cons (em_v (i := 1) rfl) es_nil)) es_nil))))
  st_nil)
theorem body_29 (T : Tb K mg f fd) (L : Lv P w K mg base f fd n) (cdv : Value) (A : Around) (outer : List PySem.Env) (s : Shared) (H : Hp) (E : XK) (n0 : Nat) (hr : Room n (A.deeper (envOfC "left_out" (defScope (top 42)) s.heap.objs.size (f 29) cdv))) (hgd : A.guards = some []) :
    Pss (cxOf C8.CX0 P w K mg base ["shire", "lot", "road"] "left_out" (defScope (top 42)) (f 29) cdv A outer s H E) ⟨evF prog n, prog.glob, prog.fuel⟩ n0 (defBody (top 42)) d29.body := by
  have nd : (cxOf C8.CX0 P w K mg base ["shire", "lot", "road"] "left_out" (defScope (top 42)) (f 29) cdv A outer s H E).N.Nodup := sc_29.nd
  have hp : PassesOwn (model P w) (cxOf C8.CX0 P w K mg base ["shire", "lot", "road"] "left_out" (defScope (top 42)) (f 29) cdv A outer s H E).A (cxOf C8.CX0 P w K mg base ["shire", "lot", "road"] "left_out" (defScope (top 42)) (f 29) cdv A outer s H E).env (cxOf C8.CX0 P w K mg base ["shire", "lot", "road"] "left_out" (defScope (top 42)) (f 29) cdv A outer s H E).xe := PassesOwn.leaving
  have u1 : (cxOf C8.CX0 P w K mg base ["shire", "lot", "road"] "left_out" (defScope (top 42)) (f 29) cdv A outer s H E).A.units + 1 < cLine := by have := hr.un; show (A.deeper _).units + 1 < _; omega
  have u64 : (cxOf C8.CX0 P w K mg base ["shire", "lot", "road"] "left_out" (defScope (top 42)) (f 29) cdv A outer s H E).A.units + 64 < cLine := by have := hr.un; show (A.deeper _).units + 64 < _; omega
  have u65 : (cxOf C8.CX0 P w K mg base ["shire", "lot", "road"] "left_out" (defScope (top 42)) (f 29) cdv A outer s H E).A.units + 65 < cLine := by have := hr.un; show (A.deeper _).units + 65 < _; omega
  have u66 : (cxOf C8.CX0 P w K mg base ["shire", "lot", "road"] "left_out" (defScope (top 42)) (f 29) cdv A outer s H E).A.units + 66 < cLine := by have := hr.un; show (A.deeper _).units + 66 < _; omega
  exact (st_cons (st_ret (em_call L.L_28 hr hgd rfl T.m_28 T.F_28.kp (b_28 T) (es_cons (em_v (i := 0) rfl) (es_cons (em_lc (own := [("road", 2)]) rfl nd (blkOk_by (N := ["shire", "lot", "road"]) (sc := defScope (top 42)) (by decide +kernel)) (ei_seq (em_call L.L_11 hr hgd rfl T.m_11 T.F_11.kp (b_11 T) (es_cons (em_v (i := 0) rfl) es_nil))) (fun _ _ _ _ _ => (eg_name (i := 2) nd rfl)) (fun _ _ _ _ _ => (ec_one (tt_cmp (opr_notIn u65) (em_v (i := 2) rfl) (em_v (i := 1) rfl)))) (fun _ _ _ _ _ => (em_ix (em_ix (em_v (i := 0) rfl) em_int) (em_v (i := 2) rfl)))) es_nil))))
  st_nil)
theorem body_30 (T : Tb K mg f fd) (L : Lv P w K mg base f fd n) (cdv : Value) (A : Around) (outer : List PySem.Env) (s : Shared) (H : Hp) (E : XK) (n0 : Nat) (hr : Room n (A.deeper (envOfC "without" (defScope (top 43)) s.heap.objs.size (f 30) cdv))) (hgd : A.guards = some []) :
    Pss (cxOf C8.CX0 P w K mg base ["shire", "lot"] "without" (defScope (top 43)) (f 30) cdv A outer s H E) ⟨evF prog n, prog.glob, prog.fuel⟩ n0 (defBody (top 43)) d30.body := by
  have nd : (cxOf C8.CX0 P w K mg base ["shire", "lot"] "without" (defScope (top 43)) (f 30) cdv A outer s H E).N.Nodup := sc_30.nd
  have hp : PassesOwn (model P w) (cxOf C8.CX0 P w K mg base ["shire", "lot"] "without" (defScope (top 43)) (f 30) cdv A outer s H E).A (cxOf C8.CX0 P w K mg base ["shire", "lot"] "without" (defScope (top 43)) (f 30) cdv A outer s H E).env (cxOf C8.CX0 P w K mg base ["shire", "lot"] "without" (defScope (top 43)) (f 30) cdv A outer s H E).xe := PassesOwn.leaving
  have u1 : (cxOf C8.CX0 P w K mg base ["shire", "lot"] "without" (defScope (top 43)) (f 30) cdv A outer s H E).A.units + 1 < cLine := by have := hr.un; show (A.deeper _).units + 1 < _; omega
  have u64 : (cxOf C8.CX0 P w K mg base ["shire", "lot"] "without" (defScope (top 43)) (f 30) cdv A outer s H E).A.units + 64 < cLine := by have := hr.un; show (A.deeper _).units + 64 < _; omega
  have u65 : (cxOf C8.CX0 P w K mg base ["shire", "lot"] "without" (defScope (top 43)) (f 30) cdv A outer s H E).A.units + 65 < cLine := by have := hr.un; show (A.deeper _).units + 65 < _; omega
  have u66 : (cxOf C8.CX0 P w K mg base ["shire", "lot"] "without" (defScope (top 43)) (f 30) cdv A outer s H E).A.units + 66 < cLine := by have := hr.un; show (A.deeper _).units + 66 < _; omega
  exact (st_cons (st_expr (em_call L.L_7 hr hgd rfl T.m_7 T.F_7.kp (b_7 T) (es_cons (em_v (i := 0) rfl) es_nil)))
  (st_cons (st_expr (em_call L.L_10 hr hgd rfl T.m_10 T.F_10.kp (b_10 T) (es_cons (em_v (i := 0) rfl) (es_cons (em_v (i := 1) rfl) es_nil))))
  (st_cons (st_ret (em_call L.L_29 hr hgd rfl T.m_29 T.F_29.kp (b_29 T) (es_cons (em_v (i := 0) rfl) (es_cons (em_v (i := 1) rfl) es_nil))))
  st_nil)))
theorem body_31 (T : Tb K mg f fd) (L : Lv P w K mg base f fd n) (cdv : Value) (A : Around) (outer : List PySem.Env) (s : Shared) (H : Hp) (E : XK) (n0 : Nat) (hr : Room n (A.deeper (envOfC "_law_pot" (defScope (top 45)) s.heap.objs.size (f 31) cdv))) (hgd : A.guards = some []) :
    Pss (cxOf C8.CX0 P w K mg base ["script", "k", "cell"] "_law_pot" (defScope (top 45)) (f 31) cdv A outer s H E) ⟨evF prog n, prog.glob, prog.fuel⟩ n0 (defBody (top 45)) d31.body := by
  have nd : (cxOf C8.CX0 P w K mg base ["script", "k", "cell"] "_law_pot" (defScope (top 45)) (f 31) cdv A outer s H E).N.Nodup := sc_31.nd
  have hp : PassesOwn (model P w) (cxOf C8.CX0 P w K mg base ["script", "k", "cell"] "_law_pot" (defScope (top 45)) (f 31) cdv A outer s H E).A (cxOf C8.CX0 P w K mg base ["script", "k", "cell"] "_law_pot" (defScope (top 45)) (f 31) cdv A outer s H E).env (cxOf C8.CX0 P w K mg base ["script", "k", "cell"] "_law_pot" (defScope (top 45)) (f 31) cdv A outer s H E).xe := PassesOwn.leaving
  have u1 : (cxOf C8.CX0 P w K mg base ["script", "k", "cell"] "_law_pot" (defScope (top 45)) (f 31) cdv A outer s H E).A.units + 1 < cLine := by have := hr.un; show (A.deeper _).units + 1 < _; omega
  have u64 : (cxOf C8.CX0 P w K mg base ["script", "k", "cell"] "_law_pot" (defScope (top 45)) (f 31) cdv A outer s H E).A.units + 64 < cLine := by have := hr.un; show (A.deeper _).units + 64 < _; omega
  have u65 : (cxOf C8.CX0 P w K mg base ["script", "k", "cell"] "_law_pot" (defScope (top 45)) (f 31) cdv A outer s H E).A.units + 65 < cLine := by have := hr.un; show (A.deeper _).units + 65 < _; omega
  have u66 : (cxOf C8.CX0 P w K mg base ["script", "k", "cell"] "_law_pot" (defScope (top 45)) (f 31) cdv A outer s H E).A.units + 66 < cLine := by have := hr.un; show (A.deeper _).units + 66 < _; omega
  exact (st_cons (st_set (i := 2) nd rfl (em_ite (tt_cmp (opr_lt u64) (em_v (i := 1) rfl) (em_bi crx_len rfl T.n_len PySem.boot_len (es_cons (em_v (i := 0) rfl) es_nil))) (em_bi crx_abs rfl T.n_abs PyProof.Rows.boot_abs (es_cons (em_ix (em_v (i := 0) rfl) (em_v (i := 1) rfl)) es_nil)) (em_op opr_add (em_op opr_mul em_int (em_v (i := 1) rfl)) em_int)))
  (st_cons (st_ret (em_lst (es_cons (em_bi (crx_max rfl) rfl T.n_max PyProof.Rows.boot_max (es_cons em_int (es_cons (em_op opr_sub (em_v (i := 2) rfl) (em_pow (i := 10) (j := 18))) es_nil))) (es_cons (em_op opr_add (em_op opr_mod (em_ty crx_int rfl T.n_int PyProof.Rows.boot_int (es_cons (em_op opr_add (em_op opr_add (em_op opr_mul (em_op opr_mod (em_ty crx_int rfl T.n_int PyProof.Rows.boot_int (es_cons (em_v (i := 2) rfl) es_nil)) em_int) em_int) (em_op opr_mul em_int (em_v (i := 1) rfl))) em_int) es_nil)) em_int) em_int) es_nil))))
  st_nil))
theorem body_32 (T : Tb K mg f fd) (L : Lv P w K mg base f fd n) (cdv : Value) (A : Around) (outer : List PySem.Env) (s : Shared) (H : Hp) (E : XK) (n0 : Nat) (hr : Room n (A.deeper (envOfC "_law_draw" (defScope (top 46)) s.heap.objs.size (f 32) cdv))) (hgd : A.guards = some []) :
    Pss (cxOf C8.CX0 P w K mg base ["pot", "many", "digit"] "_law_draw" (defScope (top 46)) (f 32) cdv A outer s H E) ⟨evF prog n, prog.glob, prog.fuel⟩ n0 (defBody (top 46)) d32.body := by
  have nd : (cxOf C8.CX0 P w K mg base ["pot", "many", "digit"] "_law_draw" (defScope (top 46)) (f 32) cdv A outer s H E).N.Nodup := sc_32.nd
  have hp : PassesOwn (model P w) (cxOf C8.CX0 P w K mg base ["pot", "many", "digit"] "_law_draw" (defScope (top 46)) (f 32) cdv A outer s H E).A (cxOf C8.CX0 P w K mg base ["pot", "many", "digit"] "_law_draw" (defScope (top 46)) (f 32) cdv A outer s H E).env (cxOf C8.CX0 P w K mg base ["pot", "many", "digit"] "_law_draw" (defScope (top 46)) (f 32) cdv A outer s H E).xe := PassesOwn.leaving
  have u1 : (cxOf C8.CX0 P w K mg base ["pot", "many", "digit"] "_law_draw" (defScope (top 46)) (f 32) cdv A outer s H E).A.units + 1 < cLine := by have := hr.un; show (A.deeper _).units + 1 < _; omega
  have u64 : (cxOf C8.CX0 P w K mg base ["pot", "many", "digit"] "_law_draw" (defScope (top 46)) (f 32) cdv A outer s H E).A.units + 64 < cLine := by have := hr.un; show (A.deeper _).units + 64 < _; omega
  have u65 : (cxOf C8.CX0 P w K mg base ["pot", "many", "digit"] "_law_draw" (defScope (top 46)) (f 32) cdv A outer s H E).A.units + 65 < cLine := by have := hr.un; show (A.deeper _).units + 65 < _; omega
  have u66 : (cxOf C8.CX0 P w K mg base ["pot", "many", "digit"] "_law_draw" (defScope (top 46)) (f 32) cdv A outer s H E).A.units + 66 < cLine := by have := hr.un; show (A.deeper _).units + 66 < _; omega
  exact (st_cons (st_if (tt_cmp opr_gt (em_ix (em_v (i := 0) rfl) em_int) em_int)
  (st_cons (st_asgt rfl (em_bi crx_divmod rfl T.n_divmod PyProof.Rows.boot_divmod (es_cons (em_ix (em_v (i := 0) rfl) em_int) (es_cons (em_v (i := 1) rfl) es_nil))) (ex_sub (em_v (i := 0) rfl) em_int (ex_slot (i := 2) nd rfl ex_nil)))
  (st_cons (st_ret (em_v (i := 2) rfl))
  st_nil))
  st_nil)
  (st_cons (st_asgx (em_v (i := 0) rfl) em_int (em_op opr_mod (em_ty crx_int rfl T.n_int PyProof.Rows.boot_int (es_cons (em_op opr_add (em_op opr_mul (em_ix (em_v (i := 0) rfl) em_int) em_int) em_int) es_nil)) em_int))
  (st_cons (st_ret (em_op opr_mod (em_ty crx_int rfl T.n_int PyProof.Rows.boot_int (es_cons (em_op opr_fdiv (em_op opr_mod (em_ty crx_int rfl T.n_int PyProof.Rows.boot_int (es_cons (em_op opr_mul (em_ix (em_v (i := 0) rfl) em_int) (em_ix (em_v (i := 0) rfl) em_int)) es_nil)) em_int) em_int) es_nil)) (em_v (i := 1) rfl)))
  st_nil)))
theorem body_33 (T : Tb K mg f fd) (L : Lv P w K mg base f fd n) (cdv : Value) (A : Around) (outer : List PySem.Env) (s : Shared) (H : Hp) (E : XK) (n0 : Nat) (hr : Room n (A.deeper (envOfC "_law_shire" (defScope (top 47)) s.heap.objs.size (f 33) cdv))) (hgd : A.guards = some []) :
    Pss (cxOf C8.CX0 P w K mg base ["pot", "villages", "roads", "turn", "many", "found", "one", "other"] "_law_shire" (defScope (top 47)) (f 33) cdv A outer s H E) ⟨evF prog n, prog.glob, prog.fuel⟩ n0 (defBody (top 47)) d33.body := by
  have nd : (cxOf C8.CX0 P w K mg base ["pot", "villages", "roads", "turn", "many", "found", "one", "other"] "_law_shire" (defScope (top 47)) (f 33) cdv A outer s H E).N.Nodup := sc_33.nd
  have hp : PassesOwn (model P w) (cxOf C8.CX0 P w K mg base ["pot", "villages", "roads", "turn", "many", "found", "one", "other"] "_law_shire" (defScope (top 47)) (f 33) cdv A outer s H E).A (cxOf C8.CX0 P w K mg base ["pot", "villages", "roads", "turn", "many", "found", "one", "other"] "_law_shire" (defScope (top 47)) (f 33) cdv A outer s H E).env (cxOf C8.CX0 P w K mg base ["pot", "villages", "roads", "turn", "many", "found", "one", "other"] "_law_shire" (defScope (top 47)) (f 33) cdv A outer s H E).xe := PassesOwn.leaving
  have u1 : (cxOf C8.CX0 P w K mg base ["pot", "villages", "roads", "turn", "many", "found", "one", "other"] "_law_shire" (defScope (top 47)) (f 33) cdv A outer s H E).A.units + 1 < cLine := by have := hr.un; show (A.deeper _).units + 1 < _; omega
  have u64 : (cxOf C8.CX0 P w K mg base ["pot", "villages", "roads", "turn", "many", "found", "one", "other"] "_law_shire" (defScope (top 47)) (f 33) cdv A outer s H E).A.units + 64 < cLine := by have := hr.un; show (A.deeper _).units + 64 < _; omega
  have u65 : (cxOf C8.CX0 P w K mg base ["pot", "villages", "roads", "turn", "many", "found", "one", "other"] "_law_shire" (defScope (top 47)) (f 33) cdv A outer s H E).A.units + 65 < cLine := by have := hr.un; show (A.deeper _).units + 65 < _; omega
  have u66 : (cxOf C8.CX0 P w K mg base ["pot", "villages", "roads", "turn", "many", "found", "one", "other"] "_law_shire" (defScope (top 47)) (f 33) cdv A outer s H E).A.units + 66 < cLine := by have := hr.un; show (A.deeper _).units + 66 < _; omega
  exact (st_cons (st_par (i := 4) (j := 5) rfl nd rfl rfl (es_cons (em_op opr_add em_int (em_call L.L_32 hr hgd rfl T.m_32 T.F_32.kp (b_32 T) (es_cons (em_v (i := 0) rfl) (es_cons (em_v (i := 1) rfl) es_nil)))) (es_cons (em_lst es_nil) es_nil)))
  (st_cons (st_for hp rfl (ei_range1 rfl T.n_range (es_cons (em_ite (tt_cmp opr_gt (em_v (i := 4) rfl) em_int) (em_call L.L_32 hr hgd rfl T.m_32 T.F_32.kp (b_32 T) (es_cons (em_v (i := 0) rfl) (es_cons (em_op opr_add (em_v (i := 2) rfl) em_int) es_nil))) em_int) es_nil)) (eg_name (i := 3) nd rfl)
  (st_cons (st_set (i := 6) nd rfl (em_call L.L_32 hr hgd rfl T.m_32 T.F_32.kp (b_32 T) (es_cons (em_v (i := 0) rfl) (es_cons (em_v (i := 4) rfl) es_nil))))
  (st_cons (st_set (i := 7) nd rfl (em_ty crx_int rfl T.n_int PyProof.Rows.boot_int (es_cons (em_op opr_mod (em_op opr_add (em_op opr_add (em_v (i := 6) rfl) em_int) (em_call L.L_32 hr hgd rfl T.m_32 T.F_32.kp (b_32 T) (es_cons (em_v (i := 0) rfl) (es_cons (em_op opr_sub (em_v (i := 4) rfl) em_int) es_nil)))) (em_v (i := 4) rfl)) es_nil)))
  (st_cons (st_expr (em_mt PySem.F.slot_list_append PySem.F.type_list_append mtr_append (em_v (i := 5) rfl) (es_cons (em_tup (es_cons (em_bi (crx_min rfl) rfl T.n_min PyProof.Rows.boot_min (es_cons (em_v (i := 6) rfl) (es_cons (em_v (i := 7) rfl) es_nil))) (es_cons (em_bi (crx_max rfl) rfl T.n_max PyProof.Rows.boot_max (es_cons (em_v (i := 6) rfl) (es_cons (em_v (i := 7) rfl) es_nil))) (es_cons (em_op opr_add em_int (em_call L.L_32 hr hgd rfl T.m_32 T.F_32.kp (b_32 T) (es_cons (em_v (i := 0) rfl) (es_cons em_int es_nil)))) (es_cons (em_op opr_add em_int (em_call L.L_32 hr hgd rfl T.m_32 T.F_32.kp (b_32 T) (es_cons (em_v (i := 0) rfl) (es_cons em_int es_nil)))) es_nil))))) es_nil)))
  st_nil))))
  (st_cons (st_ret (em_tup (es_cons em_str (es_cons (em_v (i := 4) rfl) (es_cons (em_ty crx_tuple rfl T.n_tuple PyProof.Rows.boot_tuple (es_cons (em_v (i := 5) rfl) es_nil)) es_nil)))))
  st_nil)))
theorem body_34 (T : Tb K mg f fd) (L : Lv P w K mg base f fd n) (cdv : Value) (A : Around) (outer : List PySem.Env) (s : Shared) (H : Hp) (E : XK) (n0 : Nat) (hr : Room n (A.deeper (envOfC "_law_lot" (defScope (top 48)) s.heap.objs.size (f 34) cdv))) (hgd : A.guards = some []) :
    Pss (cxOf C8.CX0 P w K mg base ["pot", "shire", "road"] "_law_lot" (defScope (top 48)) (f 34) cdv A outer s H E) ⟨evF prog n, prog.glob, prog.fuel⟩ n0 (defBody (top 48)) d34.body := by
  have nd : (cxOf C8.CX0 P w K mg base ["pot", "shire", "road"] "_law_lot" (defScope (top 48)) (f 34) cdv A outer s H E).N.Nodup := sc_34.nd
  have hp : PassesOwn (model P w) (cxOf C8.CX0 P w K mg base ["pot", "shire", "road"] "_law_lot" (defScope (top 48)) (f 34) cdv A outer s H E).A (cxOf C8.CX0 P w K mg base ["pot", "shire", "road"] "_law_lot" (defScope (top 48)) (f 34) cdv A outer s H E).env (cxOf C8.CX0 P w K mg base ["pot", "shire", "road"] "_law_lot" (defScope (top 48)) (f 34) cdv A outer s H E).xe := PassesOwn.leaving
  have u1 : (cxOf C8.CX0 P w K mg base ["pot", "shire", "road"] "_law_lot" (defScope (top 48)) (f 34) cdv A outer s H E).A.units + 1 < cLine := by have := hr.un; show (A.deeper _).units + 1 < _; omega
  have u64 : (cxOf C8.CX0 P w K mg base ["pot", "shire", "road"] "_law_lot" (defScope (top 48)) (f 34) cdv A outer s H E).A.units + 64 < cLine := by have := hr.un; show (A.deeper _).units + 64 < _; omega
  have u65 : (cxOf C8.CX0 P w K mg base ["pot", "shire", "road"] "_law_lot" (defScope (top 48)) (f 34) cdv A outer s H E).A.units + 65 < cLine := by have := hr.un; show (A.deeper _).units + 65 < _; omega
  have u66 : (cxOf C8.CX0 P w K mg base ["pot", "shire", "road"] "_law_lot" (defScope (top 48)) (f 34) cdv A outer s H E).A.units + 66 < cLine := by have := hr.un; show (A.deeper _).units + 66 < _; omega
  exact (st_cons (st_ret (em_ty crx_tuple rfl T.n_tuple PyProof.Rows.boot_tuple (es_cons (em_lc (own := [("road", 2)]) rfl nd (blkOk_by (N := ["pot", "shire", "road"]) (sc := defScope (top 48)) (by decide +kernel)) (ei_range1 rfl T.n_range (es_cons (em_bi crx_len rfl T.n_len PySem.boot_len (es_cons (em_ix (em_v (i := 1) rfl) em_int) es_nil)) es_nil)) (fun _ _ _ _ _ => (eg_name (i := 2) nd rfl)) (fun _ _ _ _ _ => (ec_one (tt_cmp (opr_eq u64) (em_call L.L_32 hr hgd rfl T.m_32 T.F_32.kp (b_32 T) (es_cons (em_v (i := 0) rfl) (es_cons em_int es_nil))) em_int))) (fun _ _ _ _ _ => (em_v (i := 2) rfl))) es_nil)))
  st_nil)
theorem body_35 (T : Tb K mg f fd) (L : Lv P w K mg base f fd n) (cdv : Value) (A : Around) (outer : List PySem.Env) (s : Shared) (H : Hp) (E : XK) (n0 : Nat) (hr : Room n (A.deeper (envOfC "_law_rank" (defScope (top 49)) s.heap.objs.size (f 35) cdv))) (hgd : A.guards = some []) :
    Pss (cxOf C8.CX0 P w K mg base ["shire", "lot"] "_law_rank" (defScope (top 49)) (f 35) cdv A outer s H E) ⟨evF prog n, prog.glob, prog.fuel⟩ n0 (defBody (top 49)) d35.body := by
  have nd : (cxOf C8.CX0 P w K mg base ["shire", "lot"] "_law_rank" (defScope (top 49)) (f 35) cdv A outer s H E).N.Nodup := sc_35.nd
  have hp : PassesOwn (model P w) (cxOf C8.CX0 P w K mg base ["shire", "lot"] "_law_rank" (defScope (top 49)) (f 35) cdv A outer s H E).A (cxOf C8.CX0 P w K mg base ["shire", "lot"] "_law_rank" (defScope (top 49)) (f 35) cdv A outer s H E).env (cxOf C8.CX0 P w K mg base ["shire", "lot"] "_law_rank" (defScope (top 49)) (f 35) cdv A outer s H E).xe := PassesOwn.leaving
  have u1 : (cxOf C8.CX0 P w K mg base ["shire", "lot"] "_law_rank" (defScope (top 49)) (f 35) cdv A outer s H E).A.units + 1 < cLine := by have := hr.un; show (A.deeper _).units + 1 < _; omega
  have u64 : (cxOf C8.CX0 P w K mg base ["shire", "lot"] "_law_rank" (defScope (top 49)) (f 35) cdv A outer s H E).A.units + 64 < cLine := by have := hr.un; show (A.deeper _).units + 64 < _; omega
  have u65 : (cxOf C8.CX0 P w K mg base ["shire", "lot"] "_law_rank" (defScope (top 49)) (f 35) cdv A outer s H E).A.units + 65 < cLine := by have := hr.un; show (A.deeper _).units + 65 < _; omega
  have u66 : (cxOf C8.CX0 P w K mg base ["shire", "lot"] "_law_rank" (defScope (top 49)) (f 35) cdv A outer s H E).A.units + 66 < cLine := by have := hr.un; show (A.deeper _).units + 66 < _; omega
  exact (st_cons (st_ret (em_op opr_sub (em_ix (em_v (i := 0) rfl) em_int) (em_bi crx_len rfl T.n_len PySem.boot_len (es_cons (em_call L.L_19 hr hgd rfl T.m_19 T.F_19.kp (b_19 T) (es_cons (em_v (i := 0) rfl) (es_cons (em_v (i := 1) rfl) es_nil))) es_nil))))
  st_nil)
theorem body_36 (T : Tb K mg f fd) (L : Lv P w K mg base f fd n) (cdv : Value) (A : Around) (outer : List PySem.Env) (s : Shared) (H : Hp) (E : XK) (n0 : Nat) (hr : Room n (A.deeper (envOfC "_law_right" (defScope (top 50)) s.heap.objs.size (f 36) cdv))) (hgd : A.guards = some []) :
    Pss (cxOf C8.CX0 P w K mg base ["pot", "shire", "road", "both", "whole", "found", "rest", "near", "every", "one", "other", "late", "joined", "at"] "_law_right" (defScope (top 50)) (f 36) cdv A outer s H E) ⟨evF prog n, prog.glob, prog.fuel⟩ n0 (defBody (top 50)) d36.body := by
  have nd : (cxOf C8.CX0 P w K mg base ["pot", "shire", "road", "both", "whole", "found", "rest", "near", "every", "one", "other", "late", "joined", "at"] "_law_right" (defScope (top 50)) (f 36) cdv A outer s H E).N.Nodup := sc_36.nd
  have hp : PassesOwn (model P w) (cxOf C8.CX0 P w K mg base ["pot", "shire", "road", "both", "whole", "found", "rest", "near", "every", "one", "other", "late", "joined", "at"] "_law_right" (defScope (top 50)) (f 36) cdv A outer s H E).A (cxOf C8.CX0 P w K mg base ["pot", "shire", "road", "both", "whole", "found", "rest", "near", "every", "one", "other", "late", "joined", "at"] "_law_right" (defScope (top 50)) (f 36) cdv A outer s H E).env (cxOf C8.CX0 P w K mg base ["pot", "shire", "road", "both", "whole", "found", "rest", "near", "every", "one", "other", "late", "joined", "at"] "_law_right" (defScope (top 50)) (f 36) cdv A outer s H E).xe := PassesOwn.leaving
  have u1 : (cxOf C8.CX0 P w K mg base ["pot", "shire", "road", "both", "whole", "found", "rest", "near", "every", "one", "other", "late", "joined", "at"] "_law_right" (defScope (top 50)) (f 36) cdv A outer s H E).A.units + 1 < cLine := by have := hr.un; show (A.deeper _).units + 1 < _; omega
  have u64 : (cxOf C8.CX0 P w K mg base ["pot", "shire", "road", "both", "whole", "found", "rest", "near", "every", "one", "other", "late", "joined", "at"] "_law_right" (defScope (top 50)) (f 36) cdv A outer s H E).A.units + 64 < cLine := by have := hr.un; show (A.deeper _).units + 64 < _; omega
  have u65 : (cxOf C8.CX0 P w K mg base ["pot", "shire", "road", "both", "whole", "found", "rest", "near", "every", "one", "other", "late", "joined", "at"] "_law_right" (defScope (top 50)) (f 36) cdv A outer s H E).A.units + 65 < cLine := by have := hr.un; show (A.deeper _).units + 65 < _; omega
  have u66 : (cxOf C8.CX0 P w K mg base ["pot", "shire", "road", "both", "whole", "found", "rest", "near", "every", "one", "other", "late", "joined", "at"] "_law_right" (defScope (top 50)) (f 36) cdv A outer s H E).A.units + 66 < cLine := by have := hr.un; show (A.deeper _).units + 66 < _; omega
  exact (st_cons (st_set (i := 1) nd rfl (em_call L.L_33 hr hgd rfl T.m_33 T.F_33.kp (b_33 T) (es_cons (em_v (i := 0) rfl) (es_cons em_int (es_cons em_int es_nil)))))
  (st_cons (st_asg (em_tup (es_cons (em_tupRg rfl rfl T.n_tuple rfl T.n_range (em_bi crx_len rfl T.n_len PySem.boot_len (es_cons (em_ix (em_v (i := 1) rfl) em_int) es_nil))) (es_cons (em_call L.L_34 hr hgd rfl T.m_34 T.F_34.kp (b_34 T) (es_cons (em_v (i := 0) rfl) (es_cons (em_v (i := 1) rfl) es_nil))) (es_cons (em_call L.L_34 hr hgd rfl T.m_34 T.F_34.kp (b_34 T) (es_cons (em_v (i := 0) rfl) (es_cons (em_v (i := 1) rfl) es_nil))) es_nil)))) (eg_tup rfl (egs_cons (eg_name (i := 8) nd rfl) (egs_cons (eg_name (i := 9) nd rfl) (egs_cons (eg_name (i := 10) nd rfl) egs_nil)))))
  (st_cons (st_for hp rfl (ei_seq (em_v (i := 8) rfl)) (eg_name (i := 2) nd rfl)
  (st_cons (st_set (i := 11) nd rfl (em_ty crx_tuple rfl T.n_tuple PyProof.Rows.boot_tuple (es_cons (em_sset rfl rfl T.n_sorted rfl T.n_set (em_op opr_add (em_v (i := 9) rfl) (em_tup (es_cons (em_v (i := 2) rfl) es_nil)))) es_nil)))
  (st_cons (st_set (i := 12) nd rfl (em_cmp opr_isNot (em_call L.L_24 hr hgd rfl T.m_24 T.F_24.kp (b_24 T) (es_cons (em_v (i := 1) rfl) (es_cons (em_v (i := 9) rfl) (es_cons (em_ix (em_ix (em_ix (em_v (i := 1) rfl) em_int) (em_v (i := 2) rfl)) em_int) (es_cons (em_ix (em_ix (em_ix (em_v (i := 1) rfl) em_int) (em_v (i := 2) rfl)) em_int) es_nil))))) em_non))
  (st_cons (st_if (tt_cmp (opr_ne u64) (em_call L.L_35 hr hgd rfl T.m_35 T.F_35.kp (b_35 T) (es_cons (em_v (i := 1) rfl) (es_cons (em_v (i := 11) rfl) es_nil))) (em_op opr_add (em_call L.L_35 hr hgd rfl T.m_35 T.F_35.kp (b_35 T) (es_cons (em_v (i := 1) rfl) (es_cons (em_v (i := 9) rfl) es_nil))) (em_ty crx_int rfl T.n_int PyProof.Rows.boot_int (es_cons (em_not (em_v (i := 12) rfl)) es_nil))))
  (st_cons (st_ret em_bl)
  st_nil)
  st_nil)
  st_nil))))
  (st_cons (st_set (i := 3) nd rfl (em_ty crx_tuple rfl T.n_tuple PyProof.Rows.boot_tuple (es_cons (em_lc (own := [("road", 2)]) rfl nd (blkOk_by (N := ["pot", "shire", "road", "both", "whole", "found", "rest", "near", "every", "one", "other", "late", "joined", "at"]) (sc := defScope (top 50)) (by decide +kernel)) (ei_seq (em_v (i := 9) rfl)) (fun _ _ _ _ _ => (eg_name (i := 2) nd rfl)) (fun _ _ _ _ _ => (ec_one (tt_cmp (opr_in u65) (em_v (i := 2) rfl) (em_v (i := 10) rfl)))) (fun _ _ _ _ _ => (em_v (i := 2) rfl))) es_nil)))
  (st_cons (st_set (i := 4) nd rfl (em_ty crx_tuple rfl T.n_tuple PyProof.Rows.boot_tuple (es_cons (em_sset rfl rfl T.n_sorted rfl T.n_set (em_op opr_add (em_v (i := 9) rfl) (em_v (i := 10) rfl))) es_nil)))
  (st_cons (st_if (tt_cmp opr_gt (em_op opr_add (em_call L.L_35 hr hgd rfl T.m_35 T.F_35.kp (b_35 T) (es_cons (em_v (i := 1) rfl) (es_cons (em_v (i := 4) rfl) es_nil))) (em_call L.L_35 hr hgd rfl T.m_35 T.F_35.kp (b_35 T) (es_cons (em_v (i := 1) rfl) (es_cons (em_v (i := 3) rfl) es_nil)))) (em_op opr_add (em_call L.L_35 hr hgd rfl T.m_35 T.F_35.kp (b_35 T) (es_cons (em_v (i := 1) rfl) (es_cons (em_v (i := 9) rfl) es_nil))) (em_call L.L_35 hr hgd rfl T.m_35 T.F_35.kp (b_35 T) (es_cons (em_v (i := 1) rfl) (es_cons (em_v (i := 10) rfl) es_nil)))))
  (st_cons (st_ret em_bl)
  st_nil)
  st_nil)
  (st_cons (st_set (i := 5) nd rfl (em_tup es_nil))
  (st_cons (st_for hp rfl (ei_seq (em_v (i := 9) rfl)) (eg_name (i := 2) nd rfl)
  (st_cons (st_if (tt_cmp opr_is (em_call L.L_25 hr hgd rfl T.m_25 T.F_25.kp (b_25 T) (es_cons (em_v (i := 1) rfl) (es_cons (em_ty crx_tuple rfl T.n_tuple PyProof.Rows.boot_tuple (es_cons (em_bi (crx_sorted u66) rfl T.n_sorted PyProof.Rows.boot_sorted (es_cons (em_op opr_add (em_v (i := 5) rfl) (em_tup (es_cons (em_v (i := 2) rfl) es_nil))) es_nil)) es_nil)) es_nil))) em_non)
  (st_cons (st_set (i := 5) nd rfl (em_op opr_add (em_v (i := 5) rfl) (em_tup (es_cons (em_v (i := 2) rfl) es_nil))))
  st_nil)
  st_nil)
  st_nil))
  (st_cons (st_if (tt_w (tw_or (tt_cmp (opr_ne u64) (em_bi crx_len rfl T.n_len PySem.boot_len (es_cons (em_v (i := 5) rfl) es_nil)) (em_call L.L_35 hr hgd rfl T.m_35 T.F_35.kp (b_35 T) (es_cons (em_v (i := 1) rfl) (es_cons (em_v (i := 9) rfl) es_nil)))) (tw_or (tt_not (tt_val (em_call L.L_26 hr hgd rfl T.m_26 T.F_26.kp (b_26 T) (es_cons (em_v (i := 1) rfl) (es_cons (em_v (i := 5) rfl) es_nil))))) (tw_or1 (tt_cmp (opr_ne u64) (em_call L.L_19 hr hgd rfl T.m_19 T.F_19.kp (b_19 T) (es_cons (em_v (i := 1) rfl) (es_cons (em_v (i := 5) rfl) es_nil))) (em_call L.L_19 hr hgd rfl T.m_19 T.F_19.kp (b_19 T) (es_cons (em_v (i := 1) rfl) (es_cons (em_v (i := 9) rfl) es_nil))))))))
  (st_cons (st_ret em_bl)
  st_nil)
  st_nil)
  (st_cons (st_set (i := 6) nd rfl (em_ty crx_tuple rfl T.n_tuple PyProof.Rows.boot_tuple (es_cons (em_lc (own := [("road", 2)]) rfl nd (blkOk_by (N := ["pot", "shire", "road", "both", "whole", "found", "rest", "near", "every", "one", "other", "late", "joined", "at"]) (sc := defScope (top 50)) (by decide +kernel)) (ei_seq (em_v (i := 8) rfl)) (fun _ _ _ _ _ => (eg_name (i := 2) nd rfl)) (fun _ _ _ _ _ => (ec_one (tt_cmp (opr_notIn u65) (em_v (i := 2) rfl) (em_v (i := 9) rfl)))) (fun _ _ _ _ _ => (em_v (i := 2) rfl))) es_nil)))
  (st_cons (st_set (i := 7) nd rfl (em_call L.L_27 hr hgd rfl T.m_27 T.F_27.kp (b_27 T) (es_cons (em_call L.L_30 hr hgd rfl T.m_30 T.F_30.kp (b_30 T) (es_cons (em_v (i := 1) rfl) (es_cons (em_v (i := 6) rfl) es_nil))) es_nil)))
  (st_cons (st_if (tt_cmp (opr_ne u64) (em_ty crx_tuple rfl T.n_tuple PyProof.Rows.boot_tuple (es_cons (em_lc (own := [("at", 13)]) rfl nd (blkOk_by (N := ["pot", "shire", "road", "both", "whole", "found", "rest", "near", "every", "one", "other", "late", "joined", "at"]) (sc := defScope (top 50)) (by decide +kernel)) (ei_seq (em_v (i := 7) rfl)) (fun _ _ _ _ _ => (eg_name (i := 13) nd rfl)) (fun _ _ _ _ _ => ec_nil) (fun _ _ _ _ _ => (em_ix (em_v (i := 9) rfl) (em_v (i := 13) rfl)))) es_nil)) (em_v (i := 5) rfl))
  (st_cons (st_ret em_bl)
  st_nil)
  st_nil)
  (st_cons (st_for hp rfl (ei_seq (em_v (i := 8) rfl)) (eg_name (i := 2) nd rfl)
  (st_cons (st_if (tt_cmp opr_is (em_call L.L_25 hr hgd rfl T.m_25 T.F_25.kp (b_25 T) (es_cons (em_v (i := 1) rfl) (es_cons (em_ty crx_tuple rfl T.n_tuple PyProof.Rows.boot_tuple (es_cons (em_sset rfl rfl T.n_sorted rfl T.n_set (em_op opr_add (em_v (i := 5) rfl) (em_tup (es_cons (em_v (i := 2) rfl) es_nil)))) es_nil)) es_nil))) em_non)
  (st_cons (st_set (i := 5) nd rfl (em_ty crx_tuple rfl T.n_tuple PyProof.Rows.boot_tuple (es_cons (em_sset rfl rfl T.n_sorted rfl T.n_set (em_op opr_add (em_v (i := 5) rfl) (em_tup (es_cons (em_v (i := 2) rfl) es_nil)))) es_nil)))
  st_nil)
  st_nil)
  st_nil))
  (st_cons (st_ret (em_and (em_cmp (opr_eq u64) (em_bi crx_len rfl T.n_len PySem.boot_len (es_cons (em_v (i := 5) rfl) es_nil)) (em_call L.L_35 hr hgd rfl T.m_35 T.F_35.kp (b_35 T) (es_cons (em_v (i := 1) rfl) (es_cons (em_v (i := 8) rfl) es_nil)))) (em_one (em_call L.L_26 hr hgd rfl T.m_26 T.F_26.kp (b_26 T) (es_cons (em_v (i := 1) rfl) (es_cons (em_v (i := 5) rfl) es_nil))))))
  st_nil))))))))))))))
theorem body_37 (T : Tb K mg f fd) (L : Lv P w K mg base f fd n) (cdv : Value) (A : Around) (outer : List PySem.Env) (s : Shared) (H : Hp) (E : XK) (n0 : Nat) (hr : Room n (A.deeper (envOfC "law" (defScope (top 51)) s.heap.objs.size (f 37) cdv))) (hgd : A.guards = some []) :
    Pss (cxOf C8.CX0 P w K mg base ["script", "k", "pot", "turn"] "law" (defScope (top 51)) (f 37) cdv A outer s H E) ⟨evF prog n, prog.glob, prog.fuel⟩ n0 (defBody (top 51)) d37.body := by
  have nd : (cxOf C8.CX0 P w K mg base ["script", "k", "pot", "turn"] "law" (defScope (top 51)) (f 37) cdv A outer s H E).N.Nodup := sc_37.nd
  have hp : PassesOwn (model P w) (cxOf C8.CX0 P w K mg base ["script", "k", "pot", "turn"] "law" (defScope (top 51)) (f 37) cdv A outer s H E).A (cxOf C8.CX0 P w K mg base ["script", "k", "pot", "turn"] "law" (defScope (top 51)) (f 37) cdv A outer s H E).env (cxOf C8.CX0 P w K mg base ["script", "k", "pot", "turn"] "law" (defScope (top 51)) (f 37) cdv A outer s H E).xe := PassesOwn.leaving
  have u1 : (cxOf C8.CX0 P w K mg base ["script", "k", "pot", "turn"] "law" (defScope (top 51)) (f 37) cdv A outer s H E).A.units + 1 < cLine := by have := hr.un; show (A.deeper _).units + 1 < _; omega
  have u64 : (cxOf C8.CX0 P w K mg base ["script", "k", "pot", "turn"] "law" (defScope (top 51)) (f 37) cdv A outer s H E).A.units + 64 < cLine := by have := hr.un; show (A.deeper _).units + 64 < _; omega
  have u65 : (cxOf C8.CX0 P w K mg base ["script", "k", "pot", "turn"] "law" (defScope (top 51)) (f 37) cdv A outer s H E).A.units + 65 < cLine := by have := hr.un; show (A.deeper _).units + 65 < _; omega
  have u66 : (cxOf C8.CX0 P w K mg base ["script", "k", "pot", "turn"] "law" (defScope (top 51)) (f 37) cdv A outer s H E).A.units + 66 < cLine := by have := hr.un; show (A.deeper _).units + 66 < _; omega
  exact (st_cons (st_for hp rfl (ei_range1 rfl T.n_range (es_cons (em_bi (crx_max rfl) rfl T.n_max PyProof.Rows.boot_max (es_cons em_int (es_cons (em_bi (crx_min rfl) rfl T.n_min PyProof.Rows.boot_min (es_cons em_int (es_cons (em_bi crx_len rfl T.n_len PySem.boot_len (es_cons (em_v (i := 0) rfl) es_nil)) es_nil))) es_nil))) es_nil)) (eg_name (i := 1) nd rfl)
  (st_cons (st_set (i := 2) nd rfl (em_call L.L_31 hr hgd rfl T.m_31 T.F_31.kp (b_31 T) (es_cons (em_v (i := 0) rfl) (es_cons (em_v (i := 1) rfl) es_nil))))
  (st_cons (st_if (tt_not (tt_val (em_bi (crx_all rfl) rfl T.n_all PyProof.Rows.boot_all (es_cons (em_lc (own := [("turn", 3)]) rfl nd (blkOk_by (N := ["script", "k", "pot", "turn"]) (sc := defScope (top 51)) (by decide +kernel)) (ei_range1 rfl T.n_range (es_cons em_int es_nil)) (fun _ _ _ _ _ => (eg_name (i := 3) nd rfl)) (fun _ _ _ _ _ => ec_nil) (fun _ _ _ _ _ => (em_call L.L_36 hr hgd rfl T.m_36 T.F_36.kp (b_36 T) (es_cons (em_v (i := 2) rfl) es_nil)))) es_nil))))
  (st_cons (st_ret em_bl)
  st_nil)
  st_nil)
  st_nil)))
  (st_cons (st_ret em_bl)
  st_nil))
theorem all_lv (T : Tb K mg f fd) : ∀ n, Lv P w K mg base f fd n
  | 0 => by constructor <;> exact fnG_zero
  | n + 1 => by
    have L := all_lv T n
    constructor
    · exact fnG_of (d := d0) T.F_0 sc_0 rfl fun cdv A outer s H E n0 hr hgd => body_0 T L cdv A outer s H E n0 hr hgd
    · exact fnG_of (d := d1) T.F_1 sc_1 rfl fun cdv A outer s H E n0 hr hgd => body_1 T L cdv A outer s H E n0 hr hgd
    · exact fnG_of (d := d2) T.F_2 sc_2 rfl fun cdv A outer s H E n0 hr hgd => body_2 T L cdv A outer s H E n0 hr hgd
    · exact fnG_of (d := d3) T.F_3 sc_3 rfl fun cdv A outer s H E n0 hr hgd => body_3 T L cdv A outer s H E n0 hr hgd
    · exact fnG_of (d := d4) T.F_4 sc_4 rfl fun cdv A outer s H E n0 hr hgd => body_4 T L cdv A outer s H E n0 hr hgd
    · exact fnG_of (d := d5) T.F_5 sc_5 rfl fun cdv A outer s H E n0 hr hgd => body_5 T L cdv A outer s H E n0 hr hgd
    · exact fnG_of (d := d6) T.F_6 sc_6 rfl fun cdv A outer s H E n0 hr hgd => body_6 T L cdv A outer s H E n0 hr hgd
    · exact fnG_of (d := d7) T.F_7 sc_7 rfl fun cdv A outer s H E n0 hr hgd => body_7 T L cdv A outer s H E n0 hr hgd
    · exact fnG_of (d := d8) T.F_8 sc_8 rfl fun cdv A outer s H E n0 hr hgd => body_8 T L cdv A outer s H E n0 hr hgd
    · exact fnG_of (d := d9) T.F_9 sc_9 rfl fun cdv A outer s H E n0 hr hgd => body_9 T L cdv A outer s H E n0 hr hgd
    · exact fnG_of (d := d10) T.F_10 sc_10 rfl fun cdv A outer s H E n0 hr hgd => body_10 T L cdv A outer s H E n0 hr hgd
    · exact fnG_of (d := d11) T.F_11 sc_11 rfl fun cdv A outer s H E n0 hr hgd => body_11 T L cdv A outer s H E n0 hr hgd
    · exact fnG_of (d := d12) T.F_12 sc_12 rfl fun cdv A outer s H E n0 hr hgd => body_12 T L cdv A outer s H E n0 hr hgd
    · exact fnG_of (d := d13) T.F_13 sc_13 rfl fun cdv A outer s H E n0 hr hgd => body_13 T L cdv A outer s H E n0 hr hgd
    · exact fnG_of (d := d14) T.F_14 sc_14 rfl fun cdv A outer s H E n0 hr hgd => body_14 T L cdv A outer s H E n0 hr hgd
    · exact fnG_of (d := d15) T.F_15 sc_15 rfl fun cdv A outer s H E n0 hr hgd => body_15 T L cdv A outer s H E n0 hr hgd
    · exact fnG_of (d := d16) T.F_16 sc_16 rfl fun cdv A outer s H E n0 hr hgd => body_16 T L cdv A outer s H E n0 hr hgd
    · exact fnG_of (d := d17) T.F_17 sc_17 rfl fun cdv A outer s H E n0 hr hgd => body_17 T L cdv A outer s H E n0 hr hgd
    · exact fnG_of (d := d18) T.F_18 sc_18 rfl fun cdv A outer s H E n0 hr hgd => body_18 T L cdv A outer s H E n0 hr hgd
    · exact fnG_of (d := d19) T.F_19 sc_19 rfl fun cdv A outer s H E n0 hr hgd => body_19 T L cdv A outer s H E n0 hr hgd
    · exact fnG_of (d := d20) T.F_20 sc_20 rfl fun cdv A outer s H E n0 hr hgd => body_20 T L cdv A outer s H E n0 hr hgd
    · exact fnG_of (d := d21) T.F_21 sc_21 rfl fun cdv A outer s H E n0 hr hgd => body_21 T L cdv A outer s H E n0 hr hgd
    · exact fnG_of (d := d22) T.F_22 sc_22 rfl fun cdv A outer s H E n0 hr hgd => body_22 T L cdv A outer s H E n0 hr hgd
    · exact fnG_of (d := d23) T.F_23 sc_23 rfl fun cdv A outer s H E n0 hr hgd => body_23 T L cdv A outer s H E n0 hr hgd
    · exact fnG_of (d := d24) T.F_24 sc_24 rfl fun cdv A outer s H E n0 hr hgd => body_24 T L cdv A outer s H E n0 hr hgd
    · exact fnG_of (d := d25) T.F_25 sc_25 rfl fun cdv A outer s H E n0 hr hgd => body_25 T L cdv A outer s H E n0 hr hgd
    · exact fnG_of (d := d26) T.F_26 sc_26 rfl fun cdv A outer s H E n0 hr hgd => body_26 T L cdv A outer s H E n0 hr hgd
    · exact fnG_of (d := d27) T.F_27 sc_27 rfl fun cdv A outer s H E n0 hr hgd => body_27 T L cdv A outer s H E n0 hr hgd
    · exact fnG_of (d := d28) T.F_28 sc_28 rfl fun cdv A outer s H E n0 hr hgd => body_28 T L cdv A outer s H E n0 hr hgd
    · exact fnG_of (d := d29) T.F_29 sc_29 rfl fun cdv A outer s H E n0 hr hgd => body_29 T L cdv A outer s H E n0 hr hgd
    · exact fnG_of (d := d30) T.F_30 sc_30 rfl fun cdv A outer s H E n0 hr hgd => body_30 T L cdv A outer s H E n0 hr hgd
    · exact fnG_of (d := d31) T.F_31 sc_31 rfl fun cdv A outer s H E n0 hr hgd => body_31 T L cdv A outer s H E n0 hr hgd
    · exact fnG_of (d := d32) T.F_32 sc_32 rfl fun cdv A outer s H E n0 hr hgd => body_32 T L cdv A outer s H E n0 hr hgd
    · exact fnG_of (d := d33) T.F_33 sc_33 rfl fun cdv A outer s H E n0 hr hgd => body_33 T L cdv A outer s H E n0 hr hgd
    · exact fnG_of (d := d34) T.F_34 sc_34 rfl fun cdv A outer s H E n0 hr hgd => body_34 T L cdv A outer s H E n0 hr hgd
    · exact fnG_of (d := d35) T.F_35 sc_35 rfl fun cdv A outer s H E n0 hr hgd => body_35 T L cdv A outer s H E n0 hr hgd
    · exact fnG_of (d := d36) T.F_36 sc_36 rfl fun cdv A outer s H E n0 hr hgd => body_36 T L cdv A outer s H E n0 hr hgd
    · exact fnG_of (d := d37) T.F_37 sc_37 rfl fun cdv A outer s H E n0 hr hgd => body_37 T L cdv A outer s H E n0 hr hgd
end
end Wk
end

section
set_option Elab.async false
set_option linter.all false
set_option maxRecDepth 100000
set_option maxHeartbeats 400000
namespace Wk
open PySem Em
def isI : D → Bool
  | .int _ => true
  | _ => false
theorem ev0 (n : Nat) (p : D) (F : List Cell) : evF prog (n + 1) 0 [.d p] [] F = .ok (.d (.bool (isI p))) ⟨F, []⟩ := by
  rw [evF_step (d := d0) rfl rfl]
  cases p <;> simp [d0, isI]
def within : D → Int → Int → Bool
  | .int i, a, b => decide (a ≤ i) && decide (i ≤ b)
  | _, _, _ => false
theorem ev1 (n : Nat) (p : D) (a b : Int) (F : List Cell) : evF prog (n + 2) 1 [.d p, .d (.int a), .d (.int b)] [] F = .ok (.d (.bool (within p a b))) ⟨F, []⟩ := by
  rw [evF_step (d := d1) rfl rfl]
  cases p with
  | int i => by_cases h : a ≤ i <;> simp [d1, ev0, called_s, isI, within, h]
  | _ => simp [d1, ev0, called_s, isI, within]
def isTup : D → Nat → Bool
  | .tuple l, k => l.length == k
  | _, _ => false
theorem ev2 (n : Nat) (p : D) (k : Nat) (F : List Cell) : evF prog (n + 1) 2 [.d p, .d (.int k)] [] F = .ok (.d (.bool (isTup p k))) ⟨F, []⟩ := by
  rw [evF_step (d := d2) rfl rfl]
  cases p <;> simp [d2, isTup]
  rename_i l
  by_cases h : l.length = k
  · simp [h]
  · have h2 : ¬ ((l.length : Int) = k) := fun z => h (by omega)
    rw [beq_eq_false_iff_ne.mpr h, beq_eq_false_iff_ne.mpr h2]
/-- rising neighbours, of ints -/
def pairUp : List Int → Bool
  | a :: b :: r => decide (a < b) && pairUp (b :: r)
  | _ => true
def ups (l : List Int) : Bool := (List.zipWith (fun a b => decide (a < b)) l l.tail).all id
theorem cut1 (l : List D) : Em.cut l (some 1) none = l.tail := by
  rw [← List.drop_one]
  have h1 : HT.sIx l.length 0 (some 1) = min 1 l.length := rfl
  have h2 : HT.sIx l.length l.length none = l.length := rfl
  unfold Em.cut
  rw [h1, h2]
  by_cases h : 1 ≤ l.length
  · rw [Nat.min_eq_left h]
    exact List.take_of_length_le (by rw [List.length_drop]; exact Nat.le_refl _)
  · have : l = [] := by cases l with | nil => rfl | cons a r => exact absurd (by simp) h
    subst this; rfl
theorem zip_ints (l m : List Int) : List.zipWith (fun p q => PyData.tuple [p, q]) (l.map .int) (m.map .int) = (List.zipWith (fun a b => PyData.tuple [.int a, .int b]) l m) := by
  induction l generalizing m with
  | nil => rfl
  | cons a r ih => cases m with
    | nil => rfl
    | cons b t => simp [ih]
def gLt : D → Option D
  | .tuple [.int a, .int b] => some (.bool (decide (a < b)))
  | _ => none
theorem fm_zip (l m : List Int) : (List.zipWith (fun a b => PyData.tuple [.int a, .int b]) l m).filterMap gLt = (List.zipWith (fun a b => decide (a < b)) l m).map .bool := by
  induction l generalizing m with
  | nil => rfl
  | cons a r ih => cases m with
    | nil => rfl
    | cons b t => simp [gLt, ih]
theorem mem_zip {l m : List Int} {x : D} (h : x ∈ List.zipWith (fun a b => PyData.tuple [.int a, .int b]) l m) : ∃ a b, x = .tuple [.int a, .int b] := by
  induction l generalizing m with
  | nil => cases h
  | cons a r ih => cases m with
    | nil => cases h
    | cons b t =>
      rw [List.zipWith_cons_cons] at h
      rcases List.mem_cons.mp h with h | h
      · exact ⟨a, b, h⟩
      · exact ih h
/-- [near < far for near, far in zip(l, l[1:])], of ints; i, j the two slots -/
theorem ups_loop {c : Em.Ctx} (hfu : 1000 < c.fuel) {i j : Nat} {σ : Em.Env} (hi : i < σ.length) (hj : j < σ.length) (hij : i ≠ j) (l : List Int) (hz : l.length ≤ 1000) (s : Sto) :
    loopC (lcF c (.op .lt .fr (.v i) (.v j)) (.tup [.slot i, .slot j]) none [i, j] σ) (.d (.list (List.zipWith (fun p q => PyData.tuple [p, q]) (l.map .int) (l.map .int).tail))) c.fuel 0 s [] =
      .ok ((((List.zipWith (fun a b => decide (a < b)) l l.tail).map .bool).map Val.d)) s := by
  rw [← List.map_tail, zip_ints, ← fm_zip]
  have hsm : sizeMax = 16777216 := rfl
  have hl : (List.zipWith (fun a b => PyData.tuple [.int a, .int b]) l l.tail).length ≤ 1000 := by rw [List.length_zipWith]; omega
  refine lc_pure (items_list _) gLt (fun x hx => ?_) (by omega) (by omega)
  obtain ⟨a, b, rfl⟩ := mem_zip hx
  have w : ∀ (vs : List Nat) (σ : Em.Env), (Em.wipe σ vs).length = σ.length := by
    intro vs
    induction vs with
    | nil => intro σ; rfl
    | cons v r ih => intro σ; simp [ih]
  simp [lcF, gLt, w, hi, hj, hij, Ne.symm hij]
end Wk

namespace Wk
open PySem Em
def seqOf (t : Bool) (l : List D) : D := if t = true then .tuple l else .list l
theorem ev3 (n : Nat) (t : Bool) (l : List Int) (F : List Cell) (hz : l.length ≤ 1000) : evF prog (n + 1) 3 [.d (seqOf t (l.map .int))] [] F = .ok (.d (.bool (ups l))) ⟨F, []⟩ := by
  rw [evF_step (d := d3) rfl rfl]
  have hf : prog.fuel = 1000000 := rfl
  have lp := fun (σ : Em.Env) (s : Sto) (h1 : 1 < σ.length) (h2 : 2 < σ.length) => ups_loop (c := ⟨evF prog n, prog.glob, prog.fuel⟩) (by show 1000 < prog.fuel; rw [hf]; omega) h1 h2 (by decide) l hz s
  cases t with
  | true =>
    simp [d3, seqOf, cut1]
    rw [lp _ _ (by simp) (by simp)]
    simp only [R.bd_ok, mkV_fr]
    have hb : allB (List.zipWith (fun a b => decide (a < b)) l l.tail) = ups l := rfl
    generalize List.zipWith (fun a b => decide (a < b)) l l.tail = bs at hb
    simp [hb]
  | false =>
    simp [d3, seqOf, cut1]
    rw [lp _ _ (by simp) (by simp)]
    simp only [R.bd_ok, mkV_fr]
    have hb : allB (List.zipWith (fun a b => decide (a < b)) l l.tail) = ups l := rfl
    generalize List.zipWith (fun a b => decide (a < b)) l l.tail = bs at hb
    simp [hb]
/-- ints, all within -/
def intsD : List D → Option (List Int)
  | [] => some []
  | .int i :: r => (intsD r).map (i :: ·)
  | _ :: _ => none
theorem intsD_map : ∀ {l : List D} {ns : List Int}, intsD l = some ns → l = ns.map .int
  | [], ns, h => by cases h; rfl
  | .int i :: r, ns, h => by
    cases q : intsD r with
    | none => rw [intsD, q] at h; cases h
    | some m => rw [intsD, q] at h; cases h; rw [intsD_map q]; rfl
theorem intsD_within {a b : Int} : ∀ {l : List D}, l.all (fun p => within p a b) = true → ∃ ns, intsD l = some ns
  | [], _ => ⟨[], rfl⟩
  | p :: r, h => by
    rw [List.all_cons, Bool.and_eq_true] at h
    obtain ⟨ns, q⟩ := intsD_within h.2
    cases p with
    | int i => exact ⟨i :: ns, by rw [intsD, q]; rfl⟩
    | _ => cases h.1
def upsD (l : List D) : Bool := match intsD l with
  | some ns => ups ns
  | none => false
/-- a lot -/
def isLot (p : D) (m : Int) : Bool := match p with
  | .tuple l => l.all (fun p => within p 0 (m - 1)) && upsD l
  | _ => false
/-- small values, as far down as is looked -/
def szOk : D → Bool
  | .tuple l => decide (l.length ≤ 1000)
  | .list l => decide (l.length ≤ 1000)
  | _ => true
theorem fm_some {α β : Type} (f : α → β) (l : List α) : l.filterMap (fun x => some (f x)) = l.map f := by
  induction l with
  | nil => rfl
  | cons a r ih => rw [List.filterMap_cons_some (f := fun x => some (f x)) rfl, ih]; rfl
theorem wipe_len (vs : List Nat) (σ : Em.Env) : (Em.wipe σ vs).length = σ.length := by
  induction vs generalizing σ with
  | nil => rfl
  | cons v r ih => simp [ih]
/-- [f(one, 0, k) for one in l], f a test of one value between two -/
theorem within_loop {c : Em.Ctx} (hfu : 1000 < c.fuel) {i kf : Nat} {σ : Em.Env} (hi : i < σ.length) {v : Val} {l : List D} (hv : Items v l) (hz : l.length ≤ 1000) (s : Sto) (em : E) (m : Int)
    (hm : ∀ x, evE c em ((Em.wipe σ [i]).set i (some (.d x))) s = .ok (.d (.int m)) s) (hf : ∀ (p : D) (F : List Cell), c.call kf [.d p, .d (.int 0), .d (.int (m - 1))] [] F = .ok (.d (.bool (within p 0 (m - 1)))) ⟨F, []⟩) :
    loopC (lcF c (.call kf .fr [.v i, .k (.int 0), .op .sub .fr em (.k (.int 1))] []) (.slot i) none [i] σ) v c.fuel 0 s [] = .ok (((l.map fun p => within p 0 (m - 1)).map .bool).map Val.d) s := by
  have hsm : sizeMax = 16777216 := rfl
  rw [lc_pure hv (fun p => some (.bool (within p 0 (m - 1)))) (fun x hx => ?_) (by omega) (by omega), fm_some]
  · congr 1; congr 1; rw [List.map_map]; rfl
  · have hm := hm x
    simp only [Em.wipe, List.set_set] at hm
    simp [lcF, hi, hm, hf, called_s]
theorem ev4 (n : Nat) (p : D) (m : Int) (F : List Cell) (hz : szOk p = true) : evF prog (n + 3) 4 [.d p, .d (.int m)] [] F = .ok (.d (.bool (isLot p m))) ⟨F, []⟩ := by
  rw [evF_step (d := d4) rfl rfl]
  cases p with
  | tuple l =>
    have hz : l.length ≤ 1000 := of_decide_eq_true hz
    have hf : prog.fuel = 1000000 := rfl
    have lp := fun (σ : Em.Env) (s : Sto) (h2 : 2 < σ.length) (hm : ∀ x, evE ⟨evF prog (n + 2), prog.glob, prog.fuel⟩ (.v 1) ((Em.wipe σ [2]).set 2 (some (.d x))) s = .ok (.d (.int m)) s) =>
      within_loop (c := ⟨evF prog (n + 2), prog.glob, prog.fuel⟩) (kf := 1) (by show 1000 < prog.fuel; rw [hf]; omega) h2 (items_tup l) hz s (.v 1) m hm (fun p F => ev1 n p 0 (m - 1) F)
    simp [d4]
    rw [lp _ _ (by simp) (by simp)]
    simp only [R.bd_ok, mkV_fr]
    have hb : allB (l.map fun p => within p 0 (m - 1)) = l.all (fun p => within p 0 (m - 1)) := by unfold allB; rw [List.all_map]; rfl
    generalize (l.map fun p => within p 0 (m - 1)) = bs at hb
    cases h : l.all (fun p => within p 0 (m - 1)) with
    | true =>
      obtain ⟨ns, q⟩ := intsD_within h
      have e := intsD_map q
      have ev := ev3 (n + 1) true ns F (by rw [e, List.length_map] at hz; exact hz)
      rw [seqOf, if_pos rfl, ← e] at ev
      have hu : upsD l = ups ns := by unfold upsD; rw [q]
      have hi : isLot (.tuple l) m = ups ns := by unfold isLot; simp only [h, hu, Bool.true_and]
      simp [hb, h, ev, hi]
    | false =>
      have hi : isLot (.tuple l) m = false := by unfold isLot; simp only [h, Bool.false_and]
      simp [hb, h, hi]
  | _ => simp [d4, isLot]
end Wk

namespace Wk
open PySem Em
def ltI : D → D → Bool
  | .int a, .int b => decide (a < b)
  | _, _ => false
def isRoad (p : D) (v : Int) : Bool := match p with
  | .tuple [a, b, c, d] => within a 0 (v - 1) && (within b 0 (v - 1) && (ltI a b && (within c 1 99 && within d 1 9)))
  | _ => false
theorem within_int {p : D} {a b : Int} (h : within p a b = true) : ∃ i, p = .int i := by
  cases p <;> first | exact ⟨_, rfl⟩ | cases h
theorem len4 {l : List D} (h : l.length = 4) : ∃ a b c d, l = [a, b, c, d] := by
  match l, h with
  | [a, b, c, d], _ => exact ⟨a, b, c, d, rfl⟩
theorem not4 {l : List D} {v : Int} (h : l.length ≠ 4) : isRoad (.tuple l) v = false := by
  match l with
  | [] => rfl
  | [_] => rfl
  | [_, _] => rfl
  | [_, _, _] => rfl
  | [_, _, _, _] => exact absurd rfl h
  | _ :: _ :: _ :: _ :: _ :: _ => rfl
end Wk


namespace Wk
open PySem Em
theorem bd_ite {α β : Type} (b : Bool) (x y : R α) (f : α → Sto → R β) : (if b = true then x else y).bd f = if b = true then x.bd f else y.bd f := by cases b <;> rfl
/-- is_road_value: k the def is_tuple's answer, within's def -/
theorem ev5 (n : Nat) (p : D) (v : Int) (F : List Cell) : evF prog (n + 3) 5 [.d p, .d (.int v)] [] F = .ok (.d (.bool (isRoad p v))) ⟨F, []⟩ := by
  rw [evF_step (d := d5) rfl rfl]
  have e2 : evF prog (n + 2) 2 [.d p, .d (.int 4)] [] F = .ok (.d (.bool (isTup p 4))) ⟨F, []⟩ := ev2 (n + 1) p 4 F
  have e1 := fun (p : D) (a b : Int) => ev1 n p a b F
  have hf : prog.fuel = 1000000 := rfl
  have g2 : prog.glob 2 = some (.int 99) := rfl
  have g3 : prog.glob 3 = some (.int 9) := rfl
  cases h : isTup p 4 with
  | false =>
    have hr : isRoad p v = false := by
      cases p with
      | tuple l => exact not4 fun z => by simp [isTup, z] at h
      | _ => rfl
    simp [d5, e2, h, hr]
  | true =>
    cases p with
    | tuple l =>
      have h4 : l.length = 4 := by simpa [isTup] using h
      obtain ⟨a, b, c, d, rfl⟩ := len4 h4
      have lp := fun (σ : Em.Env) (s : Sto) (h2 : 2 < σ.length) (hm : ∀ x, evE ⟨evF prog (n + 2), prog.glob, prog.fuel⟩ (.v 1) ((Em.wipe σ [2]).set 2 (some (.d x))) s = .ok (.d (.int v)) s) =>
        within_loop (c := ⟨evF prog (n + 2), prog.glob, prog.fuel⟩) (kf := 1) (by show 1000 < prog.fuel; rw [hf]; omega) h2 (items_tup [a, b]) (by show 2 ≤ 1000; omega) s (.v 1) v hm (fun p F => ev1 n p 0 (v - 1) F)
      have hc : Em.cut [a, b, c, d] none (some 2) = [a, b] := rfl
      simp [d5, e2, h, hc]
      rw [lp _ _ (by simp) (by simp)]
      simp only [R.bd_ok, mkV_fr]
      have hb : allB ([a, b].map fun p => within p 0 (v - 1)) = (within a 0 (v - 1) && within b 0 (v - 1)) := by simp [allB]
      generalize ([a, b].map fun p => within p 0 (v - 1)) = bs at hb
      cases ha : within a 0 (v - 1) with
      | false => simp [hb, ha, isRoad]
      | true =>
        cases hb' : within b 0 (v - 1) with
        | false => simp [hb, ha, hb', isRoad]
        | true =>
          obtain ⟨i, rfl⟩ := within_int ha
          obtain ⟨j, rfl⟩ := within_int hb'
          have p0 : atD [.int i, .int j, c, d] 0 = some (.int i) := rfl
          have p1 : atD [.int i, .int j, c, d] 1 = some (.int j) := rfl
          have p2 : atD [.int i, .int j, c, d] 2 = some c := rfl
          have p3 : atD [.int i, .int j, c, d] 3 = some d := rfl
          by_cases hij : i < j
          · cases hc2 : within c 1 99 <;> simp [hb, ha, hb', isRoad, p0, p1, p2, p3, hij, e1, g2, g3, ltI, hc2]
          · simp [hb, ha, hb', isRoad, p0, p1, hij, ltI]
    | _ => cases h
end Wk

namespace Wk
open PySem Em
theorem call_loop {c : Em.Ctx} (hfu : 1000 < c.fuel) {i kf : Nat} {σ : Em.Env} (hi : i < σ.length) {v : Val} {l : List D} (hv : Items v l) (hz : l.length ≤ 1000) (s : Sto) (es : List E) (us : D → List Val) (g : D → D)
    (he : ∀ x, x ∈ l → evEs c es ((Em.wipe σ [i]).set i (some (.d x))) s = .ok (us x) s) (ha : ∀ x, (us x).all argOk = true) (hf : ∀ x, x ∈ l → ∀ (F : List Cell), c.call kf (us x) [] F = .ok (.d (g x)) ⟨F, []⟩) :
    loopC (lcF c (.call kf .fr es []) (.slot i) none [i] σ) v c.fuel 0 s [] = .ok ((l.map g).map Val.d) s := by
  have hsm : sizeMax = 16777216 := rfl
  rw [lc_pure hv (fun p => some (g p)) (fun x hx => ?_) (by omega) (by omega), fm_some]
  have he := he x hx
  simp only [Em.wipe, List.set_set] at he
  have hf := hf x hx
  have hxx := ha x
  simp only [List.all_eq_true] at hxx
  simp [-argOk, lcF, hi, he, hf]
  rw [if_pos hxx]
  rfl
def shireS : Str := Str.ofString "shire"
def isSh : D → Bool
  | .str x => PyData.eqv (.str x) (.str shireS)
  | _ => false
def vOf : D → Int
  | .int i => i
  | _ => 0
def roadsOk (v : Int) : D → Bool
  | .tuple l => decide (l.length ≤ 30) && l.all (fun r => isRoad r v)
  | _ => false
def isShire (p : D) : Bool := match p with
  | .tuple [a, b, c] => isSh a && (within b 1 10 && roadsOk (vOf b) c)
  | _ => false
/-- a text at the head is a short one -/
def headOk : D → Bool
  | .tuple (.str x :: _) => SeqAt.shaped (.str x)
  | _ => true
theorem len3 {l : List D} (h : l.length = 3) : ∃ a b c, l = [a, b, c] := by
  match l, h with
  | [a, b, c], _ => exact ⟨a, b, c, rfl⟩
theorem not3 {l : List D} (h : l.length ≠ 3) : isShire (.tuple l) = false := by
  match l with
  | [] => rfl
  | [_] => rfl
  | [_, _] => rfl
  | [_, _, _] => exact absurd rfl h
  | _ :: _ :: _ :: _ :: _ => rfl
theorem ev6 (n : Nat) (p : D) (F : List Cell) (hs : headOk p = true) : evF prog (n + 4) 6 [.d p] [] F = .ok (.d (.bool (isShire p))) ⟨F, []⟩ := by
  rw [evF_step (d := d6) rfl rfl]
  have e2 : evF prog (n + 3) 2 [.d p, .d (.int 3)] [] F = .ok (.d (.bool (isTup p 3))) ⟨F, []⟩ := ev2 (n + 2) p 3 F
  have e1 := fun (p : D) (a b : Int) => ev1 (n + 1) p a b F
  have hf : prog.fuel = 1000000 := rfl
  have g0 : prog.glob 0 = some (.int 10) := rfl
  have g1 : prog.glob 1 = some (.int 30) := rfl
  cases h : isTup p 3 with
  | false =>
    have hr : isShire p = false := by
      cases p with
      | tuple l => exact not3 fun z => by simp [isTup, z] at h
      | _ => rfl
    simp [d6, e2, h, hr]
  | true =>
    cases p with
    | tuple l =>
      have h3 : l.length = 3 := by simpa [isTup] using h
      obtain ⟨a, b, c, rfl⟩ := len3 h3
      have p0 : atD [a, b, c] 0 = some a := rfl
      have p1 : atD [a, b, c] 1 = some b := rfl
      have p2 : atD [a, b, c] 2 = some c := rfl
      cases a with
      | str x =>
        have ho : okEq (.str x) (.str (Str.ofString "shire")) = true := by
          have h1 : SeqAt.shaped (.str x) = true := hs
          unfold okEq
          rw [h1]; decide +kernel
        cases hx : PyData.eqv (.str x) (.str (Str.ofString "shire")) with
        | false =>
          have hi : isShire (.tuple [.str x, b, c]) = false := by
            have : isSh (.str x) = false := hx
            simp [isShire, this]
          simp [d6, e2, h, p0, ho, hx, hi]
        | true =>
          have hS : isSh (.str x) = true := hx
          cases hb : within b 1 10 with
          | false =>
            have hi : isShire (.tuple [.str x, b, c]) = false := by simp [isShire, hb]
            simp [d6, e2, h, p0, p1, ho, hx, e1, g0, hb, hi]
          | true =>
            obtain ⟨v, rfl⟩ := within_int hb
            cases c with
            | tuple l =>
              by_cases hl : l.length ≤ 30
              · have hl2 : ¬ (30 < (l.length : Int)) := by omega
                have lp := fun (σ : Em.Env) (s : Sto) (h2 : 1 < σ.length) (he : ∀ x, x ∈ l → evEs ⟨evF prog (n + 3), prog.glob, prog.fuel⟩ [.v 1, .ix (.v 0) (.k (.int 1))] ((Em.wipe σ [1]).set 1 (some (.d x))) s = .ok [.d x, .d (.int v)] s) =>
                  call_loop (c := ⟨evF prog (n + 3), prog.glob, prog.fuel⟩) (kf := 5) (by show 1000 < prog.fuel; rw [hf]; omega) h2 (items_tup l) (by omega) s [.v 1, .ix (.v 0) (.k (.int 1))] (fun x => [.d x, .d (.int v)]) (fun x => .bool (isRoad x v)) he (fun _ => rfl) (fun x _ F => ev5 n x v F)
                simp [d6, e2, h, p0, p1, p2, ho, hx, e1, g0, g1, hb, hl2]
                rw [lp _ _ (by simp) (by simp [p1])]
                simp only [R.bd_ok, mkV_fr]
                have hbb : allB (l.map fun r => isRoad r v) = l.all (fun r => isRoad r v) := by unfold allB; rw [List.all_map]; rfl
                have e5 : (l.map fun x => PyData.bool (isRoad x v)) = (l.map fun r => isRoad r v).map .bool := by rw [List.map_map]; rfl
                rw [e5]
                generalize (l.map fun r => isRoad r v) = bs at hbb
                have hi : isShire (.tuple [.str x, .int v, .tuple l]) = l.all (fun r => isRoad r v) := by
                  unfold isShire roadsOk
                  simp only [hS, hb, vOf, decide_eq_true hl, Bool.true_and]
                rw [hi, ← hbb]
                simp
              · have hl2 : 30 < (l.length : Int) := by omega
                have hi : isShire (.tuple [.str x, .int v, .tuple l]) = false := by
                  unfold isShire roadsOk
                  simp only [decide_eq_false hl, Bool.false_and, Bool.and_false]
                simp [d6, e2, h, p0, p1, p2, ho, hx, e1, g0, g1, hb, hl2, hi]
            | _ =>
              simp [d6, e2, h, p0, p1, p2, ho, hx, e1, g0, hb, isShire, roadsOk]
      | _ => simp [d6, e2, h, p0, isShire, isSh]
    | _ => cases h
end Wk

namespace Wk
open PySem Em
theorem ev7 (n : Nat) (p : D) (F : List Cell) (hs : headOk p = true) (h : isShire p = true) : evF prog (n + 5) 7 [.d p] [] F = .ok (.d .none) ⟨F, []⟩ := by
  rw [evF_step (d := d7) rfl rfl]
  simp [d7, ev6 n p F hs, h]
end Wk
end

section
set_option Elab.async false
set_option linter.all false
set_option maxRecDepth 100000
set_option maxHeartbeats 400000
namespace Wk
open PySem Em
/-- a pot of draws -/
def Pot (c : Cell) : Prop := ∃ a b : Int, c = .li [.int a, .int b] ∧ 0 ≤ a ∧ 0 ≤ b ∧ b < 2147483648
theorem take_all {α : Type} (l : List α) (n : Nat) (h : l.length = n) : l.take n = l := by
  subst h; exact List.take_length
theorem ev32 (n j : Nat) (m : Int) (F : List Cell) (c : Cell) (hj : F[j]? = some c) (hp : Pot c) (h1 : 1 ≤ m) (h2 : m < 1073741824) :
    ∃ c' d, Pot c' ∧ 0 ≤ d ∧ d < m ∧ evF prog (n + 1) 32 [.fl j, .d (.int m)] [] F = .ok (.d (.int d)) ⟨F.set j c', []⟩ := by
  obtain ⟨a, b, rfl, ha, hb, hb2⟩ := hp
  obtain ⟨hjl, _⟩ := List.getElem?_eq_some_iff.mp hj
  have pl0 : place 2 0 = some 0 := rfl
  have pl1 : place 2 1 = some 1 := rfl
  have a0 : atD [.int a, .int b] 0 = some (.int a) := rfl
  have a1 : atD [.int a, .int b] 1 = some (.int b) := rfl
  have tk : ∀ c : Cell, (F.set j c).take F.length = F.set j c := fun c => take_all _ _ (by simp)
  by_cases hpos : 0 < a
  · refine ⟨.li [.int (a / m), .int b], a % m, ⟨a / m, b, rfl, Int.ediv_nonneg ha (by omega), hb, hb2⟩, Int.emod_nonneg _ (by omega), Int.emod_lt_of_pos _ (by omega), ?_⟩
    rw [evF_step (d := d32) rfl rfl]
    have h3 : 0 < m ∧ m < 1073741824 := ⟨by omega, h2⟩
    simp [d32, hj, a0, hpos, h3, putTx, setV, pl0, tk]
  · have q1 : 0 ≤ (b * 40692 + 10273) % 2147483587 := Int.emod_nonneg _ (by decide)
    have q2 : (b * 40692 + 10273) % 2147483587 < 2147483587 := Int.emod_lt_of_pos _ (by decide)
    have m1 : mulOk b 40692 = true := by unfold mulOk; simp
    have hset : ∀ c : Cell, (F.set j c)[j]? = some c := fun c => List.getElem?_set_self hjl
    refine ⟨.li [.int a, .int ((b * 40692 + 10273) % 2147483587)], ((b * 40692 + 10273) % 2147483587) * ((b * 40692 + 10273) % 2147483587) % 2147483549 / 17 % m, ⟨a, _, rfl, ha, q1, by omega⟩, Int.emod_nonneg _ (by omega), Int.emod_lt_of_pos _ (by omega), ?_⟩
    rw [evF_step (d := d32) rfl rfl]
    generalize hbb : (b * 40692 + 10273) % 2147483587 = b1 at q1 q2
    have m2 : mulOk b1 b1 = true := by unfold mulOk; simp; omega
    have a2 : atD [.int a, .int b1] 1 = some (.int b1) := rfl
    have h3 : 0 < m := by omega
    simp only [d32]
    simp [-List.getElem?_set_self, hj, a0, a1, hpos, h3, setV, pl1, tk, m1, hbb, hset, a2, m2]
end Wk

namespace Wk
open PySem Em
theorem atD_nat (l : List D) (k : Nat) (h : k < l.length) : atD l (k : Int) = some l[k] := by
  unfold atD place L2.ixN
  rw [if_pos (by omega), if_pos (by omega)]
  simp [h]
theorem go12 (cell : Int) (k : Nat) (hc : 0 ≤ cell) : Pot (.li [.int (if cell - 1000000000000000000 > 0 then cell - 1000000000000000000 else 0), .int ((cell % 2147483549 * 40014 + 7207 * k + 1193) % 2147483563 + 1)]) := by
  have q1 := Int.emod_nonneg (cell % 2147483549 * 40014 + 7207 * k + 1193) (b := 2147483563) (by decide)
  have q2 := Int.emod_lt_of_pos (cell % 2147483549 * 40014 + 7207 * k + 1193) (b := 2147483563) (by decide)
  refine ⟨_, _, rfl, ?_, by omega, by omega⟩
  split <;> omega
theorem m212 (i : Int) : mulOk (i % 2147483549) 40014 = true := by
  unfold mulOk; simp
theorem m312 (k : Nat) : mulOk 7207 k = true := by unfold mulOk; simp
theorem m412 (k : Nat) : mulOk 1549 k = true := by unfold mulOk; simp
/-- the value of the cell -/
theorem ev31b (n : Nat) (ns : List Int) (k : Nat) (F : List Cell) (hk2 : ¬ ((k : Int) < (ns.length : Int))) : evE ⟨evF prog n, prog.glob, prog.fuel⟩ (.ite (.op .lt .fr (.v 1) (.bi .len .fr [.v 0])) (.bi .abs .fr [.ix (.v 0) (.v 1)]) (.op .add .fr (.op .mul .fr (.k (.int 1549)) (.v 1)) (.k (.int 431)))) [some (.sc ns), some (.d (.int k)), none] ⟨F, []⟩ =
    .ok (.d (.int (1549 * k + 431))) ⟨F, []⟩ := by
  simp [hk2, m412]
theorem ev31c (n : Nat) (ns : List Int) (k : Nat) (F : List Cell) (cell : Int) : evE ⟨evF prog n, prog.glob, prog.fuel⟩ (.lst .fl [.bi .max2 .fr [.k (.int 0), .op .sub .fr (.v 2) (.pow 10 18)], .op .add .fr (.op .mod .fr (.bi .int .fr [.op .add .fr (.op .add .fr (.op .mul .fr (.op .mod .fr (.bi .int .fr [.v 2]) (.k (.int 2147483549))) (.k (.int 40014))) (.op .mul .fr (.k (.int 7207)) (.v 1))) (.k (.int 1193))]) (.k (.int 2147483563))) (.k (.int 1))]) [some (.sc ns), some (.d (.int k)), some (.d (.int cell))] ⟨F, []⟩ =
    .ok (.fl F.length) ⟨F ++ [.li [.int (if cell - 1000000000000000000 > 0 then cell - 1000000000000000000 else 0), .int ((cell % 2147483549 * 40014 + 7207 * k + 1193) % 2147483563 + 1)]], []⟩ := by
  simp [m212, m312, mkV]
theorem ev31a (n : Nat) (ns : List Int) (k : Nat) (F : List Cell) (hk : k < ns.length) : ∃ x : Int, 0 ≤ x ∧ evE ⟨evF prog n, prog.glob, prog.fuel⟩ (.ite (.op .lt .fr (.v 1) (.bi .len .fr [.v 0])) (.bi .abs .fr [.ix (.v 0) (.v 1)]) (.op .add .fr (.op .mul .fr (.k (.int 1549)) (.v 1)) (.k (.int 431)))) [some (.sc ns), some (.d (.int k)), none] ⟨F, []⟩ =
    .ok (.d (.int x)) ⟨F, []⟩ := by
  have hl : k < (ns.map PyData.int).length := by rw [List.length_map]; exact hk
  have e := atD_nat _ k hl
  rw [List.getElem_map] at e
  generalize ns[k] = x at e
  have hk2 : (k : Int) < (ns.length : Int) := by omega
  exact ⟨if x < 0 then -x else x, by split <;> omega, by simp [hk, e]⟩
theorem ev31d (n : Nat) (ns : List Int) (k : Nat) (F : List Cell) : ∃ x : Int, 0 ≤ x ∧ evE ⟨evF prog n, prog.glob, prog.fuel⟩ (.ite (.op .lt .fr (.v 1) (.bi .len .fr [.v 0])) (.bi .abs .fr [.ix (.v 0) (.v 1)]) (.op .add .fr (.op .mul .fr (.k (.int 1549)) (.v 1)) (.k (.int 431)))) [some (.sc ns), some (.d (.int k)), none] ⟨F, []⟩ =
    .ok (.d (.int x)) ⟨F, []⟩ := by
  by_cases h : k < ns.length
  · exact ev31a n ns k F h
  · exact ⟨1549 * k + 431, by omega, ev31b n ns k F (by omega)⟩
theorem ev31 (n : Nat) (ns : List Int) (k : Nat) (F : List Cell) : ∃ c, Pot c ∧ evF prog (n + 1) 31 [.sc ns, .d (.int k)] [] F = .ok (.fl F.length) ⟨F ++ [c], []⟩ := by
  obtain ⟨x, hx, e1⟩ := ev31d n ns k F
  refine ⟨_, go12 x k hx, ?_⟩
  rw [evF_step (d := d31) rfl rfl]
  have e2 := ev31c n ns k F x
  have s0 : Em.start d31 [.sc ns, .d (.int k)] = [some (.sc ns), some (.d (.int k)), none] := rfl
  have t1 : putVal (.slot 2) (.d (.int x)) [some (.sc ns), some (.d (.int k)), none] = some [some (.sc ns), some (.d (.int k)), some (.d (.int x))] := by simp
  rw [s0]
  show R.bd (evSs ⟨evF prog n, prog.glob, prog.fuel⟩ F.length [_, _] _ _) _ = _
  simp only [d31, ess_cons, ess_nil, es_asg, es_ret, e1, R.bd_ok, t1, e2]
  simp
end Wk

namespace Wk
open PySem Em
theorem called_F {m : Mode} {F F' : List Cell} {p : D} : called m ⟨F, []⟩ (.ok (.d p) ⟨F', []⟩) = .ok (.d p) ⟨F', []⟩ := rfl
/-- a road as drawn, a shire as drawn -/
def DRoad (v : Int) (p : D) : Prop := ∃ a b x y : Int, p = .tuple [.int a, .int b, .int x, .int y] ∧ 0 ≤ a ∧ a < b ∧ b < v ∧ 1 ≤ x ∧ x ≤ 9 ∧ 1 ≤ y ∧ y ≤ 4
def DShire (v r : Nat) (p : D) : Prop := ∃ (m : Int) (rs : List D), p = .tuple [.str shireS, .int m, .tuple rs] ∧ 1 ≤ m ∧ m ≤ v ∧ rs.length ≤ r ∧ ∀ q ∈ rs, DRoad m q
theorem droad_is {v : Int} {p : D} (h : DRoad v p) : isRoad p v = true := by
  obtain ⟨a, b, x, y, rfl, h1, h2, h3, h4, h5, h6, h7⟩ := h
  have e1 : within (.int a) 0 (v - 1) = true := by simp [within]; omega
  have e2 : within (.int b) 0 (v - 1) = true := by simp [within]; omega
  have e3 : within (.int x) 1 99 = true := by simp [within]; omega
  have e4 : within (.int y) 1 9 = true := by simp [within]; omega
  simp [isRoad, e1, e2, e3, e4, ltI, h2]
theorem dshire_is {v r : Nat} (hv : v ≤ 10) (hr : r ≤ 30) {p : D} (h : DShire v r p) : isShire p = true := by
  obtain ⟨m, rs, rfl, h1, h2, h3, h4⟩ := h
  have e0 : isSh (.str shireS) = true := by decide +kernel
  have e1 : within (.int m) 1 10 = true := by simp [within]; omega
  have e2 : rs.all (fun q => isRoad q m) = true := List.all_eq_true.mpr fun q hq => droad_is (h4 q hq)
  have e3 : decide (rs.length ≤ 30) = true := decide_eq_true (by omega)
  unfold isShire roadsOk
  simp only [e0, e1, vOf, e2, e3, Bool.and_true]
theorem dshire_head {v r : Nat} {p : D} (h : DShire v r p) : headOk p = true := by
  obtain ⟨m, rs, rfl, _⟩ := h
  show SeqAt.shaped (.str shireS) = true
  decide +kernel
end Wk


namespace Wk
open PySem Em
/-- a draw as an expression: the pot in slot 0, among the first lists of the store -/
theorem draw_ev (n j : Nat) {c : Cell} {G T : List Cell} (hj : G[j]? = some c) (hp : Pot c) {m : Int} (h1 : 1 ≤ m) (h2 : m < 1073741824) {σ : Em.Env} (h0 : σ[0]? = some (some (.fl j))) {em : E}
    (he : ∀ s : Sto, evE ⟨evF prog (n + 1), prog.glob, prog.fuel⟩ em σ s = .ok (.d (.int m)) s) :
    ∃ c' d, Pot c' ∧ 0 ≤ d ∧ d < m ∧ evE ⟨evF prog (n + 1), prog.glob, prog.fuel⟩ (.call 32 .fr [.v 0, em] []) σ ⟨G ++ T, []⟩ = .ok (.d (.int d)) ⟨G.set j c' ++ T, []⟩ := by
  obtain ⟨hjl, _⟩ := List.getElem?_eq_some_iff.mp hj
  have hj2 : (G ++ T)[j]? = some c := by rw [List.getElem?_append_left hjl]; exact hj
  obtain ⟨c', d, hc, d1, d2, e⟩ := ev32 n j m (G ++ T) c hj2 hp h1 h2
  rw [List.set_append_left _ _ hjl] at e
  refine ⟨c', d, hc, d1, d2, ?_⟩
  simp [h0, he, e, called_F]
def envS (j : Nat) (v r : Int) (t : Option Val) (m : Int) (i : Nat) (o1 o2 : Option Val) : Em.Env := [some (.fl j), some (.d (.int v)), some (.d (.int r)), t, some (.d (.int m)), some (.fl i), o1, o2]
def body15 : List S := [.asg (.slot 6) (.call 32 .fr [.v 0, .v 4] []), .asg (.slot 7) (.bi .int .fr [.op .mod .fr (.op .add .fr (.op .add .fr (.v 6) (.k (.int 1))) (.call 32 .fr [.v 0, .op .sub .fr (.v 4) (.k (.int 1))] [])) (.v 4)]),
  .expr (.mt .append (.v 5) [.tup [.bi .min2 .fr [.v 6, .v 7], .bi .max2 .fr [.v 6, .v 7], .op .add .fr (.k (.int 1)) (.call 32 .fr [.v 0, .k (.int 9)] []), .op .add .fr (.k (.int 1)) (.call 32 .fr [.v 0, .k (.int 4)] [])]])]
theorem turn15 (n j n0 : Nat) {c : Cell} {G : List Cell} (hj : G[j]? = some c) (hp : Pot c) {v r m : Int} (hm : 2 ≤ m) (hm2 : m ≤ 1000) (t o1 o2 : Option Val) (rs : List D) (hz : rs.length ≤ 1000) :
    ∃ c' p o1' o2', Pot c' ∧ DRoad m p ∧ evSs ⟨evF prog (n + 1), prog.glob, prog.fuel⟩ n0 body15 (envS j v r t m G.length o1 o2) ⟨G ++ [.li rs], []⟩ = .ok (.nx, envS j v r t m G.length o1' o2') ⟨G.set j c' ++ [.li (rs ++ [p])], []⟩ := by
  obtain ⟨hjl, _⟩ := List.getElem?_eq_some_iff.mp hj
  have at_ : ∀ (c : Cell), (G.set j c)[j]? = some c := fun c => List.getElem?_set_self hjl
  obtain ⟨c1, d1, p1, a1, b1, e1⟩ := draw_ev n j (T := [.li rs]) hj hp (m := m) (by omega) (by omega) (σ := envS j v r t m G.length o1 o2) rfl (em := .v 4) (fun s => by simp [envS])
  obtain ⟨c2, d2, p2, a2, b2, e2⟩ := draw_ev n j (G := G.set j c1) (T := [.li rs]) (at_ c1) p1 (m := m - 1) (by omega) (by omega) (σ := envS j v r t m G.length (some (.d (.int d1))) o2) rfl (em := .op .sub .fr (.v 4) (.k (.int 1))) (fun s => by simp [envS])
  rw [List.set_set] at e2
  obtain ⟨c3, d3, p3, a3, b3, e3⟩ := draw_ev n j (G := G.set j c2) (T := [.li rs]) (at_ c2) p2 (m := 9) (by omega) (by omega) (σ := envS j v r t m G.length (some (.d (.int d1))) (some (.d (.int ((d1 + 1 + d2) % m))))) rfl (em := .k (.int 9)) (fun s => by simp)
  rw [List.set_set] at e3
  obtain ⟨c4, d4, p4, a4, b4, e4⟩ := draw_ev n j (G := G.set j c3) (T := [.li rs]) (at_ c3) p3 (m := 4) (by omega) (by omega) (σ := envS j v r t m G.length (some (.d (.int d1))) (some (.d (.int ((d1 + 1 + d2) % m))))) rfl (em := .k (.int 4)) (fun s => by simp)
  rw [List.set_set] at e4
  have q1 := Int.emod_nonneg (d1 + 1 + d2) (b := m) (by omega)
  have q2 := Int.emod_lt_of_pos (d1 + 1 + d2) (b := m) (by omega)
  have q3 : (d1 + 1 + d2) % m ≠ d1 := by
    intro z
    by_cases h : d1 + 1 + d2 < m
    · rw [Int.emod_eq_of_lt (by omega) h] at z; omega
    · have : (d1 + 1 + d2) % m = d1 + 1 + d2 - m := by
        rw [← Int.sub_emod_right, Int.emod_eq_of_lt (by omega) (by omega)]
      omega
  generalize hx : (d1 + 1 + d2) % m = x at *
  refine ⟨c4, .tuple [.int (if x < d1 then x else d1), .int (if x > d1 then x else d1), .int (1 + d3), .int (1 + d4)], some (.d (.int d1)), some (.d (.int x)), p4, ⟨_, _, _, _, rfl, ?_, ?_, ?_, by omega, by omega, by omega, by omega⟩, ?_⟩
  · split <;> omega
  · split <;> split <;> omega
  · split <;> omega
  · have mp : 0 < m := by omega
    have s6 : ∀ (d : D), putVal (.slot 6) (.d d) (envS j v r t m G.length o1 o2) = some (envS j v r t m G.length (some (.d d)) o2) := fun d => by simp [envS]
    have s7 : ∀ (u : Val) (d : D), putVal (.slot 7) (.d d) (envS j v r t m G.length (some u) o2) = some (envS j v r t m G.length (some u) (some (.d d))) := fun u d => by simp [envS]
    have v4 : ∀ (a b : Option Val), (envS j v r t m G.length a b)[4]? = some (some (.d (.int m))) := fun _ _ => rfl
    have v5 : ∀ (a b : Option Val), (envS j v r t m G.length a b)[5]? = some (some (.fl G.length)) := fun _ _ => rfl
    have v6 : ∀ (a b : Option Val), (envS j v r t m G.length a b)[6]? = some a := fun _ _ => rfl
    have v7 : ∀ (a b : Option Val), (envS j v r t m G.length a b)[7]? = some b := fun _ _ => rfl
    have f2 : evE ⟨evF prog (n + 1), prog.glob, prog.fuel⟩ (.bi .int .fr [.op .mod .fr (.op .add .fr (.op .add .fr (.v 6) (.k (.int 1))) (.call 32 .fr [.v 0, .op .sub .fr (.v 4) (.k (.int 1))] [])) (.v 4)]) (envS j v r t m G.length (some (.d (.int d1))) o2) ⟨G.set j c1 ++ [.li rs], []⟩ = .ok (.d (.int x)) ⟨G.set j c2 ++ [.li rs], []⟩ := by
      simp only [ev_bi, evs_cons, evs_nil, ev_op, ev_v, ev_k, v4, v6, e2, R.bd_ok, op2S_dd, op_addI]
      simp [mp, hx]
    have gl : (G.set j c4 ++ [Cell.li rs])[G.length]? = some (.li rs) := by rw [List.getElem?_append_right (by simp)]; simp
    have gs : ∀ q, (G.set j c4 ++ [Cell.li rs]).set G.length q = G.set j c4 ++ [q] := fun q => by rw [List.set_append_right _ _ (by simp)]; simp
    have hsz : rs.length < sizeMax := by show rs.length < 16777216; omega
    unfold body15
    simp only [ess_cons, ess_nil, es_asg, es_expr, e1, R.bd_ok, s6, f2, s7]
    have fmin : ∀ s : Sto, evE ⟨evF prog (n + 1), prog.glob, prog.fuel⟩ (.bi .min2 .fr [.v 6, .v 7]) (envS j v r t m G.length (some (.d (.int d1))) (some (.d (.int x)))) s = .ok (.d (.int (if x < d1 then x else d1))) s := fun s => by simp [envS]
    have fmax : ∀ s : Sto, evE ⟨evF prog (n + 1), prog.glob, prog.fuel⟩ (.bi .max2 .fr [.v 6, .v 7]) (envS j v r t m G.length (some (.d (.int d1))) (some (.d (.int x)))) s = .ok (.d (.int (if x > d1 then x else d1))) s := fun s => by simp [envS]
    have f5 : ∀ s : Sto, evE ⟨evF prog (n + 1), prog.glob, prog.fuel⟩ (.v 5) (envS j v r t m G.length (some (.d (.int d1))) (some (.d (.int x)))) s = .ok (.fl G.length) s := fun s => by simp [envS]
    simp only [R.bd_ok, ev_mt, ev_tup, evs_cons, evs_nil, f5, fmin, fmax, ev_op, ev_k, e3, e4, op2S_dd, op_addI]
    simp [mtV, gl, gs, hsz]
end Wk

namespace Wk
open PySem Em
def I15 (j : Nat) (v r m : Int) (F : List Cell) (i : Nat) (σ : Em.Env) (s : Sto) : Prop := ∃ c rs o1 o2 t, Pot c ∧ rs.length = i ∧ (∀ q ∈ rs, DRoad m q) ∧ σ = envS j v r t m F.length o1 o2 ∧ s = ⟨F.set j c ++ [.li rs], []⟩
theorem loop15 (n j n0 : Nat) {c : Cell} {F : List Cell} (hj : F[j]? = some c) {v r m : Int} (hm : 2 ≤ m) (hm2 : m ≤ 1000) (l : List D) (hl : l.length ≤ 1000) (σ : Em.Env) (s : Sto) (h : I15 j v r m F 0 σ s) :
    ∃ σ' s', loopS (fun σ1 x s2 => match putVal (.slot 3) x σ1 with
      | some σ2 => evSs ⟨evF prog (n + 1), prog.glob, prog.fuel⟩ n0 body15 σ2 s2
      | none => .bad) (.d (.list l)) prog.fuel 0 σ s = .ok (.nx, σ') s' ∧ I15 j v r m F l.length σ' s' := by
  obtain ⟨hjl, _⟩ := List.getElem?_eq_some_iff.mp hj
  have hf : prog.fuel = 1000000 := rfl
  refine loopS_inv (items_list l) (fun i σ s => i ≤ l.length ∧ I15 j v r m F i σ s) (fun i x σ s hx hI => ?_) l.length prog.fuel 0 σ s (by omega) (by omega) ⟨Nat.zero_le _, h⟩ |>.imp fun σ' => Exists.imp fun s' => And.imp id And.right
  obtain ⟨hi, c1, rs, o1, o2, t, hp, hr, hq, rfl, rfl⟩ := hI
  have hil := (List.getElem?_eq_some_iff.mp hx).1
  have hj1 : (F.set j c1)[j]? = some c1 := List.getElem?_set_self hjl
  obtain ⟨c2, p, o1', o2', hp2, hd, e⟩ := turn15 n j n0 hj1 hp (v := v) (r := r) hm hm2 (some (.d x)) o1 o2 rs (by omega)
  rw [List.length_set, List.set_set] at e
  refine ⟨_, _, ?_, by omega, c2, rs ++ [p], o1', o2', some (.d x), hp2, by rw [List.length_append, hr]; rfl, fun q hq' => ?_, rfl, rfl⟩
  · have s3 : putVal (.slot 3) (.d x) (envS j v r t m F.length o1 o2) = some (envS j v r (some (.d x)) m F.length o1 o2) := by simp [envS]
    rw [s3]
    exact e
  · rcases List.mem_append.mp hq' with h | h
    · exact hq q h
    · rw [List.mem_singleton.mp h]; exact hd
end Wk

namespace Wk
open PySem Em
theorem ev33 (n j : Nat) {c : Cell} {F : List Cell} (hj : F[j]? = some c) (hp : Pot c) (v r : Nat) (hv : 1 ≤ v) (hv2 : v ≤ 10) (hr : r ≤ 30) :
    ∃ c' p, Pot c' ∧ DShire v r p ∧ evF prog (n + 2) 33 [.fl j, .d (.int v), .d (.int r)] [] F = .ok (.d p) ⟨F.set j c', []⟩ := by
  obtain ⟨hjl, _⟩ := List.getElem?_eq_some_iff.mp hj
  have s0 : Em.start d33 [.fl j, .d (.int v), .d (.int r)] = [some (.fl j), some (.d (.int v)), some (.d (.int r)), none, none, none, none, none] := rfl
  obtain ⟨c1, d1, p1, a1, b1, e1⟩ := draw_ev n j (T := []) hj hp (m := (v : Int)) (by omega) (by omega) (σ := [some (.fl j), some (.d (.int v)), some (.d (.int r)), none, none, none, none, none]) rfl (em := .v 1) (fun s => by simp)
  rw [List.append_nil, List.append_nil] at e1
  have hj1 : (F.set j c1)[j]? = some c1 := List.getElem?_set_self hjl
  obtain ⟨c2, d2, p2, a2, b2, e2⟩ := draw_ev n j (G := F.set j c1) (T := [.li []]) hj1 p1 (m := (r : Int) + 1) (by omega) (by omega) (σ := envS j v r none (1 + d1) F.length none none) rfl (em := .op .add .fr (.v 2) (.k (.int 1))) (fun s => by simp [envS])
  rw [List.set_set] at e2
  -- how many turns
  have cnt : ∃ c3 k, Pot c3 ∧ (k : Nat) ≤ r ∧ (k ≠ 0 → 1 < 1 + d1) ∧ evE ⟨evF prog (n + 1), prog.glob, prog.fuel⟩ (.bi .range1 .fr [.ite (.op .gt .fr (.v 4) (.k (.int 1))) (.call 32 .fr [.v 0, .op .add .fr (.v 2) (.k (.int 1))] []) (.k (.int 0))]) (envS j v r none (1 + d1) F.length none none) ⟨F.set j c1 ++ [.li []], []⟩ =
      .ok (.d (.list ((List.range k).map fun (i : Nat) => .int (0 + (i : Int))))) ⟨F.set j c3 ++ [.li []], []⟩ := by
    have v4 : evE ⟨evF prog (n + 1), prog.glob, prog.fuel⟩ (.v 4) (envS j v r none (1 + d1) F.length none none) ⟨F.set j c1 ++ [.li []], []⟩ = .ok (.d (.int (1 + d1))) ⟨F.set j c1 ++ [.li []], []⟩ := by simp [envS]
    have hsm : (sizeMax : Int) = 16777216 := rfl
    by_cases h : 1 < 1 + d1
    · have hz : -(2 ^ 62) ≤ d2 ∧ d2 < 2 ^ 62 ∧ d2 ≤ sizeMax := ⟨by omega, by omega, by omega⟩
      refine ⟨c2, d2.toNat, p2, by omega, fun _ => h, ?_⟩
      simp only [ev_bi, evs_cons, evs_nil, ev_ite, ev_op, ev_k, v4, R.bd_ok, op2S_dd, op_gtI, tst, decide_eq_true h, if_true, e2]
      simp only [biS, stillB, snaps, Sto.see, Sto.capt, Sto.snapF, deepB, bi, biL, biL1, if_pos hz, mkL, Bool.false_eq_true, if_false]
    · refine ⟨c1, 0, p1, by omega, fun z => absurd rfl z, ?_⟩
      simp only [ev_bi, evs_cons, evs_nil, ev_ite, ev_op, ev_k, v4, R.bd_ok, op2S_dd, op_gtI, tst, decide_eq_false h, Bool.false_eq_true, if_false]
      rfl
  obtain ⟨c3, k, p3, hk, hk1, e3⟩ := cnt
  have hf : prog.fuel = 1000000 := rfl
  have I0 : I15 j v r (1 + d1) F 0 (envS j v r none (1 + d1) F.length none none) ⟨F.set j c3 ++ [.li []], []⟩ := ⟨c3, [], none, none, none, p3, rfl, (fun q h => nomatch h), rfl, rfl⟩
  have lp : ∃ σ' s', loopS (fun σ1 x s2 => match putVal (.slot 3) x σ1 with
      | some σ2 => evSs ⟨evF prog (n + 1), prog.glob, prog.fuel⟩ F.length body15 σ2 s2
      | none => .bad) (.d (.list ((List.range k).map fun (i : Nat) => .int (0 + (i : Int))))) prog.fuel 0 (envS j v r none (1 + d1) F.length none none) ⟨F.set j c3 ++ [.li []], []⟩ = .ok (.nx, σ') s' ∧ I15 j v r (1 + d1) F k σ' s' := by
    by_cases h0 : k = 0
    · subst h0
      exact ⟨_, _, rfl, I0⟩
    · have := loop15 n j F.length hj (v := v) (r := r) (m := 1 + d1) (by have := hk1 h0; omega) (by omega) ((List.range k).map fun (i : Nat) => .int (0 + (i : Int))) (by rw [List.length_map, List.length_range]; omega) _ _ I0
      rw [List.length_map, List.length_range] at this
      exact this
  obtain ⟨σ', s', e4, c4, rs, o1, o2, t, p4, hrs, hq, rfl, rfl⟩ := lp
  refine ⟨c4, .tuple [.str shireS, .int (1 + d1), .tuple rs], p4, ⟨1 + d1, rs, rfl, by omega, by omega, by omega, hq⟩, ?_⟩
  rw [evF_step (d := d33) rfl rfl, s0]
  have body : d33.body = [.asgs [4, 5] [.op .add .fr (.k (.int 1)) (.call 32 .fr [.v 0, .v 1] []), .lst .fl []], .for_ (.slot 3) (.bi .range1 .fr [.ite (.op .gt .fr (.v 4) (.k (.int 1))) (.call 32 .fr [.v 0, .op .add .fr (.v 2) (.k (.int 1))] []) (.k (.int 0))]) body15,
    .ret (.tup [.k (.str shireS), .v 4, .bi .tuple .fr [.v 5]])] := rfl
  have f1 : evS ⟨evF prog (n + 1), prog.glob, prog.fuel⟩ F.length (.asgs [4, 5] [.op .add .fr (.k (.int 1)) (.call 32 .fr [.v 0, .v 1] []), .lst .fl []]) [some (.fl j), some (.d (.int v)), some (.d (.int r)), none, none, none, none, none] ⟨F, []⟩ = .ok (.nx, envS j v r none (1 + d1) F.length none none) ⟨F.set j c1 ++ [.li []], []⟩ := by
    simp only [es_asgs, evs_cons, evs_nil, ev_op, ev_k, e1, R.bd_ok, op2S_dd, op_addI, ev_lst]
    simp [mkV, putSlots, envS]
  have f2 : evS ⟨evF prog (n + 1), prog.glob, prog.fuel⟩ F.length (.for_ (.slot 3) (.bi .range1 .fr [.ite (.op .gt .fr (.v 4) (.k (.int 1))) (.call 32 .fr [.v 0, .op .add .fr (.v 2) (.k (.int 1))] []) (.k (.int 0))]) body15) (envS j v r none (1 + d1) F.length none none) ⟨F.set j c1 ++ [.li []], []⟩ = .ok (.nx, envS j v r t (1 + d1) F.length o1 o2) ⟨F.set j c4 ++ [.li rs], []⟩ := by
    simp only [es_for, e3, R.bd_ok]
    exact e4
  have f3 : evS ⟨evF prog (n + 1), prog.glob, prog.fuel⟩ F.length (.ret (.tup [.k (.str shireS), .v 4, .bi .tuple .fr [.v 5]])) (envS j v r t (1 + d1) F.length o1 o2) ⟨F.set j c4 ++ [.li rs], []⟩ = .ok (.rt (.val (.d (.tuple [.str shireS, .int (1 + d1), .tuple rs]))), envS j v r t (1 + d1) F.length o1 o2) ⟨F.set j c4 ++ [.li rs], []⟩ := by
    have gl : (F.set j c4 ++ [Cell.li rs])[F.length]? = some (.li rs) := by rw [List.getElem?_append_right (by simp)]; simp
    simp [envS, gl]
  have tk : (F.set j c4 ++ [Cell.li rs]).take F.length = F.set j c4 := by rw [List.take_append_of_le_length (by simp)]; exact take_all _ _ (by simp)
  rw [body]
  simp only [ess_cons, ess_nil, f1, R.bd_ok, f2, f3, Em.finish, tk]
end Wk

namespace Em
open PySem
/-- a comprehension that may change the store -/
theorem loopC_inv {f : Val → Sto → R (Option Val)} {v : Val} {l : List D} (hn : Items v l) (I : Nat → Sto → List Val → Prop)
    (step : ∀ i x s acc, l[i]? = some x → I i s acc → ∃ o s', f (.d x) s = .ok o s' ∧ acc.length < sizeMax ∧ I (i + 1) s' (match o with | some y => acc ++ [y] | none => acc)) :
    ∀ (k fuel i : Nat) (s : Sto) (acc : List Val), i + k = l.length → k < fuel → I i s acc → ∃ s' vs, loopC f v fuel i s acc = .ok vs s' ∧ I l.length s' vs
  | 0, fuel + 1, i, s, acc, hk, _, h => by
    have e : l[i]? = none := List.getElem?_eq_none_iff.mpr (by omega)
    refine ⟨s, acc, ?_, by rw [← hk]; exact h⟩
    rw [loopC, hn s i, e]
    rfl
  | k + 1, fuel + 1, i, s, acc, hk, hfu, h => by
    have hi : i < l.length := by omega
    obtain ⟨o, s1, e1, hz, h1⟩ := step i _ s acc (List.getElem?_eq_getElem hi) h
    rw [loopC, hn s i, List.getElem?_eq_getElem hi]
    simp only [Option.map_some]
    rw [e1]
    cases o with
    | none => exact loopC_inv hn I step k fuel (i + 1) s1 acc (by omega) (by omega) h1
    | some y =>
      simp only [R.bd_ok, if_pos hz]
      exact loopC_inv hn I step k fuel (i + 1) s1 (acc ++ [y]) (by omega) (by omega) h1
  | k, 0, _, _, _, _, h, _ => absurd h (by omega)
end Em
namespace Wk
open PySem Em
end Wk

namespace Wk
open PySem Em
theorem range_evI {c : Em.Ctx} {σ : Em.Env} {s : Sto} {em : E} {i : Int} (h0 : 0 ≤ i) (hk : i ≤ 1000) (he : evE c em σ s = .ok (.d (.int i)) s) : evE c (.bi .range1 .fr [em]) σ s = .ok (.d (.list ((List.range i.toNat).map fun (i : Nat) => .int (0 + (i : Int))))) s := by
  have hsm : (sizeMax : Int) = 16777216 := rfl
  have hz : -(2 ^ 62) ≤ i ∧ i < 2 ^ 62 ∧ i ≤ sizeMax := ⟨by omega, by omega, by omega⟩
  simp only [ev_bi, evs_cons, evs_nil, he, R.bd_ok]
  simp only [biS, stillB, snaps, Sto.see, Sto.capt, Sto.snapF, deepB, bi, biL, biL1, if_pos hz, mkL, Bool.false_eq_true, if_false]
theorem range_ev {c : Em.Ctx} {σ : Em.Env} {s : Sto} {em : E} {k : Nat} (hk : k ≤ 1000) (he : evE c em σ s = .ok (.d (.int k)) s) : evE c (.bi .range1 .fr [em]) σ s = .ok (.d (.list ((List.range k).map fun (i : Nat) => .int (0 + (i : Int))))) s :=
  range_evI (i := (k : Int)) (Int.natCast_nonneg k) (by exact Int.ofNat_le.mpr hk) he
end Wk
end

section
set_option Elab.async false
set_option linter.all false
set_option maxRecDepth 100000
set_option maxHeartbeats 400000
/-! KDa: data of small ints and texts; how heavy they are. -/
namespace Nd
open PySem
mutual
def nice : PyData → Bool
  | .none => true
  | .bool _ => true
  | .int i => decide (i.natAbs < 1000000)
  | .str x => PyData.strOk x
  | .list l => niceAll l
  | .tuple l => niceAll l
  | .dict kvs => kvs.isEmpty
def niceAll : List PyData → Bool
  | [] => true
  | x :: r => nice x && niceAll r
end
theorem niceAll_iff : ∀ {l : List PyData}, niceAll l = true ↔ ∀ x ∈ l, nice x = true
  | [] => by simp [niceAll]
  | x :: r => by simp only [niceAll, Bool.and_eq_true, niceAll_iff (l := r), List.mem_cons, forall_eq_or_imp]
theorem toString_short {i : Int} (h : i.natAbs < 1000000) : (PyData.shown (.int i)).length ≤ 13 := PyData.shown_int_le (by omega)
theorem log2_short {i : Int} (h : i.natAbs < 1000000) : i.natAbs.log2 < 1920 := by
  by_cases h0 : i.natAbs = 0
  · rw [h0]; decide
  · have := (Nat.log2_lt h0 (k := 20)).mpr (by omega)
    omega
mutual
theorem nice_leaves : ∀ {p : PyData}, nice p = true → p.leavesShort 13 = true
  | .none, _ => rfl
  | .bool _, _ => rfl
  | .int i, h => by
    simp only [nice, decide_eq_true_eq] at h
    simp only [PyData.leavesShort, decide_eq_true_eq]
    exact toString_short h
  | .str x, h => PyData.leavesShort_of_canLay0 13 (.str x) (by simpa only [nice, PyData.canLay0] using h) rfl
  | .list l, h => by
    simp only [PyData.leavesShort]
    exact niceAll_leaves (by simpa only [nice] using h)
  | .tuple l, h => by
    simp only [PyData.leavesShort]
    exact niceAll_leaves (by simpa only [nice] using h)
  | .dict kvs, h => by
    have : kvs = [] := by simpa [nice] using h
    subst this; rfl
theorem niceAll_leaves : ∀ {l : List PyData}, niceAll l = true → PyData.leavesShortAll 13 l = true
  | [], _ => rfl
  | x :: r, h => by
    have h' : nice x = true ∧ niceAll r = true := by simpa only [niceAll, Bool.and_eq_true] using h
    simp only [PyData.leavesShortAll, nice_leaves h'.1, niceAll_leaves h'.2, Bool.and_self]
end
mutual
theorem nice_showable : ∀ {p : PyData}, nice p = true → p.showable = true
  | .none, _ => rfl
  | .bool _, _ => rfl
  | .int i, h => by
    simp only [nice, decide_eq_true_eq] at h
    simp only [PyData.showable, decide_eq_true_eq]
    exact log2_short h
  | .str x, h => rfl
  | .list l, h => by
    simp only [PyData.showable]
    exact niceAll_showable (by simpa only [nice] using h)
  | .tuple l, h => by
    simp only [PyData.showable]
    exact niceAll_showable (by simpa only [nice] using h)
  | .dict kvs, h => by
    have : kvs = [] := by simpa [nice] using h
    subst this; rfl
theorem niceAll_showable : ∀ {l : List PyData}, niceAll l = true → PyData.showableAll l = true
  | [], _ => rfl
  | x :: r, h => by
    have h' : nice x = true ∧ niceAll r = true := by simpa only [niceAll, Bool.and_eq_true] using h
    simp only [PyData.showableAll, nice_showable h'.1, niceAll_showable h'.2, Bool.and_self]
end
theorem nice_shown {p : PyData} (h : nice p = true) (hw : p.weight ≤ 1000000) : p.shown.length ≤ 16777216 := by
  have h1 := PyData.shown_le 13 (by decide) p (nice_leaves h)
  omega
theorem int_weight {i : Int} {k : Nat} (h : i.natAbs < 2 ^ k) : (PyData.int i).weight ≤ k := by
  simp only [PyData.weight]
  by_cases hi : i = 0
  · subst hi; exact Nat.zero_le _
  · have hb : (i == 0) = false := by simpa using hi
    rw [hb]
    simp only [Bool.false_eq_true, if_false]
    have h0 : i.natAbs ≠ 0 := by omega
    have := (Nat.log2_lt h0).mpr h
    omega
theorem weightAll_append : ∀ (l m : List PyData), PyData.weightAll (l ++ m) = PyData.weightAll l + PyData.weightAll m
  | [], m => by simp [PyData.weightAll]
  | x :: r, m => by simp only [List.cons_append, PyData.weightAll, weightAll_append r m]; omega
theorem weightAll_split (l : List PyData) (k : Nat) : PyData.weightAll (l.take k) + PyData.weightAll (l.drop k) = PyData.weightAll l := by
  rw [← weightAll_append, List.take_append_drop]
theorem weightAll_le {l m : List PyData} (h : l.Sublist m) : PyData.weightAll l ≤ PyData.weightAll m := by
  induction h with
  | slnil => exact Nat.le_refl _
  | cons a _ ih => simp only [PyData.weightAll]; omega
  | cons_cons a _ ih => simp only [PyData.weightAll]; omega
theorem weight_mem {l : List PyData} {x : PyData} (h : x ∈ l) : x.weight + 1 ≤ PyData.weightAll l := by
  induction l with
  | nil => cases h
  | cons a r ih =>
    simp only [PyData.weightAll]
    rcases List.mem_cons.mp h with h | h
    · subst h; omega
    · have := ih h; omega
theorem length_weight (l : List PyData) : l.length ≤ PyData.weightAll l := by
  induction l with
  | nil => exact Nat.le_refl _
  | cons a r ih => simp only [PyData.weightAll, List.length_cons]; omega
theorem weightAll_const {l : List PyData} {k : Nat} (h : ∀ x ∈ l, x.weight ≤ k) : PyData.weightAll l ≤ l.length * (k + 1) := by
  induction l with
  | nil => exact Nat.zero_le _
  | cons a r ih =>
    have h1 := h a List.mem_cons_self
    have h2 := ih fun x hx => h x (List.mem_cons_of_mem _ hx)
    simp only [PyData.weightAll, List.length_cons, Nat.add_mul]
    omega
theorem weightAll_perm {l m : List PyData} (h : l.Perm m) : PyData.weightAll l = PyData.weightAll m := by
  induction h with
  | nil => rfl
  | cons a _ ih => simp only [PyData.weightAll]; omega
  | swap a b l => simp only [PyData.weightAll]; omega
  | trans _ _ ih1 ih2 => omega
theorem depthAll_iff {l : List PyData} {k : Nat} : PyData.depthAll l ≤ k ↔ ∀ x ∈ l, x.depth ≤ k := by
  induction l with
  | nil => simp [PyData.depthAll]
  | cons a r ih => simp only [PyData.depthAll, Nat.max_le, ih, List.mem_cons, forall_eq_or_imp]
theorem depth_tup {l : List PyData} {k : Nat} : (PyData.tuple l).depth ≤ k + 1 ↔ ∀ x ∈ l, x.depth ≤ k := by
  simp only [PyData.depth, Nat.add_le_add_iff_right]; exact depthAll_iff
theorem depth_lst {l : List PyData} {k : Nat} : (PyData.list l).depth ≤ k + 1 ↔ ∀ x ∈ l, x.depth ≤ k := by
  simp only [PyData.depth, Nat.add_le_add_iff_right]; exact depthAll_iff
end Nd
end

section
set_option Elab.async false
set_option linter.all false
set_option maxRecDepth 100000
set_option maxHeartbeats 400000
/-! KDb: lists of tuples of ints, sorted. -/
namespace Nd
open PySem
def tupI (ns : List Int) : PyData := .tuple (ns.map .int)
theorem eqvAll_ints : ∀ (l m : List Int), PyData.eqvAll (l.map .int) (m.map .int) = decide (l = m)
  | [], [] => rfl
  | [], _ :: _ => rfl
  | _ :: _, [] => rfl
  | a :: r, b :: t => by
    simp only [List.map_cons, PyData.eqvAll, PyData.eqv, eqvAll_ints r t, List.cons.injEq]
    by_cases h : a = b
    · subst h; simp
    · simp [h]
theorem map_int_inj {l m : List Int} (h : l.map PyData.int = m.map PyData.int) : l = m := by
  have := eqvAll_ints l m
  rw [h, eqvAll_ints m m] at this
  simpa using this.symm
theorem eqvAll_tups : ∀ (l m : List (List Int)), PyData.eqvAll (l.map tupI) (m.map tupI) = decide (l = m)
  | [], [] => rfl
  | [], _ :: _ => rfl
  | _ :: _, [] => rfl
  | a :: r, b :: t => by
    have e : PyData.eqv (tupI a) (tupI b) = decide (a = b) := by unfold tupI; rw [PyData.eqv]; exact eqvAll_ints a b
    simp only [List.map_cons, PyData.eqvAll, e, eqvAll_tups r t, List.cons.injEq]
    by_cases h : a = b
    · subst h; simp
    · simp [h]
/-- a list all of whose items are of the form f a -/
theorem map_of_all {α β : Type} {f : α → β} : ∀ {l : List β}, (∀ x ∈ l, ∃ a, x = f a) → ∃ m : List α, l = m.map f
  | [], _ => ⟨[], rfl⟩
  | x :: r, h => by
    obtain ⟨a, rfl⟩ := h x List.mem_cons_self
    obtain ⟨m, rfl⟩ := map_of_all fun y hy => h y (List.mem_cons_of_mem _ hy)
    exact ⟨a :: m, rfl⟩
abbrev le : PyData → PyData → Bool := PySem.W.dataLe false id
theorem le_total : PySem.W.TotalLe le := PySem.W.sortLe_total _ _ _
theorem le_int (x y : Int) : le (.int x) (.int y) = decide (x ≤ y) := by
  have := congrFun (congrFun (PySem.W.dataLe_int (fun b : Int => b)) x) y
  exact this
theorem le_heads {x y : Int} (h : x ≠ y) (r t : List Int) : le (tupI (x :: r)) (tupI (y :: t)) = decide (x < y) := by
  have e : le (tupI (x :: r)) (tupI (y :: t)) = !PySem.W.dataLt (tupI (y :: t)) (tupI (x :: r)) := by
    unfold le; rw [PySem.W.dataLe_eq]; rfl
  have e2 : PySem.W.dataLt (tupI (y :: t)) (tupI (x :: r)) = decide (y < x) := by
    unfold tupI
    rw [PySem.W.dataLt_tuple]
    show PyProof.Rows.lexLt PyProof.Rows.itemOrd (PySem.W.keyToksAll (.int y :: t.map .int)) (PySem.W.keyToksAll (.int x :: r.map .int)) = _
    rw [PySem.W.dataLt_all_no rfl (by show (y == x) = false; exact beq_eq_false_iff_ne.mpr (Ne.symm h)), PySem.W.dataLt_int]
  rw [e, e2]
  by_cases q : x < y
  · rw [decide_eq_true q, decide_eq_false (by omega)]; rfl
  · rw [decide_eq_false q, decide_eq_true (by omega)]; rfl
def ups (l : List Int) : Bool := (List.zipWith (fun a b => decide (a < b)) l l.tail).all id
theorem ups_iff : ∀ (l : List Int), ups l = true ↔ l.Pairwise (· < ·)
  | [] => by simp [ups]
  | [a] => by simp [ups]
  | a :: b :: r => by
    have ih := ups_iff (b :: r)
    have e : ups (a :: b :: r) = (decide (a < b) && ups (b :: r)) := rfl
    rw [e, Bool.and_eq_true, ih, decide_eq_true_eq, List.pairwise_cons (a := a)]
    constructor
    · rintro ⟨h1, h2⟩
      refine ⟨fun c hc => ?_, h2⟩
      rcases List.mem_cons.mp hc with rfl | hc
      · exact h1
      · exact Int.lt_trans h1 ((List.pairwise_cons.mp h2).1 c hc)
    · rintro ⟨h1, h2⟩
      exact ⟨h1 b List.mem_cons_self, h2⟩
/-- sorted, of ints -/
theorem sort_ints (l : List Int) : ∃ m : List Int, (l.map PyData.int).mergeSort le = m.map .int ∧ m.Perm l := by
  have hp := List.mergeSort_perm (l.map PyData.int) le
  obtain ⟨m, e⟩ := map_of_all (f := PyData.int) (l := (l.map PyData.int).mergeSort le) fun x hx => by
    obtain ⟨a, _, rfl⟩ := List.mem_map.mp (hp.mem_iff.mp hx)
    exact ⟨a, rfl⟩
  refine ⟨m, e, ?_⟩
  rw [e] at hp
  have h2 := hp.map (fun d : PyData => match d with | .int i => i | _ => 0)
  simpa [List.map_map, Function.comp_def] using h2
theorem sort_tups (l : List (List Int)) : ∃ m : List (List Int), (l.map tupI).mergeSort le = m.map tupI := by
  have hp := List.mergeSort_perm (l.map tupI) le
  exact map_of_all fun x hx => by
    obtain ⟨a, _, rfl⟩ := List.mem_map.mp (hp.mem_iff.mp hx)
    exact ⟨a, rfl⟩
/-- parts, none empty, that share nothing: sorted just if their firsts rise -/
theorem parts_sorted (ps : List (List Int)) (hn : ∀ p ∈ ps, p ≠ []) (hd : ps.flatten.Nodup) :
    PyData.eqvAll (ps.map tupI) ((ps.map tupI).mergeSort le) = ups (ps.map fun p => p.headD 0) := by
  have hfirst : ps.Pairwise fun p q => p.headD 0 ≠ q.headD 0 := by
    have h := (List.pairwise_flatten.mp hd).2
    refine (List.Pairwise.imp_of_mem ?_ h)
    intro p q hp hq hpq
    cases p with
    | nil => exact absurd rfl (hn _ hp)
    | cons x r => cases q with
      | nil => exact absurd rfl (hn _ hq)
      | cons y t => exact hpq x List.mem_cons_self y List.mem_cons_self
  have key : (ps.map tupI).Pairwise (fun a b => le a b = true) ↔ (ps.map fun p => p.headD 0).Pairwise (· < ·) := by
    rw [List.pairwise_map, List.pairwise_map]
    have both : ∀ p ∈ ps, ∀ q ∈ ps, p.headD 0 ≠ q.headD 0 → (le (tupI p) (tupI q) = true ↔ p.headD 0 < q.headD 0) := by
      intro p hp q hq h
      cases p with
      | nil => exact absurd rfl (hn _ hp)
      | cons x r => cases q with
        | nil => exact absurd rfl (hn _ hq)
        | cons y t =>
          have h : x ≠ y := h
          rw [le_heads h, decide_eq_true_eq]; rfl
    constructor
    · intro h
      refine List.Pairwise.imp_of_mem ?_ (h.and hfirst)
      intro p q hp hq hh
      exact (both p hp q hq hh.2).mp hh.1
    · intro h
      refine List.Pairwise.imp_of_mem ?_ (h.and hfirst)
      intro p q hp hq hh
      exact (both p hp q hq hh.2).mpr hh.1
  obtain ⟨m, e⟩ := sort_tups ps
  cases hu : ups (ps.map fun p => p.headD 0) with
  | true =>
    rw [List.mergeSort_of_pairwise (key.mpr ((ups_iff _).mp hu)), eqvAll_tups]
    simp
  | false =>
    rw [e, eqvAll_tups]
    refine decide_eq_false fun h => ?_
    subst h
    have s := List.pairwise_mergeSort (le := le) (fun a b c h1 h2 => le_total.trans a b c h1 h2) (fun a b => by have := le_total.total a b; simpa using this) (ps.map tupI)
    rw [e] at s
    have := (ups_iff _).mpr (key.mp s)
    rw [hu] at this; cases this
/-- what is a range when sorted has nothing twice -/
theorem nodup_of_range {l m : List Int} {v : Nat} (hp : m.Perm l) (h : m = (List.range v).map fun (i : Nat) => (0 + (i : Int))) : l.Nodup := by
  have hm : m.Nodup := by
    subst h
    refine List.pairwise_map.mpr (List.Pairwise.imp ?_ (List.nodup_range (n := v)))
    intro a b hab
    omega
  exact hp.nodup_iff.mp hm
end Nd
end

section
set_option linter.all false
namespace Nd
open PySem
theorem strOk_ofString (t : String) : PyData.strOk (Str.ofString t) = true := by
  unfold PyData.strOk
  rw [Array.all_eq_true_iff_forall_mem]
  intro c hc
  have : ∃ ch : Char, c = ch.toNat := by
    rw [Str.ofString_eq_toList] at hc
    simp at hc
    obtain ⟨a, _, rfl⟩ := hc
    exact ⟨a, rfl⟩
  obtain ⟨ch, rfl⟩ := this
  have h := ch.valid
  simp only [decide_eq_true_eq]
  rcases h with h | h
  · show ch.val.toNat < _
    omega
  · show ch.val.toNat < _
    omega
end Nd
end

section
set_option Elab.async false
set_option linter.all false
set_option maxRecDepth 100000
set_option maxHeartbeats 400000
/-! KDd: what is shown of nice data is a text that may be laid. -/
namespace Nd
open PySem
def okS (x : Str) : Prop := ∀ c ∈ x.cps.toList, c < 0x110000
theorem okS_iff {x : Str} : okS x ↔ PyData.strOk x = true := by
  unfold okS PyData.strOk
  rw [Array.all_eq_true_iff_forall_mem]
  simp only [decide_eq_true_eq, Array.mem_toList_iff]
theorem okS_append {x y : Str} (hx : okS x) (hy : okS y) : okS (x ++ y) := by
  intro c hc
  have e : (x ++ y).cps = x.cps ++ y.cps := rfl
  rw [e, Array.toList_append] at hc
  rcases List.mem_append.mp hc with h | h
  · exact hx c h
  · exact hy c h
theorem okS_of (t : String) : okS (Str.ofString t) := okS_iff.mpr (strOk_ofString t)
theorem okS_join (sep : Str) (hs : okS sep) : ∀ (ts : List Str), (∀ t ∈ ts, okS t) → okS (Str.join sep ts)
  | [], _ => fun c hc => nomatch hc
  | [x], h => h x List.mem_cons_self
  | x :: y :: r, h => by
    have ih := okS_join sep hs (y :: r) fun t ht => h t (List.mem_cons_of_mem _ ht)
    show okS (x ++ sep ++ Str.join sep (y :: r))
    exact okS_append (okS_append (h x List.mem_cons_self) hs) ih
theorem okS_from : ∀ (ts : List Str) (k : Nat) (acc : Str), okS acc → (∀ t ∈ ts, okS t) → okS (textFrom k acc ts)
  | [], _, _, h, _ => h
  | t :: r, k, acc, h, ht => by
    refine okS_from r (k + 1) _ (okS_append (okS_append h ?_) (ht t List.mem_cons_self)) fun u hu => ht u (List.mem_cons_of_mem _ hu)
    exact okS_of _
theorem okS_list {ts : List Str} (h : ∀ t ∈ ts, okS t) : okS (listText ts) := okS_append (okS_from ts 0 _ (okS_of _) h) (okS_of _)
theorem okS_tuple {ts : List Str} (h : ∀ t ∈ ts, okS t) : okS (tupleText ts) := okS_append (okS_append (okS_of _) (okS_join _ (okS_of _) ts h)) (okS_of _)
theorem okS_quote (x : Str) : reprQuote x < 0x110000 := by
  unfold reprQuote
  split <;> decide
theorem ok_char {q c : Nat} (hq : q < 0x110000) (hc : c < 0x110000) : ∀ d ∈ Builtin.Str.reprChar q c, d < 0x110000 := by
  have hx : ∀ (width : Nat), ∀ d ∈ List.replicate (width - ((Nat.toDigits 16 c).map Char.toNat).length) 48 ++ (Nat.toDigits 16 c).map Char.toNat, d < 0x110000 := by
    intro width d hd
    rcases List.mem_append.mp hd with h | h
    · rw [(List.mem_replicate.mp h).2]; decide
    · obtain ⟨ch, _, rfl⟩ := List.mem_map.mp h
      have h := ch.valid
      rcases h with h | h
      · show ch.val.toNat < _; omega
      · show ch.val.toNat < _; omega
  intro d hd
  unfold Builtin.Str.reprChar at hd
  simp only at hd
  split at hd
  · simp at hd; rcases hd with rfl | rfl
    · decide
    · exact hc
  split at hd
  · simp at hd; omega
  split at hd
  · simp at hd; omega
  split at hd
  · simp at hd; omega
  split at hd
  · simp at hd; omega
  split at hd
  · rcases List.mem_append.mp hd with h | h
    · simp at h; omega
    · exact hx 2 d h
  split at hd
  · rcases List.mem_append.mp hd with h | h
    · simp at h; omega
    · exact hx 4 d h
  · rcases List.mem_append.mp hd with h | h
    · simp at h; omega
    · exact hx 8 d h
theorem okS_repr {x : Str} (h : okS x) : okS (reprText x) := by
  have key : ∀ (l : List Nat) (acc : Array Nat), (∀ c ∈ acc.toList, c < 0x110000) → (∀ c ∈ l, c < 0x110000) → ∀ c ∈ (l.foldl (fun out c => out ++ (Builtin.Str.reprChar (reprQuote x) c).toArray) acc).toList, c < 0x110000 := by
    intro l
    induction l with
    | nil => intro acc ha _; exact ha
    | cons a r ih =>
      intro acc ha hl
      refine ih _ ?_ fun c hc => hl c (List.mem_cons_of_mem _ hc)
      intro c hc
      rw [Array.toList_append] at hc
      rcases List.mem_append.mp hc with h | h
      · exact ha c h
      · exact ok_char (okS_quote x) (hl a List.mem_cons_self) c h
  intro c hc
  unfold reprText at hc
  rw [Array.toList_push] at hc
  rcases List.mem_append.mp hc with hc | hc
  · rw [← Array.foldl_toList] at hc
    exact key x.cps.toList #[reprQuote x] (fun c hc => by simp at hc; rw [hc]; exact okS_quote x) h c hc
  · rw [List.mem_singleton.mp hc]; exact okS_quote x
mutual
theorem nice_okS : ∀ {p : PyData}, nice p = true → okS p.shown
  | .none, _ => okS_of _
  | .bool b, _ => by cases b <;> exact okS_of _
  | .int i, _ => okS_of _
  | .str x, h => okS_repr (okS_iff.mpr (by simpa only [nice] using h))
  | .list l, h => by
    simp only [PyData.shown]
    exact okS_list (niceAll_okS (by simpa only [nice] using h))
  | .tuple l, h => by
    simp only [PyData.shown]
    exact okS_tuple (niceAll_okS (by simpa only [nice] using h))
  | .dict kvs, h => by
    have : kvs = [] := by simpa [nice] using h
    subst this
    exact okS_append (okS_append (okS_of _) (okS_join _ (okS_of _) [] (fun t ht => nomatch ht))) (okS_of _)
theorem niceAll_okS : ∀ {l : List PyData}, niceAll l = true → ∀ t ∈ PyData.shownAll l, okS t
  | [], _, t, ht => nomatch ht
  | x :: r, h, t, ht => by
    have h' : nice x = true ∧ niceAll r = true := by simpa only [niceAll, Bool.and_eq_true] using h
    simp only [PyData.shownAll] at ht
    rcases List.mem_cons.mp ht with rfl | ht
    · exact nice_okS h'.1
    · exact niceAll_okS h'.2 t ht
end
theorem shown_shaped {p : PyData} (h : nice p = true) : SeqAt.shaped (.str p.shown) = true := by
  have := okS_iff.mp (nice_okS h)
  unfold SeqAt.shaped
  simp only [PyData.canLay0, this, PyData.depth]
  rfl
end Nd
end

section
set_option Elab.async false
set_option linter.all false
set_option maxRecDepth 100000
set_option maxHeartbeats 400000
namespace Wk
open PySem Em
mutual
/-- what is bent: small ints, texts, tuples -/
def ini : D → Bool
  | .none => false
  | .bool _ => false
  | .int i => decide (0 ≤ i ∧ i < 1000)
  | .str x => PyData.strOk x
  | .list _ => false
  | .tuple l => iniAll l
  | .dict _ => false
def iniAll : List D → Bool
  | [] => true
  | x :: r => ini x && iniAll r
end
theorem iniAll_iff : ∀ {l : List D}, iniAll l = true ↔ ∀ x ∈ l, ini x = true
  | [] => by simp [iniAll]
  | x :: r => by simp only [iniAll, Bool.and_eq_true, iniAll_iff (l := r), List.mem_cons, forall_eq_or_imp]
mutual
theorem ini_nice : ∀ {p : D}, ini p = true → Nd.nice p = true
  | .int i, h => by
    simp only [ini, decide_eq_true_eq] at h
    simp only [Nd.nice, decide_eq_true_eq]
    omega
  | .str x, h => by simpa only [ini, Nd.nice] using h
  | .tuple l, h => by
    simp only [Nd.nice]
    exact iniAll_nice (by simpa only [ini] using h)
theorem iniAll_nice : ∀ {l : List D}, iniAll l = true → Nd.niceAll l = true
  | [], _ => rfl
  | x :: r, h => by
    have h' : ini x = true ∧ iniAll r = true := by simpa only [iniAll, Bool.and_eq_true] using h
    simp only [Nd.niceAll, ini_nice h'.1, iniAll_nice h'.2, Bool.and_self]
end
/-- what bending gives -/
def Bt (W k : Nat) (q : D) : Prop := Nd.nice q = true ∧ q.weight ≤ W ∧ q.depth ≤ k
theorem Bt.mono {W W' k k' : Nat} {q : D} (h : Bt W k q) (h1 : W ≤ W') (h2 : k ≤ k') : Bt W' k' q := ⟨h.1, Nat.le_trans h.2.1 h1, Nat.le_trans h.2.2 h2⟩
theorem bt_tup {l : List D} {W k : Nat} (h : ∀ x ∈ l, Nd.nice x = true ∧ x.depth ≤ k) (hw : PyData.weightAll l ≤ W) : Bt W (k + 1) (.tuple l) :=
  ⟨by simp only [Nd.nice]; exact Nd.niceAll_iff.mpr fun x hx => (h x hx).1, by simp only [PyData.weight]; exact hw, Nd.depth_tup.mpr fun x hx => (h x hx).2⟩
theorem bt_lst {l : List D} {W k : Nat} (h : ∀ x ∈ l, Nd.nice x = true ∧ x.depth ≤ k) (hw : PyData.weightAll l ≤ W) : Bt W (k + 1) (.list l) :=
  ⟨by simp only [Nd.nice]; exact Nd.niceAll_iff.mpr fun x hx => (h x hx).1, by simp only [PyData.weight]; exact hw, Nd.depth_lst.mpr fun x hx => (h x hx).2⟩
theorem cut_lo (l : List D) (k : Nat) (h : k ≤ l.length) : Em.cut l none (some (k : Int)) = l.take k := by
  unfold Em.cut
  rw [HT.sIx_none, HT.sIx_nat, Nat.min_eq_left h]; rfl
theorem cut_hi (l : List D) (k : Nat) (h : k ≤ l.length) : Em.cut l (some (k : Int)) none = l.drop k := by
  unfold Em.cut
  rw [HT.sIx_none, HT.sIx_nat, Nat.min_eq_left h]
  exact List.take_of_length_le (by rw [List.length_drop]; exact Nat.le_refl _)
theorem cut_mid (l : List D) (k : Nat) (h : k < l.length) : Em.cut l (some (k : Int)) (some ((k : Int) + 1)) = [l[k]] := by
  have e : (k : Int) + 1 = ((k + 1 : Nat) : Int) := rfl
  unfold Em.cut
  rw [e, HT.sIx_nat, HT.sIx_nat, Nat.min_eq_left (by omega), Nat.min_eq_left (by omega), List.drop_eq_getElem_cons h]
  have : k + 1 - k = 1 := by omega
  rw [this]; rfl
theorem called_new {F F' : List Cell} {N : List (List Val)} {l : List D} (h : F'.length = F.length) : called .fr ⟨F, N⟩ (.ok (.fl F.length) ⟨F' ++ [.li l], []⟩) = .ok (.d (.list l)) ⟨F', N⟩ := by
  have e : (F' ++ [Cell.li l])[F.length]? = some (.li l) := by rw [← h, List.getElem?_append_right (Nat.le_refl _)]; simp
  have e2 : (F' ++ [Cell.li l]).take F.length = F' := by rw [← h]; simp
  simp [called, e, e2]
end Wk

namespace Em
open PySem
/-- a comprehension over values, by an invariant that tells the items too -/
theorem loopC_invV {f : Val → Sto → R (Option Val)} {v : Val} {l : List Val} (I : Nat → Sto → List Val → Prop) (hn : ∀ i s acc, I i s acc → nth s v i = some l[i]?)
    (step : ∀ i x s acc, l[i]? = some x → I i s acc → ∃ o s', f x s = .ok o s' ∧ acc.length < sizeMax ∧ I (i + 1) s' (match o with | some y => acc ++ [y] | none => acc)) :
    ∀ (k fuel i : Nat) (s : Sto) (acc : List Val), i + k = l.length → k < fuel → I i s acc → ∃ s' vs, loopC f v fuel i s acc = .ok vs s' ∧ I l.length s' vs
  | 0, fuel + 1, i, s, acc, hk, _, h => by
    have e : l[i]? = none := List.getElem?_eq_none_iff.mpr (by omega)
    refine ⟨s, acc, ?_, by rw [← hk]; exact h⟩
    rw [loopC, hn i s acc h, e]
  | k + 1, fuel + 1, i, s, acc, hk, hfu, h => by
    have hi : i < l.length := by omega
    obtain ⟨o, s1, e1, hz, h1⟩ := step i _ s acc (List.getElem?_eq_getElem hi) h
    rw [loopC, hn i s acc h, List.getElem?_eq_getElem hi]
    simp only
    rw [e1]
    cases o with
    | none => exact loopC_invV I hn step k fuel (i + 1) s1 acc (by omega) (by omega) h1
    | some y =>
      simp only [R.bd_ok, if_pos hz]
      exact loopC_invV I hn step k fuel (i + 1) s1 (acc ++ [y]) (by omega) (by omega) h1
  | k, 0, _, _, _, _, h, _ => absurd h (by omega)
theorem x_lc {c : Ctx} {σ : Env} {s s1 s2 : Sto} {m : Mode} {elt : E} {tg : Tg} {it : E} {cond : Option E} {own : List Nat} {v : Val} {vs : List Val} (hi : evE c it σ s = .ok v s1)
    (hl : loopC (lcF c elt tg cond own σ) v c.fuel 0 s1 [] = .ok vs s2) : evE c (.lc m elt tg it cond own) σ s = mkV m vs s2 := by
  rw [ev_lc]
  simp only [hi, R.bd_ok]
  have : R.bd (loopC (lcF c elt tg cond own σ) v c.fuel 0 s1 []) (fun vs s5 => mkV m vs s5) = mkV m vs s2 := by rw [hl]; rfl
  exact this
end Em
namespace Wk
open PySem Em
theorem draw_evN (n j : Nat) {c : Cell} {G T : List Cell} {N : List (List Val)} (hj : G[j]? = some c) (hp : Pot c) {m : Int} (h1 : 1 ≤ m) (h2 : m < 1073741824) {σ : Em.Env} (h0 : σ[0]? = some (some (.fl j))) {em : E}
    (he : evE ⟨evF prog (n + 1), prog.glob, prog.fuel⟩ em σ ⟨G ++ T, N⟩ = .ok (.d (.int m)) ⟨G ++ T, N⟩) :
    ∃ c' d, Pot c' ∧ 0 ≤ d ∧ d < m ∧ evE ⟨evF prog (n + 1), prog.glob, prog.fuel⟩ (.call 32 .fr [.v 0, em] []) σ ⟨G ++ T, N⟩ = .ok (.d (.int d)) ⟨G.set j c' ++ T, N⟩ := by
  obtain ⟨hjl, _⟩ := List.getElem?_eq_some_iff.mp hj
  have hj2 : (G ++ T)[j]? = some c := by rw [List.getElem?_append_left hjl]; exact hj
  obtain ⟨c', d, hc, d1, d2, e⟩ := ev32 n j m (G ++ T) c hj2 hp h1 h2
  rw [List.set_append_left _ _ hjl] at e
  refine ⟨c', d, hc, d1, d2, ?_⟩
  rw [x_call (es_cons' (x_v h0) (es_cons' he es_nil')) rfl]
  show called .fr ⟨G ++ T, N⟩ (evF prog (n + 1) 32 [.fl j, .d (.int m)] [] (G ++ T)) = _
  rw [e]
  rfl
/-- the store behind some villages -/
def st23 (F : List Cell) (j : Nat) (c : Cell) (parts : List (List D)) : Sto := ⟨F.set j c ++ parts.map .li, [(List.range parts.length).map fun i => Val.fl (F.length + i)]⟩
theorem st23_at {F : List Cell} {j : Nat} {c : Cell} {parts : List (List D)} {i : Nat} (h : i < parts.length) : (F.set j c ++ parts.map Cell.li)[F.length + i]? = some (.li parts[i]) := by
  rw [List.getElem?_append_right (by simp)]
  simp [h]
theorem st23_set {F : List Cell} {j : Nat} {c : Cell} {parts : List (List D)} {i : Nat} {l : List D} : (F.set j c ++ parts.map Cell.li).set (F.length + i) (.li l) = F.set j c ++ (parts.set i l).map Cell.li := by
  rw [List.set_append_right _ _ (by simp)]
  simp [List.map_set]
theorem mapM_of {α β : Type} {f : α → Option β} : ∀ {vs : List α} {ds : List β}, vs.length = ds.length → (∀ i (h : i < vs.length) (h2 : i < ds.length), f vs[i] = some ds[i]) → vs.mapM f = some ds
  | [], [], _, _ => rfl
  | v :: vs, d :: ds, hl, h => by
    have h0 : f v = some d := h 0 (by simp) (by simp)
    have hr : vs.mapM f = some ds := mapM_of (by simpa using hl) fun i h1 h2 => h (i + 1) (by simpa using h1) (by simpa using h2)
    rw [List.mapM_cons, h0, hr]; rfl
theorem st23_snapF {F : List Cell} {j : Nat} {c : Cell} {parts : List (List D)} {i : Nat} (h : i < parts.length) : (st23 F j c parts).snapF (.fl (F.length + i)) = some (.list parts[i]) := by
  have e := st23_at (F := F) (j := j) (c := c) h
  unfold Sto.snapF st23
  simp only [e]
theorem st23_snap {F : List Cell} {j : Nat} {c : Cell} {parts : List (List D)} : (st23 F j c parts).snap (.ne 0) = some (.list (parts.map .list)) := by
  have e : ((List.range parts.length).map fun i => Val.fl (F.length + i)).mapM (st23 F j c parts).snapF = some (parts.map .list) := by
    refine mapM_of (by simp) fun i h1 h2 => ?_
    have hi : i < parts.length := by simpa using h2
    simp only [List.getElem_map, List.getElem_range]
    exact st23_snapF hi
  show ((((List.range parts.length).map fun i => Val.fl (F.length + i)).mapM (st23 F j c parts).snapF).map PyData.list) = _
  rw [e]; rfl
/-- one village goes into a part -/
def st23b : S := .expr (.mt .append (.ix (.v 2) (.call 32 .fr [.v 0, .bi .len .fr [.v 2]] [])) [.v 3])
def e23 (j : Nat) (v : Int) (t : Option Val) : Em.Env := [some (.fl j), some (.d (.int v)), some (.ne 0), t, none]
theorem turn23 (n j n0 : Nat) {c : Cell} {F : List Cell} (hj : j < F.length) (hp : Pot c) (v : Int) (p : D) (parts : List (List D)) (hk : 1 ≤ parts.length) (hk2 : parts.length ≤ 1000) (hz : ∀ l ∈ parts, l.length ≤ 1000) :
    ∃ c' d, ∃ hd : d < parts.length, Pot c' ∧ evSs ⟨evF prog (n + 1), prog.glob, prog.fuel⟩ n0 [st23b] (e23 j v (some (.d p))) (st23 F j c parts) = .ok (.nx, e23 j v (some (.d p))) (st23 F j c' (parts.set d (parts[d] ++ [p]))) := by
  have hsm : sizeMax = 16777216 := rfl
  have hl : evE ⟨evF prog (n + 1), prog.glob, prog.fuel⟩ (.bi .len .fr [.v 2]) (e23 j v (some (.d p))) (st23 F j c parts) = .ok (.d (.int parts.length)) (st23 F j c parts) := by
    rw [x_bi (es_cons' (x_v rfl) es_nil')]
    have e : snaps (st23 F j c parts) true [.ne 0] = some [.list (parts.map .list)] := by
      have := st23_snap (F := F) (j := j) (c := c) (parts := parts)
      simp only [snaps, Sto.see, if_true, this]
    show (match snaps (st23 F j c parts) true [.ne 0] with | some as => bi .len .fr as (st23 F j c parts) | none => .bad) = _
    rw [e]
    simp [bi, biL, biL1, biV]
  obtain ⟨c', d, hc, d1, d2, e⟩ := draw_evN n j (G := F.set j c) (c := c) (T := parts.map .li) (N := [(List.range parts.length).map fun i => Val.fl (F.length + i)]) (by simp [hj]) hp (m := (parts.length : Int)) (by omega) (by omega) (σ := e23 j v (some (.d p))) rfl hl
  rw [List.set_set] at e
  obtain ⟨a, rfl⟩ : ∃ a : Nat, d = (a : Int) := ⟨d.toNat, by omega⟩
  have ha : a < parts.length := by omega
  refine ⟨c', a, ha, hc, ?_⟩
  have pl : place parts.length (a : Int) = some a := by
    unfold place L2.ixN
    rw [if_pos (by omega), if_pos (by omega)]; simp
  have ex : evE ⟨evF prog (n + 1), prog.glob, prog.fuel⟩ (.ix (.v 2) (.call 32 .fr [.v 0, .bi .len .fr [.v 2]] [])) (e23 j v (some (.d p))) (st23 F j c parts) = .ok (.fl (F.length + a)) (st23 F j c' parts) := by
    have v2 : evE ⟨evF prog (n + 1), prog.glob, prog.fuel⟩ (.v 2) (e23 j v (some (.d p))) (st23 F j c parts) = .ok (.ne 0) (st23 F j c parts) := x_v rfl
    simp only [ev_ix, v2, R.bd_ok]
    show R.bd (evE _ _ _ ⟨F.set j c ++ parts.map .li, _⟩) _ = _
    rw [e]
    simp [pl, st23, ha]
  have em : evE ⟨evF prog (n + 1), prog.glob, prog.fuel⟩ (.mt .append (.ix (.v 2) (.call 32 .fr [.v 0, .bi .len .fr [.v 2]] [])) [.v 3]) (e23 j v (some (.d p))) (st23 F j c parts) = .ok (.d .none) (st23 F j c' (parts.set a (parts[a] ++ [p]))) := by
    simp only [ev_mt, ex, R.bd_ok, isDi_li (s := st23 F j c' parts) (st23_at (F := F) (j := j) (c := c') ha), Bool.false_eq_true, if_false, es_cons' (x_v (c := ⟨evF prog (n + 1), prog.glob, prog.fuel⟩) (σ := e23 j v (some (.d p))) (s := st23 F j c' parts) (i := 3) (v := .d p) rfl) es_nil']
    have g : (st23 F j c' parts).F[F.length + a]? = some (.li parts[a]) := st23_at ha
    have hz := hz _ (List.getElem_mem ha)
    have hz : parts[a].length < sizeMax := by omega
    have g2 : (F.set j c' ++ parts.map Cell.li).set (F.length + a) (.li (parts[a] ++ [p])) = F.set j c' ++ (parts.set a (parts[a] ++ [p])).map Cell.li := st23_set
    show (match (st23 F j c' parts).F[F.length + a]? with
    | some (.li l) => if l.length < sizeMax then R.ok (Val.d .none) { st23 F j c' parts with F := (st23 F j c' parts).F.set (F.length + a) (.li (l ++ [p])) } else .bad
    | _ => .bad) = _
    rw [g]
    simp only [if_pos hz]
    show R.ok _ (⟨(F.set j c' ++ parts.map Cell.li).set (F.length + a) _, _⟩ : Sto) = _
    rw [g2]
    simp [st23]
  exact (ss_nx (s_expr em)).trans ss_nil
end Wk

namespace Wk
open PySem Em
theorem alike_intsD {v : Nat} : ∀ {l m : List D}, (∀ x ∈ l, ∃ a : Nat, a < v ∧ x = .int (0 + (a : Int))) → (∀ x ∈ m, ∃ a : Nat, a < v ∧ x = .int (0 + (a : Int))) → PySem.W.alikeAll l m = true
  | [], _, _, _ => rfl
  | _ :: _, [], _, _ => rfl
  | x :: r, y :: t, h1, h2 => by
    obtain ⟨a, _, rfl⟩ := h1 x List.mem_cons_self
    obtain ⟨b, _, rfl⟩ := h2 y List.mem_cons_self
    have ih := alike_intsD (fun z hz => h1 z (List.mem_cons_of_mem _ hz)) (fun z hz => h2 z (List.mem_cons_of_mem _ hz))
    simp only [PySem.W.alikeAll, ih, PySem.W.alike, Bool.and_self]
theorem sortOk_intro {l : List D} (h1 : ∀ a ∈ l, ∀ b ∈ l, PySem.W.alike a b = true) (h2 : (∀ a ∈ l, isNE a = true) ∨ ∀ a ∈ l, isOth a = true) (h3 : ∀ a ∈ l, a.depth ≤ 64) (h4 : l.length ≤ sizeMax) (h5 : ∀ a ∈ l, a.hasDict = false) : sortOk l = true := by
  unfold sortOk
  have a1 : l.all (fun a => l.all (PySem.W.alike a)) = true := List.all_eq_true.mpr fun a ha => List.all_eq_true.mpr (h1 a ha)
  have a2 : (l.all isNE || l.all isOth) = true := by
    rw [Bool.or_eq_true]
    rcases h2 with h | h
    · exact .inl (List.all_eq_true.mpr h)
    · exact .inr (List.all_eq_true.mpr h)
  have a3 : l.all (fun d => decide (d.depth ≤ 64)) = true := List.all_eq_true.mpr fun a ha => decide_eq_true (h3 a ha)
  have a5 : l.all (fun d => !d.hasDict) = true := List.all_eq_true.mpr fun a ha => by rw [h5 a ha]; rfl
  rw [a1, a2, a3, a5, decide_eq_true h4]; rfl
theorem noDict_ini {p : D} (h : PyData.canLay0 p = true) : p.hasDict = false := PyData.hasDict_of_canLay p h
theorem x_sorted {c : Em.Ctx} {σ : Em.Env} {s s1 : Sto} {e : E} {p : D} {l : List D} (h : evE c e σ s = .ok (.d p) s1) (hp : itemsOf p = some l) (hs : sortOk l = true) : evE c (.bi .sorted .fr [e]) σ s = .ok (.d (.list (isort l))) s1 := by
  rw [x_bi (es_cons' h es_nil')]
  simp only [biS, stillB, snaps, Sto.see, Sto.capt, Sto.snapF, deepB, bi, biL, biL1, hp, if_pos hs, mkL, Bool.false_eq_true, if_false]
theorem x_tuple {c : Em.Ctx} {σ : Em.Env} {s s1 : Sto} {e : E} {l : List D} (h : evE c e σ s = .ok (.d (.list l)) s1) : evE c (.bi .tuple .fr [e]) σ s = .ok (.d (.tuple l)) s1 := by
  rw [x_bi (es_cons' h es_nil')]
  rfl
end Wk

namespace Wk
open PySem Em
/-- a lot is a tuple of ints -/
theorem lot_ints {q : D} {v : Int} (h : isLot q v = true) : ∃ ns, q = Nd.tupI ns := by
  cases q with
  | tuple l =>
    unfold isLot at h
    simp only [Bool.and_eq_true] at h
    obtain ⟨ns, e⟩ := intsD_within h.1
    exact ⟨ns, by unfold Nd.tupI; rw [intsD_map e]⟩
  | _ => cases h
theorem canLay_ints (ns : List Int) : PyData.canLayAll0 (ns.map .int) = true := by
  induction ns with
  | nil => rfl
  | cons a r ih => simp only [List.map_cons, PyData.canLayAll0, PyData.canLay0, ih, Bool.and_self]
theorem depth_intsI (ns : List Int) : PyData.depthAll (ns.map .int) = 0 := PySem.W.depth_ints ns
theorem shaped_tupI (ns : List Int) : SeqAt.shaped (Nd.tupI ns) = true := by
  unfold SeqAt.shaped Nd.tupI
  simp only [PyData.canLay0, canLay_ints, PyData.depth, depth_intsI]
  decide
theorem shaped_listI (ns : List Int) : SeqAt.shaped (.list (ns.map .int)) = true := by
  unfold SeqAt.shaped
  simp only [PyData.canLay0, canLay_ints, PyData.depth, depth_intsI]
  decide
theorem canLay_tups (ps : List (List Int)) : PyData.canLayAll0 (ps.map Nd.tupI) = true := by
  induction ps with
  | nil => rfl
  | cons a r ih =>
    have : PyData.canLay0 (Nd.tupI a) = true := by unfold Nd.tupI; simp only [PyData.canLay0, canLay_ints]
    simp only [List.map_cons, PyData.canLayAll0, this, ih, Bool.and_self]
theorem depth_tups (ps : List (List Int)) : PyData.depthAll (ps.map Nd.tupI) ≤ 1 := Nd.depthAll_iff.mpr fun x hx => by
  obtain ⟨ns, _, rfl⟩ := List.mem_map.mp hx
  unfold Nd.tupI
  simp only [PyData.depth, depth_intsI]
  omega
theorem shaped_tups (ps : List (List Int)) (t : Bool) : SeqAt.shaped (seqOf t (ps.map Nd.tupI)) = true := by
  have := depth_tups ps
  unfold SeqAt.shaped
  cases t
  · simp only [seqOf, Bool.false_eq_true, if_false, PyData.canLay0, canLay_tups, PyData.depth, Bool.true_and, decide_eq_true_eq]; omega
  · simp only [seqOf, if_true, PyData.canLay0, canLay_tups, PyData.depth, Bool.true_and, decide_eq_true_eq]; omega
/-- the look at parts -/
def firstI : D → Int
  | .tuple (.int i :: _) => i
  | _ => 0
def itemsD : D → List D
  | .tuple l => l
  | _ => []
def rngD (v : Int) : List D := (List.range v.toNat).map fun (i : Nat) => .int (0 + (i : Int))
def isPart (v : Int) (p : D) : Bool := match p with
  | .tuple l => decide (2 ≤ l.length) && (l.all (fun q => isLot q v && isNE q) && (PyData.eqv (.list (isort (l.map itemsD).flatten)) (.list (rngD v)) && ups (l.map firstI)))
  | _ => false
theorem rng_ints (v : Int) : rngD v = ((List.range v.toNat).map fun (i : Nat) => (0 + (i : Int))).map .int := by
  unfold rngD; rw [List.map_map]; rfl
theorem first_tup (ns : List Int) : firstI (Nd.tupI ns) = ns.headD 0 := by
  cases ns <;> rfl
theorem isNE_tup (ns : List Int) : isNE (Nd.tupI ns) = !ns.isEmpty := by
  cases ns <;> rfl
theorem items_tups (ps : List (List Int)) : ((ps.map Nd.tupI).map itemsD).flatten = ps.flatten.map .int := by
  rw [List.map_map]
  have : (itemsD ∘ Nd.tupI) = fun ns : List Int => ns.map PyData.int := rfl
  rw [this, List.map_flatten]
/-- every village gathered -/
def ext8 : S := .expr (.mt .extend (.v 2) [.bi .list .fr [.v 3]])
def e8 (a b : D) (i : Nat) (t : Option Val) : Em.Env := [some (.d a), some (.d b), some (.fl i), t, none]
theorem loop8 (m n0 : Nat) (F : List Cell) (a : D) (ps : List (List Int)) (hz : ps.flatten.length ≤ 1000000) (hz2 : ps.length ≤ 1000) :
    ∃ t, loopS (fun σ1 x s2 => match putVal (.slot 3) x σ1 with
      | some σ2 => evSs ⟨evF prog m, prog.glob, prog.fuel⟩ n0 [ext8] σ2 s2
      | none => .bad) (.d (.tuple (ps.map Nd.tupI))) prog.fuel 0 (e8 a (.tuple (ps.map Nd.tupI)) F.length none) ⟨F ++ [.li []], []⟩ = .ok (.nx, e8 a (.tuple (ps.map Nd.tupI)) F.length t) ⟨F ++ [.li (ps.flatten.map .int)], []⟩ := by
  have hf : prog.fuel = 1000000 := rfl
  have hsm : sizeMax = 16777216 := rfl
  obtain ⟨σ', s', e, ⟨t, rfl⟩, rfl⟩ := loopS_inv (items_tup (ps.map Nd.tupI)) (f := fun σ1 x s2 => match putVal (.slot 3) x σ1 with
      | some σ2 => evSs ⟨evF prog m, prog.glob, prog.fuel⟩ n0 [ext8] σ2 s2
      | none => .bad) (fun i σ s => (∃ t, σ = e8 a (.tuple (ps.map Nd.tupI)) F.length t) ∧ s = ⟨F ++ [.li ((ps.take i).flatten.map .int)], []⟩) (fun i x σ s hx hI => by
      obtain ⟨⟨t, rfl⟩, rfl⟩ := hI
      have hil := (List.getElem?_eq_some_iff.mp hx).1
      rw [List.length_map] at hil
      rw [List.getElem?_map, List.getElem?_eq_getElem hil] at hx
      have hx : Nd.tupI ps[i] = x := Option.some.inj hx
      subst hx
      refine ⟨e8 a (.tuple (ps.map Nd.tupI)) F.length (some (.d (Nd.tupI ps[i]))), ⟨F ++ [.li ((ps.take (i + 1)).flatten.map .int)], []⟩, ?_, ⟨_, rfl⟩, rfl⟩
      have pv : putVal (.slot 3) (.d (Nd.tupI ps[i])) (e8 a (.tuple (ps.map Nd.tupI)) F.length t) = some (e8 a (.tuple (ps.map Nd.tupI)) F.length (some (.d (Nd.tupI ps[i])))) := rfl
      simp only [pv]
      have el : evE ⟨evF prog m, prog.glob, prog.fuel⟩ (.bi .list .fr [.v 3]) (e8 a (.tuple (ps.map Nd.tupI)) F.length (some (.d (Nd.tupI ps[i])))) ⟨F ++ [.li ((ps.take i).flatten.map .int)], []⟩ = .ok (.d (.list (ps[i].map .int))) ⟨F ++ [.li ((ps.take i).flatten.map .int)], []⟩ := by
        rw [x_bi (es_cons' (x_v rfl) es_nil')]; rfl
      have et : ps.take (i + 1) = ps.take i ++ [ps[i]] := by rw [List.take_succ_eq_append_getElem hil]
      have hlen : (ps.take (i + 1)).flatten.length ≤ ps.flatten.length := by
        have : (ps.take (i + 1)).flatten.length + (ps.drop (i + 1)).flatten.length = ps.flatten.length := by
          rw [← List.length_append, ← List.flatten_append, List.take_append_drop]
        omega
      have hle : ((ps.take i).flatten.map PyData.int).length + (ps[i].map PyData.int).length ≤ sizeMax := by
        rw [et, List.flatten_append, List.length_append, List.flatten_singleton] at hlen
        rw [List.length_map, List.length_map]; omega
      have em : evE ⟨evF prog m, prog.glob, prog.fuel⟩ (.mt .extend (.v 2) [.bi .list .fr [.v 3]]) (e8 a (.tuple (ps.map Nd.tupI)) F.length (some (.d (Nd.tupI ps[i])))) ⟨F ++ [.li ((ps.take i).flatten.map .int)], []⟩ = .ok (.d .none) ⟨F ++ [.li ((ps.take (i + 1)).flatten.map .int)], []⟩ := by
        have v2 : evE ⟨evF prog m, prog.glob, prog.fuel⟩ (.v 2) (e8 a (.tuple (ps.map Nd.tupI)) F.length (some (.d (Nd.tupI ps[i])))) ⟨F ++ [.li ((ps.take i).flatten.map .int)], []⟩ = .ok (.fl F.length) ⟨F ++ [.li ((ps.take i).flatten.map .int)], []⟩ := x_v rfl
        have g : (F ++ [Cell.li ((ps.take i).flatten.map .int)])[F.length]? = some (.li ((ps.take i).flatten.map .int)) := by rw [List.getElem?_append_right (Nat.le_refl _)]; simp
        simp only [ev_mt, v2, R.bd_ok, isDi_li (s := ⟨F ++ [.li ((ps.take i).flatten.map .int)], []⟩) g, Bool.false_eq_true, if_false, es_cons' el es_nil']
        simp only [mtV, g, if_pos hle]
        rw [et, List.flatten_append, List.map_append, List.flatten_singleton, List.set_append_right _ _ (Nat.le_refl _)]
        simp
      exact (ss_nx (s_expr em)).trans ss_nil) (ps.map Nd.tupI).length prog.fuel 0 (e8 a (.tuple (ps.map Nd.tupI)) F.length none) ⟨F ++ [.li []], []⟩ (by omega) (by rw [hf, List.length_map]; omega) ⟨⟨none, rfl⟩, rfl⟩
  rw [List.length_map, List.take_length] at e
  exact ⟨t, e⟩
end Wk

namespace Wk
open PySem Em
theorem x_all {c : Em.Ctx} {σ : Em.Env} {s s1 : Sto} {e : E} {bs : List Bool} (h : evE c e σ s = .ok (.d (.list (bs.map .bool))) s1) : evE c (.bi .all .fr [e]) σ s = .ok (.d (.bool (allB bs))) s1 := by
  rw [x_bi (es_cons' h es_nil')]
  simp only [biS, stillB, snaps, Sto.see, Sto.capt, Sto.snapF, deepB, bi, biL, biL1, biV, all_bools, Bool.false_eq_true, if_false]
/-- the gathered villages sorted, beside the range -/
def srt8 : E := .bi .sorted .fr [.v 2]
def rng8 : E := .bi .list .fr [.bi .range1 .fr [.ix (.v 0) (.k (.int 1))]]
theorem ev_srt8 (m : Nat) (F : List Cell) (a b : D) (E : List Int) (t : Option Val) (hz : E.length ≤ 1000000) :
    evE ⟨evF prog m, prog.glob, prog.fuel⟩ srt8 (e8 a b F.length t) ⟨F ++ [.li (E.map .int)], []⟩ = .ok (.d (.list (isort (E.map .int)))) ⟨F ++ [.li (E.map .int)], []⟩ := by
  have hsm : sizeMax = 16777216 := rfl
  unfold srt8
  rw [x_bi (es_cons' (x_v rfl) es_nil')]
  have g : (F ++ [Cell.li (E.map .int)])[F.length]? = some (.li (E.map .int)) := by rw [List.getElem?_append_right (Nat.le_refl _)]; simp
  have hs : sortOk (E.map .int) = true := sortOk_intro (fun x hx y hy => by
      obtain ⟨i, _, rfl⟩ := List.mem_map.mp hx
      obtain ⟨k, _, rfl⟩ := List.mem_map.mp hy
      rfl) (.inr fun x hx => by
      obtain ⟨i, _, rfl⟩ := List.mem_map.mp hx
      rfl) (fun x hx => by
      obtain ⟨i, _, rfl⟩ := List.mem_map.mp hx
      simp [PyData.depth]) (by rw [List.length_map]; omega) (fun x hx => by
      obtain ⟨i, _, rfl⟩ := List.mem_map.mp hx
      rfl)
  simp only [biS, stillB, snaps, Sto.see, Sto.capt, Sto.snapF, deepB, g, bi, biL, biL1, itemsOf, if_pos hs, mkL, Bool.false_eq_true, if_false]
theorem ev_rng8 (m : Nat) (s : Sto) (x y z b : D) (v : Int) (i : Nat) (t : Option Val) (h0 : 0 ≤ v) (h1 : v ≤ 1000) :
    evE ⟨evF prog m, prog.glob, prog.fuel⟩ rng8 (e8 (.tuple [x, .int v, z]) b i t) s = .ok (.d (.list (rngD v))) s := by
  unfold rng8
  have p1 : atD [x, .int v, z] 1 = some (.int v) := rfl
  have e := range_evI (c := ⟨evF prog m, prog.glob, prog.fuel⟩) (σ := e8 (.tuple [x, .int v, z]) b i t) (s := s) (em := .ix (.v 0) (.k (.int 1))) h0 h1 (x_ix (x_v rfl) x_k rfl p1)
  rw [x_bi (es_cons' e es_nil')]
  rfl
theorem okEq_lists (l m : List Int) : okEq (.list (l.map .int)) (.list (m.map .int)) = true := by
  unfold okEq; rw [shaped_listI, shaped_listI]; rfl
theorem okEq_sr (E : List Int) (v : Int) : okEq (.list (isort (E.map .int))) (.list (rngD v)) = true := by
  obtain ⟨m, e, _⟩ := Nd.sort_ints E
  have e : isort (E.map PyData.int) = m.map .int := e
  rw [e, rng_ints]; exact okEq_lists _ _
theorem nodup_sr {E : List Int} {v : Int} (h : PyData.eqv (.list (isort (E.map .int))) (.list (rngD v)) = true) : E.Nodup := by
  obtain ⟨m, e, hp⟩ := Nd.sort_ints E
  have e : isort (E.map PyData.int) = m.map .int := e
  rw [e, rng_ints] at h
  have h : PyData.eqvAll (m.map .int) (((List.range v.toNat).map fun (i : Nat) => (0 + (i : Int))).map .int) = true := by rw [PyData.eqv] at h; exact h
  rw [Nd.eqvAll_ints, decide_eq_true_eq] at h
  exact Nd.nodup_of_range hp h
theorem gather (m : Nat) (F : List Cell) (a : D) (ps : List (List Int)) (hz : ps.flatten.length ≤ 1000000) (hz2 : ps.length ≤ 1000) (rest : List S) :
    ∃ t, evSs ⟨evF prog m, prog.glob, prog.fuel⟩ F.length (.asg (.slot 2) (.lst .fl []) :: .for_ (.slot 3) (.v 1) [ext8] :: rest) [some (.d a), some (.d (.tuple (ps.map Nd.tupI))), none, none, none] ⟨F, []⟩ =
      evSs ⟨evF prog m, prog.glob, prog.fuel⟩ F.length rest (e8 a (.tuple (ps.map Nd.tupI)) F.length t) ⟨F ++ [.li (ps.flatten.map .int)], []⟩ := by
  obtain ⟨t, e⟩ := loop8 m F.length F a ps hz hz2
  refine ⟨t, ?_⟩
  have e1 : evE ⟨evF prog m, prog.glob, prog.fuel⟩ (.lst .fl []) [some (.d a), some (.d (.tuple (ps.map Nd.tupI))), none, none, none] ⟨F, []⟩ = .ok (.fl F.length) ⟨F ++ [.li []], []⟩ := by
    simp [mkV]
  rw [ss_nx (s_asg e1 (by simp))]
  have f2 : evS ⟨evF prog m, prog.glob, prog.fuel⟩ F.length (.for_ (.slot 3) (.v 1) [ext8]) (e8 a (.tuple (ps.map Nd.tupI)) F.length none) ⟨F ++ [.li []], []⟩ = .ok (.nx, e8 a (.tuple (ps.map Nd.tupI)) F.length t) ⟨F ++ [.li (ps.flatten.map .int)], []⟩ := by
    have v1 : evE ⟨evF prog m, prog.glob, prog.fuel⟩ (.v 1) (e8 a (.tuple (ps.map Nd.tupI)) F.length none) ⟨F ++ [.li []], []⟩ = .ok (.d (.tuple (ps.map Nd.tupI))) ⟨F ++ [.li []], []⟩ := x_v rfl
    simp only [es_for, v1, R.bd_ok]
    exact e
  exact ss_nx f2
def partSz : D → Prop
  | .tuple l => l.length ≤ 1000 ∧ (∀ q ∈ l, szOk q = true) ∧ (l.map itemsD).flatten.length ≤ 1000000
  | _ => True
theorem szOk_of {p : D} (h : p.weight ≤ 1000) : szOk p = true := by
  cases p with
  | tuple l =>
    have := Nd.length_weight l
    simp only [PyData.weight] at h
    exact decide_eq_true (by omega)
  | list l =>
    have := Nd.length_weight l
    simp only [PyData.weight] at h
    exact decide_eq_true (by omega)
  | _ => rfl
theorem partSz_of {p : D} (h : p.weight ≤ 1000) : partSz p := by
  cases p with
  | tuple l =>
    have hl := Nd.length_weight l
    simp only [PyData.weight] at h
    have key : ∀ l : List D, (l.map itemsD).flatten.length ≤ PyData.weightAll l := by
      intro l
      induction l with
      | nil => exact Nat.le_refl _
      | cons a r ih =>
        have : (itemsD a).length ≤ a.weight := by
          cases a with
          | tuple m => simp only [itemsD, PyData.weight]; exact Nd.length_weight m
          | _ => exact Nat.zero_le _
        simp only [List.map_cons, List.flatten_cons, List.length_append, PyData.weightAll]
        omega
    have := key l
    exact ⟨by omega, fun q hq => szOk_of (by have := Nd.weight_mem hq; omega), by omega⟩
  | _ => trivial
/-- the test ahead, of a tuple of two or more: what is left of it is the look at each part -/
theorem test8 {c : Em.Ctx} {s : Sto} {a : D} {l : List D} (h2 : 2 ≤ l.length) {e : E} {b : Bool} (he : evE c e [some (.d a), some (.d (.tuple l)), none, none, none] s = .ok (.d (.bool b)) s) :
    tst (evE c (.or (.not (.isi (.v 1) ["tuple"])) (.or (.op .lt .fr (.bi .len .fr [.v 1]) (.k (.int 2))) (.not e))) [some (.d a), some (.d (.tuple l)), none, none, none] s) = .ok (!b) s := by
  apply x_tst
  have h3 : ¬ ((l.length : Int) < 2) := by omega
  rw [x_or_f (s1 := s) (by simp), x_or_f (s1 := s) (by simp; omega), x_not (x_tst he)]
theorem all_map {α : Type} (l : List α) (f : α → Bool) : allB (l.map f) = l.all f := by unfold allB; rw [List.all_map]; rfl
theorem map_bool {α : Type} (l : List α) (f : α → Bool) : (l.map fun x => PyData.bool (f x)) = (l.map f).map .bool := by rw [List.map_map]; rfl
end Wk

namespace Wk
open PySem Em
theorem nonempty {ps : List (List Int)} {v : Int} (h : (ps.map Nd.tupI).all (fun q => isLot q v && isNE q) = true) : ∀ p ∈ ps, p ≠ [] := by
  intro p hp
  have := List.all_eq_true.mp h _ (List.mem_map.mpr ⟨p, hp, rfl⟩)
  rw [Bool.and_eq_true, isNE_tup] at this
  intro z
  subst z
  exact absurd this.2 (by simp)
theorem firsts (ps : List (List Int)) : (ps.map Nd.tupI).map firstI = ps.map fun p => p.headD 0 := by
  rw [List.map_map]
  apply List.map_congr_left
  intro p _
  exact first_tup p
theorem alike_tups (ps : List (List Int)) (hn : ∀ p ∈ ps, p ≠ []) (hz : ps.length ≤ 1000) : sortOk (ps.map Nd.tupI) = true := by
  have hsm : sizeMax = 16777216 := rfl
  refine sortOk_intro (fun a ha b hb => ?_) (.inl fun a ha => ?_) (fun a ha => ?_) (by rw [List.length_map]; omega) (fun a ha => ?_)
  · obtain ⟨x, _, rfl⟩ := List.mem_map.mp ha
    obtain ⟨y, _, rfl⟩ := List.mem_map.mp hb
    unfold Nd.tupI
    simp only [PySem.W.alike]
    exact PySem.W.alike_ints x y
  · obtain ⟨x, hx, rfl⟩ := List.mem_map.mp ha
    rw [isNE_tup]
    cases x with
    | nil => exact absurd rfl (hn _ hx)
    | cons i r => rfl
  · obtain ⟨x, _, rfl⟩ := List.mem_map.mp ha
    exact SeqAt.depth_of_shaped (shaped_tupI x)
  · obtain ⟨x, _, rfl⟩ := List.mem_map.mp ha
    exact PyData.hasDict_of_canLay _ (SeqAt.canLay_of_shaped (shaped_tupI x))
theorem all_lots {l : List D} {v : Int} (h : l.all (fun q => isLot q v) = true) : ∃ ps : List (List Int), l = ps.map Nd.tupI :=
  Nd.map_of_all fun x hx => lot_ints (List.all_eq_true.mp h x hx)
end Wk

namespace Wk
open PySem Em
theorem any_empty (ps : List (List Int)) : ((ps.map Nd.tupI).any fun z => PyData.eqv z (.tuple [])) = !(ps.map Nd.tupI).all isNE := by
  induction ps with
  | nil => rfl
  | cons a r ih =>
    have : PyData.eqv (Nd.tupI a) (.tuple []) = !isNE (Nd.tupI a) := by cases a <;> rfl
    rw [List.map_cons, List.any_cons, List.all_cons, ih, this, Bool.not_and]
theorem all_both (l : List D) (v : Int) (h : l.all (fun q => isLot q v) = true) : l.all (fun q => isLot q v && isNE q) = l.all isNE := by
  induction l with
  | nil => rfl
  | cons a r ih =>
    rw [List.all_cons, Bool.and_eq_true] at h
    rw [List.all_cons, List.all_cons, ih h.2, h.1, Bool.true_and]
end Wk

namespace Wk
open PySem Em
theorem x_repr {c : Em.Ctx} {σ : Em.Env} {s s1 : Sto} {e : E} {p : D} (h : evE c e σ s = .ok (.d p) s1) (h1 : Nd.nice p = true) (h2 : p.weight ≤ 10000) (h3 : p.depth ≤ 60) : evE c (.bi .repr .fr [e]) σ s = .ok (.d (.str p.shown)) s1 := by
  have hsm : sizeMax = 16777216 := rfl
  have hb := repr_ok (Nd.nice_showable h1) (by omega) (by rw [hsm]; exact Nd.nice_shown h1 (by omega))
  have hl : biL1 .repr p = none := by cases p <;> rfl
  rw [x_bi (es_cons' h es_nil')]
  have hs : s1.see true (.d p) = some p := rfl
  show (match snaps s1 true [.d p] with | some as => bi .repr .fr as s1 | none => .bad) = _
  have : snaps s1 true [.d p] = some [p] := by simp only [snaps, hs]
  rw [this]
  simp only [bi, biL, biV, hl, hb]
theorem x_ne_same {c : Em.Ctx} {σ : Em.Env} {s s1 s2 : Sto} {a b : E} {t : Str} (ha : evE c a σ s = .ok (.d (.str t)) s1) (hb : evE c b σ s1 = .ok (.d (.str t)) s2) (hs : SeqAt.shaped (.str t) = true) : tst (evE c (.op .ne .fr a b) σ s) = .ok false s2 := by
  have h1 : okEq (.str t) (.str t) = true := by unfold okEq; rw [hs]; rfl
  have h2 : PyData.eqv (.str t) (.str t) = true := SeqAt.eqv_refl _ (SeqAt.canLay_of_shaped hs)
  rw [x_op ha hb, op2S_dd, op_neD, if_pos h1, h2]; rfl
theorem head_nice {p : D} (h : Nd.nice p = true) : headOk p = true := by
  unfold headOk
  split
  · rename_i x r
    have h' : Nd.nice (.str x) = true := by
      have : Nd.niceAll (.str x :: r) = true := by simpa only [Nd.nice] using h
      simp only [Nd.niceAll, Bool.and_eq_true] at this
      exact this.1
    have h' : PyData.strOk x = true := by simpa only [Nd.nice] using h'
    unfold SeqAt.shaped
    simp only [PyData.canLay0, h', PyData.depth]
    rfl
  · rfl
/-- parameters by keywords -/
theorem evF_kw {P : Prog} {n f : Nat} {d : Def} {vs us : List Val} {kws : List (Nat × Val)} {F : List Cell} (hd : P.fn f = some d) (ho : order d.npar vs kws = some us) (hl : us.length = d.npar) :
    evF P (n + 1) f vs kws F = evF P (n + 1) f us [] F := by
  rw [evF, evF]
  simp only [hd, ho, order_nil hl]
theorem x_callk {c : Em.Ctx} {σ : Em.Env} {s s1 : Sto} {f : Nat} {m : Mode} {kws : List (Nat × E)} {ks : List (Nat × Val)} (h : evKs c kws σ s = .ok ks s1) (ha : ks.all (fun p => argOk p.2) = true) : evE c (.call f m [] kws) σ s = called m s1 (c.call f [] ks s1.F) := by
  simp only [ev_call, evs_nil, h, R.bd_ok, ha, List.all_nil, Bool.and_self, if_true]
theorem ek_nil' {c : Em.Ctx} {σ : Em.Env} {s : Sto} : evKs c [] σ s = .ok [] s := by rw [evk_nil]
theorem ek_cons' {c : Em.Ctx} {σ : Em.Env} {s s1 s2 : Sto} {n : Nat} {e : E} {es : List (Nat × E)} {v : Val} {vs : List (Nat × Val)} (h : evE c e σ s = .ok v s1) (h2 : evKs c es σ s1 = .ok vs s2) : evKs c ((n, e) :: es) σ s = .ok ((n, v) :: vs) s2 := by
  simp only [evk_cons, h, h2, R.bd_ok]
theorem nice_bools (a b : Bool) : Nd.nice (.list [.bool a, .bool b]) = true ∧ (PyData.list [.bool a, .bool b]).weight ≤ 10000 ∧ (PyData.list [.bool a, .bool b]).depth ≤ 60 := by
  cases a <;> cases b <;> decide
end Wk

namespace Wk
open PySem Em
/-- a row of two truths, shown -/
theorem x_repr2 {c : Em.Ctx} {σ : Em.Env} {s s1 s2 : Sto} {e1 e2 : E} {a b : Bool} (h1 : evE c e1 σ s = .ok (.d (.bool a)) s1) (h2 : evE c e2 σ s1 = .ok (.d (.bool b)) s2) : evE c (.bi .repr .fr [.lst .fr [e1, e2]]) σ s = .ok (.d (.str (PyData.list [.bool a, .bool b]).shown)) s2 := by
  have hn := nice_bools a b
  exact x_repr (x_lst (vs := [.bool a, .bool b]) (es_cons' h1 (es_cons' h2 es_nil'))) hn.1 hn.2.1 hn.2.2
end Wk

namespace Wk
open PySem Em
/-! what is drawn is good -/
theorem droad_ini {v : Int} (hv : v ≤ 5) {q : D} (h : DRoad v q) : ini q = true ∧ q.weight ≤ 20 ∧ q.depth ≤ 1 := by
  obtain ⟨a, b, x, y, rfl, h1, h2, h3, h4, h5, h6, h7⟩ := h
  have w1 := Nd.int_weight (i := a) (k := 4) (by omega)
  have w2 := Nd.int_weight (i := b) (k := 4) (by omega)
  have w3 := Nd.int_weight (i := x) (k := 4) (by omega)
  have w4 := Nd.int_weight (i := y) (k := 4) (by omega)
  refine ⟨?_, ?_, ?_⟩
  · simp only [ini, iniAll, Bool.and_eq_true, decide_eq_true_eq, and_true]
    omega
  · have e : (PyData.tuple [.int a, .int b, .int x, .int y]).weight = (PyData.int a).weight + 1 + ((PyData.int b).weight + 1 + ((PyData.int x).weight + 1 + ((PyData.int y).weight + 1 + 0))) := rfl
    omega
  · simp [PyData.depth, PyData.depthAll]
theorem rows_ini {k : Nat} (hk : k ≤ 10) {ns : List Nat} (hl : ns.length ≤ k) (h : ∀ i ∈ ns, i < k) : ini (.tuple (ns.map fun (i : Nat) => .int (0 + (i : Int)))) = true ∧ (PyData.tuple (ns.map fun (i : Nat) => PyData.int (0 + (i : Int)))).weight ≤ 200 ∧ (PyData.tuple (ns.map fun (i : Nat) => PyData.int (0 + (i : Int)))).depth ≤ 1 := by
  refine ⟨?_, ?_, ?_⟩
  · simp only [ini]
    refine iniAll_iff.mpr fun x hx => ?_
    obtain ⟨i, hi, rfl⟩ := List.mem_map.mp hx
    have := h i hi
    simp only [ini, decide_eq_true_eq]; omega
  · have w := Nd.weightAll_const (l := ns.map fun (i : Nat) => PyData.int (0 + (i : Int))) (k := 4) fun x hx => by
      obtain ⟨i, hi, rfl⟩ := List.mem_map.mp hx
      have := h i hi
      exact Nd.int_weight (by omega)
    rw [List.length_map] at w
    simp only [PyData.weight]
    omega
  · refine Nd.depth_tup.mpr fun x hx => ?_
    obtain ⟨i, hi, rfl⟩ := List.mem_map.mp hx
    simp [PyData.depth]
/-! the rows of values -/
theorem x_mulT {c : Em.Ctx} {σ : Em.Env} {s s1 s2 : Sto} {m : Mode} {a b : E} {x : List D} {k : Int} (ha : evE c a σ s = .ok (.d (.tuple x)) s1) (hb : evE c b σ s1 = .ok (.d (.int k)) s2) (h : x ≠ [] ∧ 2 ≤ k ∧ k ≤ 1000 ∧ x.length ≤ 1000) :
    evE c (.op .mul m a b) σ s = .ok (.d (.tuple (List.replicate k.toNat x).flatten)) s2 := by
  rw [x_op ha hb, op2S_dd]
  have e : op2V .mul (.tuple x) (.int k) = some (.tuple (List.replicate k.toNat x).flatten) := by
    show (if x ≠ [] ∧ 2 ≤ k ∧ k ≤ 1000 ∧ x.length ≤ 1000 then _ else _) = _
    rw [if_pos h]
  show (match op2V .mul (.tuple x) (.int k) with | some p => R.ok (Val.d p) s2 | none => .bad) = _
  rw [e]
end Wk

namespace Wk
open PySem Em
theorem x_addL {c : Em.Ctx} {σ : Em.Env} {s s1 s2 : Sto} {a b : E} {x y : List D} (ha : evE c a σ s = .ok (.d (.list x)) s1) (hb : evE c b σ s1 = .ok (.d (.list y)) s2) (h : x.length + y.length ≤ sizeMax) : evE c (.op .add .fr a b) σ s = .ok (.d (.list (x ++ y))) s2 := by
  rw [x_op ha hb, op2S_dd, op_addL, if_pos h]; rfl
end Wk
end

section
set_option Elab.async false
set_option linter.all false
set_option maxRecDepth 100000
set_option maxHeartbeats 400000
/-! Gra: pieces of a graph; its edges a list of pairs of numbers. -/
namespace Gr
def Adj (es : List (Nat × Nat)) (w x : Nat) : Prop := (w, x) ∈ es ∨ (x, w) ∈ es
theorem Adj.symm {es : List (Nat × Nat)} {w x : Nat} (h : Adj es w x) : Adj es x w := h.elim .inr .inl
inductive Reach (es : List (Nat × Nat)) (u : Nat) : Nat → Prop
  | refl : Reach es u u
  | step {w x : Nat} : Reach es u w → Adj es w x → Reach es u x
theorem Reach.trans {es : List (Nat × Nat)} {u w x : Nat} (h : Reach es u w) (h2 : Reach es w x) : Reach es u x := by
  induction h2 with
  | refl => exact h
  | step _ a ih => exact .step ih a
theorem Reach.symm {es : List (Nat × Nat)} {u w : Nat} (h : Reach es u w) : Reach es w u := by
  induction h with
  | refl => exact .refl
  | step _ a ih => exact (Reach.step .refl a.symm).trans ih
def Ok (es : List (Nat × Nat)) (v : Nat) : Prop := ∀ e ∈ es, e.1 < v ∧ e.2 < v
theorem Reach.lt {es : List (Nat × Nat)} {v u w : Nat} (ho : Ok es v) (hu : u < v) (h : Reach es u w) : w < v := by
  induction h with
  | refl => exact hu
  | step _ a _ => exact a.elim (fun h => (ho _ h).2) fun h => (ho _ h).1
/-- what is closed holds all that is reached -/
theorem closed_reach {es : List (Nat × Nat)} {u w : Nat} {S : Nat → Prop} (h0 : S u) (hc : ∀ x y, S x → Adj es x y → S y) (h : Reach es u w) : S w := by
  induction h with
  | refl => exact h0
  | step _ a ih => exact hc _ _ ih a
open Classical in
noncomputable def comp (es : List (Nat × Nat)) (v u : Nat) : List Nat := (List.range v).filter fun w => decide (Reach es u w)
def Lead (es : List (Nat × Nat)) (r : Nat) : Prop := ∀ w, Reach es r w → r ≤ w
open Classical in
noncomputable def leads (es : List (Nat × Nat)) (v : Nat) : List Nat := (List.range v).filter fun r => decide (Lead es r)
theorem mem_comp {es : List (Nat × Nat)} {v u w : Nat} : w ∈ comp es v u ↔ w < v ∧ Reach es u w := by
  unfold comp; simp
theorem mem_leads {es : List (Nat × Nat)} {v r : Nat} : r ∈ leads es v ↔ r < v ∧ Lead es r := by
  unfold leads; simp
theorem comp_sorted (es : List (Nat × Nat)) (v u : Nat) : (comp es v u).Pairwise (· < ·) := List.pairwise_lt_range.filter _
theorem leads_sorted (es : List (Nat × Nat)) (v : Nat) : (leads es v).Pairwise (· < ·) := List.pairwise_lt_range.filter _
/-- each has a leader -/
theorem exists_lead (es : List (Nat × Nat)) : ∀ (n u : Nat), u ≤ n → ∃ r, Reach es u r ∧ Lead es r ∧ r ≤ u
  | n, u, h => by
    induction n generalizing u with
    | zero =>
      have : u = 0 := by omega
      subst this
      exact ⟨0, .refl, fun _ _ => Nat.zero_le _, Nat.le_refl _⟩
    | succ n ih =>
      by_cases hl : Lead es u
      · exact ⟨u, .refl, hl, Nat.le_refl _⟩
      · have : ∃ w, Reach es u w ∧ w < u := Classical.byContradiction fun hc => hl fun w hw => Nat.le_of_not_lt fun hlt => hc ⟨w, hw, hlt⟩
        obtain ⟨w, hw, hlt⟩ := this
        obtain ⟨r, h1, h2, h3⟩ := ih w (by omega)
        exact ⟨r, hw.trans h1, h2, by omega⟩
theorem lead_unique {es : List (Nat × Nat)} {r q : Nat} (hr : Lead es r) (hq : Lead es q) (h : Reach es r q) : r = q := Nat.le_antisymm (hr q h) (hq r h.symm)
noncomputable def lead (es : List (Nat × Nat)) (u : Nat) : Nat := (exists_lead es u u (Nat.le_refl _)).choose
theorem lead_reach (es : List (Nat × Nat)) (u : Nat) : Reach es u (lead es u) := (exists_lead es u u (Nat.le_refl _)).choose_spec.1
theorem lead_lead (es : List (Nat × Nat)) (u : Nat) : Lead es (lead es u) := (exists_lead es u u (Nat.le_refl _)).choose_spec.2.1
theorem lead_le (es : List (Nat × Nat)) (u : Nat) : lead es u ≤ u := (exists_lead es u u (Nat.le_refl _)).choose_spec.2.2
theorem lead_eq {es : List (Nat × Nat)} {u r : Nat} (hr : Lead es r) (h : Reach es u r) : lead es u = r := lead_unique (lead_lead es u) hr ((lead_reach es u).symm.trans h)
/-! ### the rounds -/
def relax (h : List Nat) (e : Nat × Nat) : List Nat := (h.set e.1 (min (h.getD e.1 0) (h.getD e.2 0))).set e.2 (min (h.getD e.1 0) (h.getD e.2 0))
def round (es : List (Nat × Nat)) (h : List Nat) : List Nat := es.foldl relax h
def rounds (es : List (Nat × Nat)) : Nat → List Nat → List Nat
  | 0, h => h
  | n + 1, h => round es (rounds es n h)
theorem relax_len (h : List Nat) (e : Nat × Nat) : (relax h e).length = h.length := by simp [relax]
theorem round_len (es : List (Nat × Nat)) : ∀ h : List Nat, (round es h).length = h.length := by
  induction es with
  | nil => intro h; rfl
  | cons e r ih => intro h; exact (ih (relax h e)).trans (relax_len h e)
theorem rounds_len (es : List (Nat × Nat)) (n : Nat) (h : List Nat) : (rounds es n h).length = h.length := by
  induction n with
  | zero => rfl
  | succ n ih => exact (round_len es _).trans ih
theorem getD_set (l : List Nat) (i j x : Nat) (hj : j < l.length) : (l.set i x).getD j 0 = if i = j then x else l.getD j 0 := by
  rw [List.getD_eq_getElem?_getD, List.getElem?_set, List.getD_eq_getElem?_getD]
  by_cases h : i = j
  · subst h; simp [hj]
  · simp [h]
theorem relax_get {h : List Nat} {e : Nat × Nat} {u : Nat} (hu : u < h.length) : (relax h e).getD u 0 = if e.2 = u ∨ e.1 = u then min (h.getD e.1 0) (h.getD e.2 0) else h.getD u 0 := by
  unfold relax
  rw [getD_set _ _ _ _ (by rw [List.length_set]; exact hu), getD_set _ _ _ _ hu]
  by_cases h2 : e.2 = u
  · simp [h2]
  · by_cases h1 : e.1 = u
    · simp [h1, h2]
    · simp [h1, h2]
theorem relax_le {h : List Nat} {e : Nat × Nat} {u : Nat} (hu : u < h.length) : (relax h e).getD u 0 ≤ h.getD u 0 := by
  rw [relax_get hu]
  split
  · rename_i hc
    rcases hc with rfl | rfl
    · exact Nat.min_le_right _ _
    · exact Nat.min_le_left _ _
  · exact Nat.le_refl _
theorem round_le {es : List (Nat × Nat)} : ∀ {h : List Nat} {u : Nat}, u < h.length → (round es h).getD u 0 ≤ h.getD u 0 := by
  induction es with
  | nil => intro h u hu; exact Nat.le_refl _
  | cons e r ih =>
    intro h u hu
    exact Nat.le_trans (ih (h := relax h e) (by rw [relax_len]; exact hu)) (relax_le hu)
theorem round_adj {es : List (Nat × Nat)} : ∀ {h : List Nat} {u w : Nat}, u < h.length → w < h.length → Adj es w u → (round es h).getD u 0 ≤ h.getD w 0 := by
  induction es with
  | nil => intro h u w _ _ a; exact a.elim (fun z => nomatch z) fun z => nomatch z
  | cons e r ih =>
    intro h u w hu hw a
    have hu' : u < (relax h e).length := by rw [relax_len]; exact hu
    have hw' : w < (relax h e).length := by rw [relax_len]; exact hw
    show (round r (relax h e)).getD u 0 ≤ _
    have first : (e = (w, u) ∨ e = (u, w)) → (round r (relax h e)).getD u 0 ≤ h.getD w 0 := by
      intro he
      refine Nat.le_trans (round_le hu') ?_
      rw [relax_get hu]
      rcases he with rfl | rfl
      · rw [if_pos (.inl rfl)]; exact Nat.min_le_left _ _
      · rw [if_pos (.inr rfl)]; exact Nat.min_le_right _ _
    rcases a with a | a
    · rcases List.mem_cons.mp a with e2 | a
      · exact first (.inl e2.symm)
      · exact Nat.le_trans (ih hu' hw' (.inl a)) (relax_le hw)
    · rcases List.mem_cons.mp a with e2 | a
      · exact first (.inr e2.symm)
      · exact Nat.le_trans (ih hu' hw' (.inr a)) (relax_le hw)
/-- homes lie in the piece -/
def Home (es : List (Nat × Nat)) (h : List Nat) : Prop := ∀ u, u < h.length → Reach es u (h.getD u 0)
theorem home_relax {es0 : List (Nat × Nat)} {h : List Nat} {e : Nat × Nat} (ho : Ok es0 h.length) (he : e ∈ es0) (hh : Home es0 h) : Home es0 (relax h e) := by
  intro u hu
  rw [relax_len] at hu
  rw [relax_get hu]
  have h1 : e.1 < h.length := (ho e he).1
  have h2 : e.2 < h.length := (ho e he).2
  have a12 : Reach es0 e.1 e.2 := .step .refl (.inl he)
  split
  · rename_i hc
    have both : ∀ m, (m = h.getD e.1 0 ∨ m = h.getD e.2 0) → Reach es0 u m := by
      intro m hm
      have hu1 : Reach es0 u e.1 := by
        rcases hc with rfl | rfl
        · exact a12.symm
        · exact .refl
      rcases hm with rfl | rfl
      · exact hu1.trans (hh _ h1)
      · exact hu1.trans (a12.trans (hh _ h2))
    rcases Nat.le_total (h.getD e.1 0) (h.getD e.2 0) with hm | hm
    · rw [Nat.min_eq_left hm]; exact both _ (.inl rfl)
    · rw [Nat.min_eq_right hm]; exact both _ (.inr rfl)
  · exact hh u hu
theorem home_round {es0 : List (Nat × Nat)} : ∀ {es : List (Nat × Nat)} {h : List Nat}, (∀ e ∈ es, e ∈ es0) → Ok es0 h.length → Home es0 h → Home es0 (round es h)
  | [], h, _, _, hh => hh
  | e :: r, h, hs, ho, hh => home_round (es := r) (h := relax h e) (fun x hx => hs x (List.mem_cons_of_mem _ hx)) (by rw [relax_len]; exact ho) (home_relax ho (hs e List.mem_cons_self) hh)
theorem home_rounds {es : List (Nat × Nat)} {h : List Nat} (ho : Ok es h.length) (hh : Home es h) : ∀ n, Home es (rounds es n h)
  | 0 => hh
  | n + 1 => home_round (fun _ h => h) (by rw [rounds_len]; exact ho) (home_rounds ho hh n)
/-- reached in so many steps -/
inductive RN (es : List (Nat × Nat)) (u : Nat) : Nat → Nat → Prop
  | refl (n : Nat) : RN es u n u
  | step {n w x : Nat} : RN es u n w → Adj es w x → RN es u (n + 1) x
theorem RN.reach {es : List (Nat × Nat)} {u n w : Nat} (h : RN es u n w) : Reach es u w := by
  induction h with
  | refl => exact .refl
  | step _ a ih => exact .step ih a
theorem RN.up {es : List (Nat × Nat)} {u n w : Nat} (h : RN es u n w) : RN es u (n + 1) w := by
  induction h with
  | refl n => exact .refl _
  | step _ a ih => exact .step ih a
theorem rounds_rn {es : List (Nat × Nat)} {h : List Nat} {r : Nat} (ho : Ok es h.length) (hh : Home es h) (hr : r < h.length) (hl : Lead es r) (h0 : h.getD r 0 = r) : ∀ n u, RN es r n u → (rounds es n h).getD u 0 = r := by
  have low : ∀ n u, u < h.length → Reach es r u → r ≤ (rounds es n h).getD u 0 := fun n u hu hru => hl _ (hru.trans (home_rounds ho hh n u (by rw [rounds_len]; exact hu)))
  have base : ∀ n, (rounds es n h).getD r 0 = r := by
    intro n
    induction n with
    | zero => exact h0
    | succ n ih =>
      have h1 := round_le (es := es) (h := rounds es n h) (u := r) (by rw [rounds_len]; exact hr)
      have h2 := low (n + 1) r hr .refl
      have h3 : (rounds es (n + 1) h).getD r 0 = (round es (rounds es n h)).getD r 0 := rfl
      omega
  intro n u hu
  induction hu with
  | refl n => exact base n
  | @step n w x hw a ih =>
    have hxv : x < h.length := (Reach.step hw.reach a).lt ho hr
    have hwv : w < h.length := hw.reach.lt ho hr
    have h1 := round_adj (es := es) (h := rounds es n h) (by rw [rounds_len]; exact hxv) (by rw [rounds_len]; exact hwv) a
    have h2 := low (n + 1) x hxv (.step hw.reach a)
    have h3 : (rounds es (n + 1) h).getD x 0 = (round es (rounds es n h)).getD x 0 := rfl
    omega
theorem filter_lt {p q : Nat → Bool} : ∀ {l : List Nat}, (∀ x ∈ l, p x = true → q x = true) → (∃ x ∈ l, q x = true ∧ p x = false) → (l.filter p).length < (l.filter q).length
  | [], _, ⟨x, hx, _⟩ => nomatch hx
  | a :: l, h, ⟨x, hx, hq, hp⟩ => by
    have hle : ∀ (l : List Nat), (∀ x ∈ l, p x = true → q x = true) → (l.filter p).length ≤ (l.filter q).length := by
      intro l hl
      induction l with
      | nil => exact Nat.le_refl _
      | cons b r ih =>
        have ih := ih fun y hy => hl y (List.mem_cons_of_mem _ hy)
        rw [List.filter_cons, List.filter_cons]
        by_cases hb : p b = true
        · rw [if_pos hb, if_pos (hl b List.mem_cons_self hb)]; simpa using ih
        · rw [if_neg hb]
          split
          · simp only [List.length_cons]; omega
          · exact ih
    have hl := fun y hy => h y (List.mem_cons_of_mem _ hy)
    rw [List.filter_cons, List.filter_cons]
    rcases List.mem_cons.mp hx with rfl | hx
    · rw [if_neg (by rw [hp]; simp), if_pos hq]
      have := hle l hl
      simp only [List.length_cons]; omega
    · have ih := filter_lt hl ⟨x, hx, hq, hp⟩
      by_cases hb : p a = true
      · rw [if_pos hb, if_pos (h a List.mem_cons_self hb)]; simpa using ih
      · rw [if_neg hb]
        split
        · simp only [List.length_cons]; omega
        · exact ih
open Classical in
/-- all that is reached is reached in as many steps as there are places -/
theorem reach_rn {es : List (Nat × Nat)} {v r : Nat} (ho : Ok es v) (hr : r < v) {u : Nat} (h : Reach es r u) : RN es r v u := by
  have key : ∀ t, (∀ x, RN es r (t + 1) x → RN es r t x) ∨ t + 1 ≤ ((List.range v).filter fun w => decide (RN es r t w)).length := by
    intro t
    induction t with
    | zero =>
      refine .inr ?_
      have : r ∈ (List.range v).filter fun w => decide (RN es r 0 w) := by simp; exact ⟨hr, .refl 0⟩
      exact List.length_pos_of_mem this
    | succ t ih =>
      by_cases hs : ∀ x, RN es r (t + 1) x → RN es r t x
      · refine .inl fun x hx => ?_
        cases hx with
        | refl => exact .refl _
        | step hw a => exact .step (hs _ hw) a
      · rcases ih with ih | ih
        · exact absurd ih hs
        · have : ∃ x, RN es r (t + 1) x ∧ ¬ RN es r t x := Classical.byContradiction fun hc => hs fun x hx => Classical.byContradiction fun hn => hc ⟨x, hx, hn⟩
          obtain ⟨x, hx, hn⟩ := this
          have hlt := filter_lt (l := List.range v) (p := fun w => decide (RN es r t w)) (q := fun w => decide (RN es r (t + 1) w)) (fun y _ hy => by
            have hy := of_decide_eq_true hy
            exact decide_eq_true hy.up) ⟨x, List.mem_range.mpr (hx.reach.lt ho hr), decide_eq_true hx, decide_eq_false hn⟩
          exact .inr (by omega)
  have stable : ∀ x, RN es r (v + 1) x → RN es r v x := by
    rcases key v with h | h
    · exact h
    · have := List.length_filter_le (fun w => decide (RN es r v w)) (List.range v)
      rw [List.length_range] at this
      omega
  induction h with
  | refl => exact .refl _
  | step _ a ih => exact stable _ (.step ih a)
/-- the homes behind as many rounds as places -/
theorem homes_lead {es : List (Nat × Nat)} {v : Nat} (ho : Ok es v) : rounds es v (List.range v) = (List.range v).map (lead es) := by
  have hlen : (List.range v).length = v := List.length_range
  have hg : ∀ u, u < v → (List.range v).getD u 0 = u := fun u hu => by
    rw [List.getD_eq_getElem?_getD, List.getElem?_range hu]; rfl
  have hh : Home es (List.range v) := fun u hu => by
    rw [hlen] at hu
    rw [hg u hu]; exact .refl
  apply List.ext_getElem
  · rw [rounds_len, List.length_map]
  · intro u h1 h2
    rw [rounds_len, hlen] at h1
    rw [List.getElem_map, List.getElem_range]
    have hr : lead es u < v := Nat.lt_of_le_of_lt (lead_le es u) h1
    have := rounds_rn (r := lead es u) (h := List.range v) (by rw [hlen]; exact ho) hh (by rw [hlen]; exact hr) (lead_lead es u) (hg _ hr) v u (reach_rn ho hr (lead_reach es u).symm)
    rw [List.getD_eq_getElem?_getD, List.getElem?_eq_getElem (by rw [rounds_len, hlen]; exact h1)] at this
    exact this
end Gr
end

section
set_option Elab.async false
set_option linter.all false
set_option maxRecDepth 100000
set_option maxHeartbeats 400000
/-! Grb: the search, as it stands between two steps. -/
namespace Gr
/-- how much is left to do -/
def left2 (v : Nat) (found left : List Nat) : Nat := 2 * ((List.range v).filter fun x => !found.contains x).length + left.length
/-- found, not yet looked around: left; here: who is being looked around -/
structure Srch (es : List (Nat × Nat)) (v u : Nat) (found left : List Nat) (here : Nat → Prop) : Prop where
  nd : found.Nodup
  mem : u ∈ found
  rch : ∀ x ∈ found, Reach es u x
  lt : ∀ x ∈ found, x < v
  sub : ∀ x ∈ left, x ∈ found
  cl : ∀ x ∈ found, ¬ here x → x ∉ left → ∀ y, Adj es x y → y ∈ found
theorem Srch.push {es : List (Nat × Nat)} {v u : Nat} {found left : List Nat} {here : Nat → Prop} (h : Srch es v u found left here) {y : Nat} (hy : y ∉ found) (hr : Reach es u y) (hv : y < v) : Srch es v u (found ++ [y]) (left ++ [y]) here ∧ left2 v (found ++ [y]) (left ++ [y]) < left2 v found left := by
  refine ⟨⟨?_, ?_, ?_, ?_, ?_, ?_⟩, ?_⟩
  · exact List.nodup_append.mpr ⟨h.nd, by simp, fun a ha b hb => by rw [List.mem_singleton.mp hb]; exact fun e => hy (e ▸ ha)⟩
  · exact List.mem_append.mpr (.inl h.mem)
  · intro x hx
    rcases List.mem_append.mp hx with hx | hx
    · exact h.rch x hx
    · rw [List.mem_singleton.mp hx]; exact hr
  · intro x hx
    rcases List.mem_append.mp hx with hx | hx
    · exact h.lt x hx
    · rw [List.mem_singleton.mp hx]; exact hv
  · intro x hx
    rcases List.mem_append.mp hx with hx | hx
    · exact List.mem_append.mpr (.inl (h.sub x hx))
    · exact List.mem_append.mpr (.inr hx)
  · intro x hx hh hl z ha
    rcases List.mem_append.mp hx with hx | hx
    · exact List.mem_append.mpr (.inl (h.cl x hx hh (fun q => hl (List.mem_append.mpr (.inl q))) z ha))
    · exact absurd (List.mem_append.mpr (.inr hx)) hl
  · unfold left2
    have := filter_lt (l := List.range v) (p := fun x => !(found ++ [y]).contains x) (q := fun x => !found.contains x) (fun x _ hx => by
      simp only [List.contains_eq_mem, Bool.not_eq_true', decide_eq_false_iff_not, List.mem_append] at hx ⊢
      exact fun z => hx (.inl z)) ⟨y, List.mem_range.mpr hv, by simp [hy], by simp⟩
    rw [List.length_append, List.length_singleton]
    omega
theorem Srch.done {es : List (Nat × Nat)} {v u : Nat} {found : List Nat} (h : Srch es v u found [] fun _ => False) (hu : u < v) (ho : Ok es v) : ∀ w, w ∈ found ↔ w ∈ comp es v u := by
  intro w
  rw [mem_comp]
  constructor
  · exact fun hw => ⟨h.lt w hw, h.rch w hw⟩
  · rintro ⟨_, hw⟩
    exact closed_reach (S := fun x => x ∈ found) h.mem (fun x y hx a => h.cl x hx (fun z => z) (by simp) y a) hw
theorem Srch.start {es : List (Nat × Nat)} {v u : Nat} (hu : u < v) : Srch es v u [u] [u] fun _ => False :=
  ⟨by simp, by simp, fun x hx => by rw [List.mem_singleton.mp hx]; exact .refl, fun x hx => by rw [List.mem_singleton.mp hx]; exact hu, fun x hx => hx, fun x hx _ hl => absurd hx hl⟩
/-- the last of left is taken -/
theorem Srch.take {es : List (Nat × Nat)} {v u : Nat} {found left : List Nat} {w : Nat} (h : Srch es v u found (left ++ [w]) fun _ => False) : Srch es v u found left (fun x => x = w) ∧ left2 v found left < left2 v found (left ++ [w]) :=
  ⟨⟨h.nd, h.mem, h.rch, h.lt, fun x hx => h.sub x (List.mem_append.mpr (.inl hx)), fun x hx hh hl => h.cl x hx (fun z => z) fun q => by
    rcases List.mem_append.mp q with q | q
    · exact hl q
    · exact hh (List.mem_singleton.mp q)⟩, by unfold left2; rw [List.length_append, List.length_singleton]; omega⟩
/-- all around it found -/
theorem Srch.back {es : List (Nat × Nat)} {v u : Nat} {found left : List Nat} {w : Nat} (h : Srch es v u found left (fun x => x = w)) (hw : ∀ y, Adj es w y → y ∈ found) : Srch es v u found left fun _ => False :=
  ⟨h.nd, h.mem, h.rch, h.lt, h.sub, fun x hx _ hl y a => by
    by_cases e : x = w
    · subst e; exact hw y a
    · exact h.cl x hx e hl y a⟩
/-- sorted, of numbers, none twice -/
theorem sort_nat {l m : List Nat} (hd : l.Nodup) (hs : m.Pairwise (· < ·)) (h : ∀ x, x ∈ l ↔ x ∈ m) : ((l.map fun (i : Nat) => PySem.PyData.int (i : Int)).mergeSort Nd.le) = m.map fun (i : Nat) => PySem.PyData.int (i : Int) := by
  have e1 : ∀ l : List Nat, (l.map fun (i : Nat) => PySem.PyData.int (i : Int)) = (l.map fun (i : Nat) => (i : Int)).map .int := fun l => by rw [List.map_map]; rfl
  rw [e1, e1]
  obtain ⟨k, e, hp⟩ := Nd.sort_ints (l.map fun (i : Nat) => (i : Int))
  rw [e]
  congr 1
  have s := List.pairwise_mergeSort (le := Nd.le) (fun a b c h1 h2 => Nd.le_total.trans a b c h1 h2) (fun a b => by have := Nd.le_total.total a b; simpa using this) ((l.map fun (i : Nat) => (i : Int)).map .int)
  rw [e, List.pairwise_map] at s
  have s : k.Pairwise (· ≤ ·) := s.imp fun {a b} h => by rw [Nd.le_int, decide_eq_true_eq] at h; exact h
  have nd : k.Nodup := hp.nodup_iff.mpr (List.pairwise_map.mpr (hd.imp fun {a b} h => by omega))
  have st : k.Pairwise (· < ·) := (s.and nd).imp fun {a b} h => by have := h.1; have := h.2; omega
  refine Em.sorted_unique st (List.pairwise_map.mpr (hs.imp fun {a b} h => by omega)) fun x => ?_
  rw [hp.mem_iff, List.mem_map, List.mem_map]
  constructor
  · rintro ⟨a, ha, rfl⟩; exact ⟨a, (h a).mp ha, rfl⟩
  · rintro ⟨a, ha, rfl⟩; exact ⟨a, (h a).mpr ha, rfl⟩
end Gr
end

section
set_option Elab.async false
set_option linter.all false
set_option maxRecDepth 100000
set_option maxHeartbeats 400000
/-! Grc: the pieces, by leaders. -/
namespace Gr
noncomputable def pieces (es : List (Nat × Nat)) (v : Nat) : List (List Nat) := (leads es v).map (comp es v)
open Classical in
theorem leads_succ (es : List (Nat × Nat)) (i : Nat) : leads es (i + 1) = leads es i ++ if Lead es i then [i] else [] := by
  unfold leads
  rw [List.range_succ, List.filter_append]
  congr 1
  by_cases h : Lead es i <;> simp [h]
theorem known_iff {es : List (Nat × Nat)} {v i : Nat} (hi : i < v) {known : List Nat} (hk : ∀ w, w ∈ known ↔ ∃ r ∈ leads es i, w ∈ comp es v r) : i ∈ known ↔ ¬ Lead es i := by
  rw [hk]
  constructor
  · rintro ⟨r, hr, hc⟩ hl
    obtain ⟨h1, h2⟩ := mem_leads.mp hr
    have := hl r (mem_comp.mp hc).2.symm
    omega
  · intro hn
    have h1 := lead_le es i
    have h2 := lead_lead es i
    have h3 : lead es i ≠ i := fun e => hn (e ▸ h2)
    exact ⟨lead es i, mem_leads.mpr ⟨by omega, h2⟩, mem_comp.mpr ⟨hi, (lead_reach es i).symm⟩⟩
theorem lead_iff {es : List (Nat × Nat)} {r w : Nat} (hr : Lead es r) : lead es w = r ↔ Reach es r w := by
  constructor
  · intro e; have := (lead_reach es w).symm; rw [e] at this; exact this
  · exact fun h => lead_eq hr h.symm
theorem filter_comp {es : List (Nat × Nat)} {v r : Nat} (hr : Lead es r) : ((List.range v).filter fun w => decide (lead es w = r)) = comp es v r := by
  unfold comp
  apply List.filter_congr
  intro w _
  exact decide_eq_decide.mpr (lead_iff hr)
theorem sset_leads {es : List (Nat × Nat)} {v : Nat} : Em.ssetI (((List.range v).map (lead es)).map fun (i : Nat) => (i : Int)) = (leads es v).map fun (i : Nat) => (i : Int) := by
  refine Em.sorted_unique (Em.sset_sorted _) (List.pairwise_map.mpr ((leads_sorted es v).imp fun {a b} h => by omega)) fun k => ?_
  rw [Em.sset_mem, List.mem_map, List.mem_map]
  constructor
  · rintro ⟨a, ha, rfl⟩
    obtain ⟨u, hu, rfl⟩ := List.mem_map.mp ha
    have hu := List.mem_range.mp hu
    exact ⟨_, mem_leads.mpr ⟨Nat.lt_of_le_of_lt (lead_le es u) hu, lead_lead es u⟩, rfl⟩
  · rintro ⟨r, hr, rfl⟩
    obtain ⟨h1, h2⟩ := mem_leads.mp hr
    exact ⟨r, List.mem_map.mpr ⟨r, List.mem_range.mpr h1, lead_eq h2 .refl⟩, rfl⟩
end Gr
end

section
set_option Elab.async false
set_option linter.all false
set_option maxRecDepth 100000
set_option maxHeartbeats 400000
namespace Em
open PySem
theorem loopW_inv {cd : Env → Sto → R Bool} {f : Env → Sto → R (Fl × Env)} {J : Env → Sto → Prop} (I : Nat → Env → Sto → Prop)
    (step : ∀ m σ s, I m σ s → ∃ b s1, cd σ s = .ok b s1 ∧ (b = true → ∃ σ' s' m', f σ s1 = .ok (.nx, σ') s' ∧ m' < m ∧ I m' σ' s') ∧ (b = false → J σ s1)) :
    ∀ n m σ s, m < n → I m σ s → ∃ σ' s', loopW cd f n σ s = .ok (.nx, σ') s' ∧ J σ' s'
  | 0, m, _, _, h, _ => absurd h (by omega)
  | n + 1, m, σ, s, h, hI => by
    obtain ⟨b, s1, e1, ht, hf⟩ := step m σ s hI
    rw [loopW, e1]
    cases b with
    | false => exact ⟨σ, s1, rfl, hf rfl⟩
    | true =>
      obtain ⟨σ', s', m', e2, hm, hI'⟩ := ht rfl
      obtain ⟨σ2, s2, e3, hJ⟩ := loopW_inv I step n m' σ' s' (by omega) hI'
      refine ⟨σ2, s2, ?_, hJ⟩
      simp only [R.bd_ok, if_true, e2]
      exact e3
end Em
namespace Wk
open PySem Em
/-- numbers as data -/
def natD (l : List Nat) : List D := l.map fun (i : Nat) => .int (i : Int)
theorem natD_len (l : List Nat) : (natD l).length = l.length := List.length_map _
theorem range_natD (k : Nat) : ((List.range k).map fun (i : Nat) => PyData.int (0 + (i : Int))) = natD (List.range k) := by
  unfold natD; simp
theorem natD_ints (l : List Nat) : natD l = (l.map fun (i : Nat) => (i : Int)).map .int := by
  unfold natD; rw [List.map_map]; rfl
theorem atD_natD {l : List Nat} {i : Nat} (h : i < l.length) : atD (natD l) (i : Int) = some (.int (l[i] : Int)) := by
  rw [atD_nat (natD l) i (by rw [natD_len]; exact h)]
  simp [natD]
/-- a shire's data, beside the ends of its roads -/
def shD (v : Nat) (rs : List D) : D := .tuple [.str shireS, .int (v : Int), .tuple rs]
def Sh (v : Nat) (rs : List D) (en : List (Nat × Nat)) : Prop := rs.length = en.length ∧ ∀ (i : Nat) (h : i < en.length), ∃ x y : Int, rs[i]? = some (.tuple [.int (en[i].1 : Int), .int (en[i].2 : Int), .int x, .int y]) ∧ en[i].1 < en[i].2 ∧ en[i].2 < v
theorem sh_of {v : Nat} : ∀ {rs : List D}, (∀ q ∈ rs, DRoad (v : Int) q) → ∃ en, Sh v rs en
  | [], _ => ⟨[], rfl, fun i h => nomatch h⟩
  | q :: rs, h => by
    obtain ⟨en, hl, he⟩ := sh_of fun q hq => h q (List.mem_cons_of_mem _ hq)
    obtain ⟨a, b, x, y, rfl, h1, h2, h3, _⟩ := h q List.mem_cons_self
    refine ⟨(a.toNat, b.toNat) :: en, by simp [hl], fun i hi => ?_⟩
    cases i with
    | zero =>
      refine ⟨x, y, ?_, ?_, ?_⟩
      · have e1 : ((a.toNat : Nat) : Int) = a := Int.toNat_of_nonneg h1
        have e2 : ((b.toNat : Nat) : Int) = b := Int.toNat_of_nonneg (by omega)
        simp [e1, e2]
      · show a.toNat < b.toNat; omega
      · show b.toNat < v; omega
    | succ i =>
      obtain ⟨x, y, e, h4⟩ := he i (by simpa using hi)
      exact ⟨x, y, by simpa using e, by simpa using h4⟩
def es (en : List (Nat × Nat)) (ns : List Nat) : List (Nat × Nat) := ns.map fun i => en.getD i (0, 0)
theorem es_ok {v : Nat} {rs : List D} {en : List (Nat × Nat)} (hS : Sh v rs en) {ns : List Nat} (hn : ∀ i ∈ ns, i < en.length) : Gr.Ok (es en ns) v := by
  intro e he
  obtain ⟨i, hi, rfl⟩ := List.mem_map.mp he
  have hl := hn i hi
  obtain ⟨x, y, _, h1, h2⟩ := hS.2 i hl
  have : en.getD i (0, 0) = en[i] := by rw [List.getD_eq_getElem?_getD, List.getElem?_eq_getElem hl]; rfl
  rw [this]
  omega
section
variable {v : Nat} {rs : List D} {en : List (Nat × Nat)}
theorem p_v (rs : List D) : atD [.str shireS, .int (v : Int), .tuple rs] 1 = some (.int (v : Int)) := rfl
theorem p_r (rs : List D) : atD [.str shireS, .int (v : Int), .tuple rs] 2 = some (.tuple rs) := rfl
/-- a road of the shire -/
theorem x_road (hS : Sh v rs en) {c : Em.Ctx} {σ : Em.Env} {s : Sto} {a b : E} {i : Nat} (hi : i < en.length) (ha : evE c a σ s = .ok (.d (shD v rs)) s) (hb : evE c b σ s = .ok (.d (.int (i : Int))) s) :
    ∃ x y : Int, evE c (.ix (.ix a (.k (.int 2))) b) σ s = .ok (.d (.tuple [.int (en[i].1 : Int), .int (en[i].2 : Int), .int x, .int y])) s := by
  obtain ⟨x, y, e, _⟩ := hS.2 i hi
  refine ⟨x, y, x_ix (x_ix ha x_k rfl (p_r rs)) hb rfl ?_⟩
  have hl : i < rs.length := by rw [hS.1]; exact hi
  rw [atD_nat rs i hl]
  rw [List.getElem?_eq_getElem hl] at e
  exact e
theorem x_ends (hS : Sh v rs en) {c : Em.Ctx} {σ : Em.Env} {s : Sto} {a b : E} {i : Nat} (hi : i < en.length) (ha : evE c a σ s = .ok (.d (shD v rs)) s) (hb : evE c b σ s = .ok (.d (.int (i : Int))) s) :
    evE c (.sl .fr (.ix (.ix a (.k (.int 2))) b) none (some (.k (.int 2)))) σ s = .ok (.d (.tuple [.int (en[i].1 : Int), .int (en[i].2 : Int)])) s := by
  obtain ⟨x, y, e⟩ := x_road hS hi ha hb
  have hc : Em.cut [.int (en[i].1 : Int), .int (en[i].2 : Int), .int x, .int y] none (some 2) = [.int (en[i].1 : Int), .int (en[i].2 : Int)] := rfl
  simp only [ev_sl, e, R.bd_ok, evo_none, evo_some, ev_k]
  simp [hc]
theorem ev11 (n : Nat) (F : List Cell) (hz : rs.length ≤ 1000) : evF prog (n + 1) 11 [.d (shD v rs)] [] F = .ok (.d (.tuple (natD (List.range rs.length)))) ⟨F, []⟩ := by
  rw [evF_step (d := d11) rfl rfl]
  have er := range_ev (c := ⟨evF prog n, prog.glob, prog.fuel⟩) (σ := [some (.d (shD v rs))]) (s := ⟨F, []⟩) (em := .bi .len .fr [.ix (.v 0) (.k (.int 2))]) (k := rs.length) hz (by
    rw [x_bi (es_cons' (x_ix (x_v rfl) x_k rfl (p_r rs)) es_nil')]; rfl)
  rw [range_natD] at er
  have s0 : Em.start d11 [.d (shD v rs)] = [some (.d (shD v rs))] := rfl
  have body : d11.body = [.ret (.bi .tuple .fr [.bi .range1 .fr [.bi .len .fr [.ix (.v 0) (.k (.int 2))]]])] := rfl
  have et : evE ⟨evF prog n, prog.glob, prog.fuel⟩ (.bi .tuple .fr [.bi .range1 .fr [.bi .len .fr [.ix (.v 0) (.k (.int 2))]]]) [some (.d (shD v rs))] ⟨F, []⟩ = .ok (.d (.tuple (natD (List.range rs.length)))) ⟨F, []⟩ := by
    rw [x_bi (es_cons' er es_nil')]; rfl
  rw [s0, body, ss_rt (s_ret et)]
  simp only [R.bd_ok, Em.finish, List.take_length]
theorem ev12 (n : Nat) (F : List Cell) (hz : v ≤ 1000) : evF prog (n + 1) 12 [.d (shD v rs)] [] F = .ok (.d (.tuple (natD (List.range v)))) ⟨F, []⟩ := by
  rw [evF_step (d := d12) rfl rfl]
  have er := range_ev (c := ⟨evF prog n, prog.glob, prog.fuel⟩) (σ := [some (.d (shD v rs))]) (s := ⟨F, []⟩) (em := .ix (.v 0) (.k (.int 1))) (k := v) hz (x_ix (x_v rfl) x_k rfl (p_v rs))
  rw [range_natD] at er
  have s0 : Em.start d12 [.d (shD v rs)] = [some (.d (shD v rs))] := rfl
  have body : d12.body = [.ret (.bi .tuple .fr [.bi .range1 .fr [.ix (.v 0) (.k (.int 1))]])] := rfl
  have et : evE ⟨evF prog n, prog.glob, prog.fuel⟩ (.bi .tuple .fr [.bi .range1 .fr [.ix (.v 0) (.k (.int 1))]]) [some (.d (shD v rs))] ⟨F, []⟩ = .ok (.d (.tuple (natD (List.range v)))) ⟨F, []⟩ := by
    rw [x_bi (es_cons' er es_nil')]; rfl
  rw [s0, body, ss_rt (s_ret et)]
  simp only [R.bd_ok, Em.finish, List.take_length]
theorem ev13 (hS : Sh v rs en) (n : Nat) (F : List Cell) {i : Nat} (hi : i < en.length) : evF prog (n + 1) 13 [.d (shD v rs), .d (.int (i : Int))] [] F = .ok (.d (.tuple [.int (en[i].1 : Int), .int (en[i].2 : Int)])) ⟨F, []⟩ := by
  rw [evF_step (d := d13) rfl rfl]
  have s0 : Em.start d13 [.d (shD v rs), .d (.int (i : Int))] = [some (.d (shD v rs)), some (.d (.int (i : Int)))] := rfl
  have body : d13.body = [.ret (.sl .fr (.ix (.ix (.v 0) (.k (.int 2))) (.v 1)) none (some (.k (.int 2))))] := rfl
  rw [s0, body, ss_rt (s_ret (x_ends hS hi (x_v rfl) (x_v rfl)))]
  simp only [R.bd_ok, Em.finish, List.take_length]
theorem x_call14 (hS : Sh v rs en) {n : Nat} {σ : Em.Env} {F : List Cell} {N : List (List Val)} {a b : E} {i : Nat} (hi : i < en.length) (ha : evE ⟨evF prog (n + 1), prog.glob, prog.fuel⟩ a σ ⟨F, N⟩ = .ok (.d (shD v rs)) ⟨F, N⟩) (hb : evE ⟨evF prog (n + 1), prog.glob, prog.fuel⟩ b σ ⟨F, N⟩ = .ok (.d (.int (i : Int))) ⟨F, N⟩) :
    evE ⟨evF prog (n + 1), prog.glob, prog.fuel⟩ (.call 13 .fr [a, b] []) σ ⟨F, N⟩ = .ok (.d (.tuple [.int (en[i].1 : Int), .int (en[i].2 : Int)])) ⟨F, N⟩ := by
  rw [x_call (es_cons' ha (es_cons' hb es_nil')) rfl]
  show called .fr _ (evF prog (n + 1) 13 [.d (shD v rs), .d (.int (i : Int))] [] F) = _
  rw [ev13 hS n F hi]; rfl
def other (e : Nat × Nat) (w : Nat) : Nat := if w = e.1 then e.2 else e.1
theorem ev14 (hS : Sh v rs en) (n : Nat) (F : List Cell) {i : Nat} (hi : i < en.length) (w : Nat) : evF prog (n + 2) 14 [.d (shD v rs), .d (.int (i : Int)), .d (.int (w : Int))] [] F = .ok (.d (.int (other en[i] w : Int))) ⟨F, []⟩ := by
  rw [evF_step (d := d14) rfl rfl]
  have s0 : Em.start d14 [.d (shD v rs), .d (.int (i : Int)), .d (.int (w : Int))] = [some (.d (shD v rs)), some (.d (.int (i : Int))), some (.d (.int (w : Int))), none, none] := rfl
  have body : d14.body = [.asg (.tup [.slot 3, .slot 4]) (.call 13 .fr [.v 0, .v 1] []), .ret (.ite (.op .eq .fr (.v 2) (.v 3)) (.v 4) (.v 3))] := rfl
  have f1 : evS ⟨evF prog (n + 1), prog.glob, prog.fuel⟩ F.length (.asg (.tup [.slot 3, .slot 4]) (.call 13 .fr [.v 0, .v 1] [])) [some (.d (shD v rs)), some (.d (.int (i : Int))), some (.d (.int (w : Int))), none, none] ⟨F, []⟩ = .ok (.nx, [some (.d (shD v rs)), some (.d (.int (i : Int))), some (.d (.int (w : Int))), some (.d (.int (en[i].1 : Int))), some (.d (.int (en[i].2 : Int)))]) ⟨F, []⟩ := by
    simp only [es_asg, x_call14 hS (n := n) (F := F) (N := []) hi (x_v (i := 0) (σ := [some (.d (shD v rs)), some (.d (.int (i : Int))), some (.d (.int (w : Int))), none, none]) rfl) (x_v (i := 1) rfl), R.bd_ok]
    rfl
  have e2 : evE ⟨evF prog (n + 1), prog.glob, prog.fuel⟩ (.ite (.op .eq .fr (.v 2) (.v 3)) (.v 4) (.v 3)) [some (.d (shD v rs)), some (.d (.int (i : Int))), some (.d (.int (w : Int))), some (.d (.int (en[i].1 : Int))), some (.d (.int (en[i].2 : Int)))] ⟨F, []⟩ = .ok (.d (.int (other en[i] w : Int))) ⟨F, []⟩ := by
    by_cases h : w = en[i].1
    · have h2 : (w : Int) = (en[i].1 : Int) := by omega
      simp [other, h]
    · have h2 : ¬ (w : Int) = (en[i].1 : Int) := by omega
      simp [other, h, h2]
  rw [s0, body, ss_nx f1, ss_rt (s_ret e2)]
  simp only [R.bd_ok, Em.finish, List.take_length]
/-- x in (a, b), of numbers -/
theorem in_pair (w a b : Nat) : okEq (.int (w : Int)) (.tuple [.int (a : Int), .int (b : Int)]) = true ∧ ([PyData.int (a : Int), .int (b : Int)].any fun z => PyData.eqv z (.int (w : Int))) = decide (w = a ∨ w = b) := by
  constructor
  · rfl
  · simp only [List.any_cons, List.any_nil, Bool.or_false, eqv_int]
    by_cases h1 : w = a
    · subst h1; simp
    · by_cases h2 : w = b
      · subst h2; simp
      · have h3 : ((a : Int) == (w : Int)) = false := beq_eq_false_iff_ne.mpr (by omega)
        have h4 : ((b : Int) == (w : Int)) = false := beq_eq_false_iff_ne.mpr (by omega)
        simp [h1, h2, h3, h4]
def touch (en : List (Nat × Nat)) (w i : Nat) : Bool := decide (w = (en.getD i (0, 0)).1 ∨ w = (en.getD i (0, 0)).2)
theorem getD_en {i : Nat} (hi : i < en.length) : en.getD i (0, 0) = en[i] := by rw [List.getD_eq_getElem?_getD, List.getElem?_eq_getElem hi]; rfl
/-- a comprehension over numbers that leaves the store as it is -/
theorem lc_nat {f : Val → Sto → R (Option Val)} {v : Val} {l : List Nat} (hn : Items v (natD l)) {s : Sto} {fuel : Nat} (p : Nat → Bool) (g : Nat → D) (hf : ∀ i ∈ l, f (.d (.int (i : Int))) s = .ok (if p i = true then some (Val.d (g i)) else none) s) (hz : l.length ≤ sizeMax) (hfu : l.length < fuel) :
    loopC f v fuel 0 s [] = .ok (((l.filter p).map g).map Val.d) s := by
  have key : ∀ l : List Nat, (natD l).filterMap (fun q => match q with | .int i => if p i.toNat = true then some (g i.toNat) else none | _ => none) = (l.filter p).map g := by
    intro l
    induction l with
    | nil => rfl
    | cons a r ih =>
      have e : natD (a :: r) = .int (a : Int) :: natD r := rfl
      rw [e, List.filterMap_cons]
      simp only [Int.toNat_natCast]
      by_cases h : p a = true
      · simp [h, ih]
      · simp [h, ih]
  have := lc_pure hn (s := s) (fuel := fuel) (f := f) (fun q => match q with | .int i => if p i.toNat = true then some (g i.toNat) else none | _ => none) (fun x hx => by
    obtain ⟨i, hi, rfl⟩ := List.mem_map.mp hx
    rw [hf i hi]
    simp only [Int.toNat_natCast]
    by_cases h : p i = true <;> simp [h]) (by rw [natD_len]; exact hz) (by rw [natD_len]; exact hfu)
  rw [key] at this
  exact this
theorem ev15 (hS : Sh v rs en) (n : Nat) (F : List Cell) (ns : List Nat) (hn : ∀ i ∈ ns, i < en.length) (hz : ns.length ≤ 1000) (w : Nat) :
    evF prog (n + 2) 15 [.d (shD v rs), .d (.tuple (natD ns)), .d (.int (w : Int))] [] F = .ok (.fl F.length) ⟨F ++ [.li (natD (ns.filter (touch en w)))], []⟩ := by
  have hf : prog.fuel = 1000000 := rfl
  have hsm : sizeMax = 16777216 := rfl
  rw [evF_step (d := d15) rfl rfl]
  have s0 : Em.start d15 [.d (shD v rs), .d (.tuple (natD ns)), .d (.int (w : Int))] = [some (.d (shD v rs)), some (.d (.tuple (natD ns))), some (.d (.int (w : Int))), none] := rfl
  have body : d15.body = [.ret (.lc .fl (.v 3) (.slot 3) (.v 1) (some (.op .isIn .fr (.v 2) (.call 13 .fr [.v 0, .v 3] []))) [3])] := rfl
  have lp := lc_nat (f := lcF ⟨evF prog (n + 1), prog.glob, prog.fuel⟩ (.v 3) (.slot 3) (some (.op .isIn .fr (.v 2) (.call 13 .fr [.v 0, .v 3] []))) [3] [some (.d (shD v rs)), some (.d (.tuple (natD ns))), some (.d (.int (w : Int))), none]) (items_tup (natD ns)) (s := ⟨F, []⟩) (fuel := prog.fuel) (touch en w) (fun i => .int (i : Int)) (fun i hi => by
    have hil := hn i hi
    have pv : putVal (.slot 3) (.d (.int (i : Int))) (Em.wipe [some (.d (shD v rs)), some (.d (.tuple (natD ns))), some (.d (.int (w : Int))), none] [3]) = some [some (.d (shD v rs)), some (.d (.tuple (natD ns))), some (.d (.int (w : Int))), some (.d (.int (i : Int)))] := rfl
    have ec : evE ⟨evF prog (n + 1), prog.glob, prog.fuel⟩ (.op .isIn .fr (.v 2) (.call 13 .fr [.v 0, .v 3] [])) [some (.d (shD v rs)), some (.d (.tuple (natD ns))), some (.d (.int (w : Int))), some (.d (.int (i : Int)))] ⟨F, []⟩ = .ok (.d (.bool (touch en w i))) ⟨F, []⟩ := by
      rw [x_op (x_v rfl) (x_call14 hS (n := n) hil (x_v rfl) (x_v rfl)), op2S_dd, op_inT, if_pos (in_pair _ _ _).1, (in_pair _ _ _).2]
      unfold touch
      rw [getD_en hil]
    have e3 : evE ⟨evF prog (n + 1), prog.glob, prog.fuel⟩ (.v 3) [some (.d (shD v rs)), some (.d (.tuple (natD ns))), some (.d (.int (w : Int))), some (.d (.int (i : Int)))] ⟨F, []⟩ = .ok (.d (.int (i : Int))) ⟨F, []⟩ := x_v rfl
    unfold lcF
    simp only [pv, x_tst ec, R.bd_ok, e3]
    cases touch en w i <;> rfl) (by omega) (by rw [hf]; omega)
  have el := x_lc (m := .fl) (x_v (i := 1) (σ := [some (.d (shD v rs)), some (.d (.tuple (natD ns))), some (.d (.int (w : Int))), none]) (s := ⟨F, []⟩) rfl) lp
  have mv : mkV .fl (((ns.filter (touch en w)).map fun (i : Nat) => PyData.int (i : Int)).map Val.d) ⟨F, []⟩ = .ok (.fl F.length) ⟨F ++ [.li (natD (ns.filter (touch en w)))], []⟩ := by
    unfold mkV
    rw [mapM_d]
    rfl
  rw [mv] at el
  rw [s0, body]
  have g : (F ++ [Cell.li (natD (ns.filter (touch en w)))])[F.length]? = some (.li (natD (ns.filter (touch en w)))) := by rw [List.getElem?_append_right (Nat.le_refl _)]; simp
  have er : evS ⟨evF prog (n + 1), prog.glob, prog.fuel⟩ F.length (.ret (.lc .fl (.v 3) (.slot 3) (.v 1) (some (.op .isIn .fr (.v 2) (.call 13 .fr [.v 0, .v 3] []))) [3])) [some (.d (shD v rs)), some (.d (.tuple (natD ns))), some (.d (.int (w : Int))), none] ⟨F, []⟩ = .ok (.rt (.new (.li (natD (ns.filter (touch en w))))), [some (.d (shD v rs)), some (.d (.tuple (natD ns))), some (.d (.int (w : Int))), none]) ⟨F ++ [.li (natD (ns.filter (touch en w)))], []⟩ := by
    simp only [es_ret, el, R.bd_ok, finR, Nat.lt_irrefl, if_false, g, Option.map_some]
  rw [ss_rt er]
  have tk : (F ++ [Cell.li (natD (ns.filter (touch en w)))]).take F.length = F := by simp
  simp only [R.bd_ok, Em.finish, tk]
end
end Wk
end

section
set_option Elab.async false
set_option linter.all false
set_option maxRecDepth 100000
set_option maxHeartbeats 400000
namespace Wk
open PySem Em
def s17 (F : List Cell) (found left : List Nat) : Sto := ⟨F ++ [.li (natD found), .li (natD left)], []⟩
def e17 (sh lot : D) (u : Nat) (k : Nat) (h r t : Option Val) : Em.Env := [some (.d sh), some (.d lot), some (.d (.int (u : Int))), some (.fl k), some (.fl (k + 1)), h, r, t]
theorem s17_found (F : List Cell) (found left : List Nat) : (s17 F found left).F[F.length]? = some (.li (natD found)) := by
  show (F ++ [Cell.li (natD found), .li (natD left)])[F.length]? = _
  rw [List.getElem?_append_right (Nat.le_refl _)]; simp
theorem s17_left (F : List Cell) (found left : List Nat) : (s17 F found left).F[F.length + 1]? = some (.li (natD left)) := by
  show (F ++ [Cell.li (natD found), .li (natD left)])[F.length + 1]? = _
  rw [List.getElem?_append_right (by omega)]; simp
theorem s17_set1 (F : List Cell) (found left f' : List Nat) : (s17 F found left).F.set F.length (.li (natD f')) = (s17 F f' left).F := by
  show (F ++ [Cell.li (natD found), .li (natD left)]).set F.length _ = F ++ [.li (natD f'), .li (natD left)]
  rw [List.set_append_right _ _ (Nat.le_refl _)]; simp
theorem s17_set2 (F : List Cell) (found left l' : List Nat) : (s17 F found left).F.set (F.length + 1) (.li (natD l')) = (s17 F found l').F := by
  show (F ++ [Cell.li (natD found), .li (natD left)]).set (F.length + 1) _ = F ++ [.li (natD found), .li (natD l')]
  rw [List.set_append_right _ _ (by omega)]; simp
theorem shaped_natD (l : List Nat) : SeqAt.shaped (.list (natD l)) = true := by rw [natD_ints]; exact shaped_listI _
theorem eqv_natD (l m : List Nat) : PyData.eqv (.list (natD l)) (.list (natD m)) = decide (l = m) := by
  rw [PyData.eqv, natD_ints, natD_ints, Nd.eqvAll_ints]
  by_cases h : l = m
  · subst h; simp
  · rw [decide_eq_false h]
    refine decide_eq_false fun e => h ?_
    have := congrArg (List.map Int.toNat) e
    simpa [List.map_map, Function.comp_def] using this
theorem in_natD (x : Nat) (l : List Nat) : ((natD l).any fun z => PyData.eqv z (.int (x : Int))) = l.contains x := by
  induction l with
  | nil => rfl
  | cons a r ih =>
    have e : natD (a :: r) = .int (a : Int) :: natD r := rfl
    have e2 : PyData.eqv (.int (a : Int)) (.int (x : Int)) = (x == a) := by
      show ((a : Int) == (x : Int)) = _
      by_cases h : x = a
      · subst h; simp
      · rw [beq_eq_false_iff_ne.mpr (by omega : (a : Int) ≠ (x : Int)), beq_eq_false_iff_ne.mpr h]
    rw [e, List.any_cons, ih, List.contains_cons, e2]
/-- x not in found, found a list of the store -/
theorem x_notIn {c : Em.Ctx} {σ : Em.Env} {s : Sto} {a b : E} {x i : Nat} {l : List Nat} (ha : evE c a σ s = .ok (.d (.int (x : Int))) s) (hb : evE c b σ s = .ok (.fl i) s) (hg : s.F[i]? = some (.li (natD l))) : evE c (.op .notIn .fr a b) σ s = .ok (.d (.bool (!l.contains x))) s := by
  rw [x_op ha hb]
  have h1 : s.see false (.d (.int (x : Int))) = some (.int (x : Int)) := rfl
  have h2 : s.see false (.fl i) = some (.list (natD l)) := by
    show s.snapF (.fl i) = _
    simp only [Sto.snapF, hg]
  have ho : okEq (.int (x : Int)) (.list (natD l)) = true := by unfold okEq; rw [shaped_natD]; rfl
  show (match s.see false (.d (.int (x : Int))), s.see false (.fl i) with | some p, some q => op2 .notIn .fr p q s | _, _ => .bad) = _
  rw [h1, h2]
  show op2 .notIn .fr (.int (x : Int)) (.list (natD l)) s = _
  have e : op2V .notIn (.int (x : Int)) (.list (natD l)) = some (.bool (!l.contains x)) := by
    show (if okEq (.int (x : Int)) (.list (natD l)) = true then some (PyData.bool (!(natD l).any fun z => PyData.eqv z (.int (x : Int)))) else none) = _
    rw [if_pos ho, in_natD]
  show (match op2V .notIn (.int (x : Int)) (.list (natD l)) with | some p => R.ok (Val.d p) s | none => .bad) = _
  rw [e]
/-- l.append(x), l a list of the store -/
theorem x_append {c : Em.Ctx} {σ : Em.Env} {s : Sto} {a b : E} {p : D} {i : Nat} {l : List D} (ha : evE c a σ s = .ok (.fl i) s) (hb : evE c b σ s = .ok (.d p) s) (hg : s.F[i]? = some (.li l)) (hz : l.length < sizeMax) : evE c (.mt .append a [b]) σ s = .ok (.d .none) { s with F := s.F.set i (.li (l ++ [p])) } := by
  simp only [ev_mt, ha, R.bd_ok, isDi_li hg, Bool.false_eq_true, if_false, es_cons' hb es_nil', mtV, hg, if_pos hz]
theorem natD_snoc (l : List Nat) (x : Nat) : natD l ++ [.int (x : Int)] = natD (l ++ [x]) := by unfold natD; rw [List.map_append]; rfl
theorem nodup_len : ∀ (m : Nat) (l : List Nat), l.Nodup → (∀ x ∈ l, x < m) → l.length ≤ m
  | 0, [], _, _ => Nat.le_refl _
  | 0, a :: r, _, hl => absurd (hl a List.mem_cons_self) (by omega)
  | m + 1, l, hd, hl => by
    have := nodup_len m (l.erase m) (hd.erase m) fun x hx => by
      have h1 := hl x (List.mem_of_mem_erase hx)
      have h2 : x ≠ m := fun z => by
        subst z
        exact (List.Nodup.not_mem_erase hd) hx
      omega
    have h3 := List.length_erase (a := m) (l := l)
    split at h3 <;> omega
theorem touch_adj {en : List (Nat × Nat)} {ns : List Nat} {w i : Nat} (hi : i ∈ ns) (h : touch en w i = true) : Gr.Adj (es en ns) w (other (en.getD i (0, 0)) w) := by
  have hin : en.getD i (0, 0) ∈ es en ns := List.mem_map.mpr ⟨_, hi, rfl⟩
  unfold touch at h
  rw [decide_eq_true_eq] at h
  unfold other
  generalize en.getD i (0, 0) = e at *
  obtain ⟨a, b⟩ := e
  by_cases hw1 : w = a
  · subst hw1; rw [if_pos rfl]; exact .inl hin
  · rw [if_neg hw1]
    rcases h with h | h
    · exact absurd h hw1
    · have h : w = b := h
      subst h; exact .inr hin
theorem adj_touch {en : List (Nat × Nat)} {ns : List Nat} {w y : Nat} (h : Gr.Adj (es en ns) w y) : ∃ i, i ∈ ns ∧ touch en w i = true ∧ other (en.getD i (0, 0)) w = y := by
  rcases h with h | h
  · obtain ⟨i, hi, e⟩ := List.mem_map.mp h
    refine ⟨i, hi, ?_, ?_⟩
    · unfold touch; rw [e]; simp
    · unfold other; rw [e]; simp
  · obtain ⟨i, hi, e⟩ := List.mem_map.mp h
    refine ⟨i, hi, ?_, ?_⟩
    · unfold touch; rw [e]; simp
    · unfold other; rw [e]
      by_cases hw : w = y
      · subst hw; simp
      · rw [if_neg hw]
def bod17 : List S := [.asg (.slot 7) (.call 14 .fr [.v 0, .v 6, .v 5] []), .ite (.op .notIn .fr (.v 7) (.v 3)) [.expr (.mt .append (.v 3) [.v 7]), .expr (.mt .append (.v 4) [.v 7])] []]
section
variable {v : Nat} {rs : List D} {en : List (Nat × Nat)}
theorem x_call15 (hS : Sh v rs en) {n : Nat} {σ : Em.Env} {F : List Cell} {N : List (List Val)} {a b e : E} {i w : Nat} (hi : i < en.length) (ha : evE ⟨evF prog (n + 2), prog.glob, prog.fuel⟩ a σ ⟨F, N⟩ = .ok (.d (shD v rs)) ⟨F, N⟩) (hb : evE ⟨evF prog (n + 2), prog.glob, prog.fuel⟩ b σ ⟨F, N⟩ = .ok (.d (.int (i : Int))) ⟨F, N⟩) (he : evE ⟨evF prog (n + 2), prog.glob, prog.fuel⟩ e σ ⟨F, N⟩ = .ok (.d (.int (w : Int))) ⟨F, N⟩) :
    evE ⟨evF prog (n + 2), prog.glob, prog.fuel⟩ (.call 14 .fr [a, b, e] []) σ ⟨F, N⟩ = .ok (.d (.int (other en[i] w : Int))) ⟨F, N⟩ := by
  rw [x_call (es_cons' ha (es_cons' hb (es_cons' he es_nil'))) rfl]
  show called .fr _ (evF prog (n + 2) 14 [.d (shD v rs), .d (.int (i : Int)), .d (.int (w : Int))] [] F) = _
  rw [ev14 hS n F hi w]; rfl
/-- one road looked at -/
theorem turn17 (hS : Sh v rs en) (n n0 : Nat) (F : List Cell) (lot : D) (u i w : Nat) (hi : i < en.length) (r t : Option Val) (found left : List Nat) (hz1 : found.length ≤ 1000) (hz2 : left.length ≤ 1000) :
    ∃ t', evSs ⟨evF prog (n + 2), prog.glob, prog.fuel⟩ n0 bod17 (e17 (shD v rs) lot u F.length (some (.d (.int (w : Int)))) (some (.d (.int (i : Int)))) t) (s17 F found left) =
      .ok (.nx, e17 (shD v rs) lot u F.length (some (.d (.int (w : Int)))) (some (.d (.int (i : Int)))) t') (if found.contains (other en[i] w) = true then s17 F found left else s17 F (found ++ [other en[i] w]) (left ++ [other en[i] w])) := by
  have hsm : sizeMax = 16777216 := rfl
  refine ⟨some (.d (.int (other en[i] w : Int))), ?_⟩
  have e1 : evE ⟨evF prog (n + 2), prog.glob, prog.fuel⟩ (.call 14 .fr [.v 0, .v 6, .v 5] []) (e17 (shD v rs) lot u F.length (some (.d (.int (w : Int)))) (some (.d (.int (i : Int)))) t) (s17 F found left) = .ok (.d (.int (other en[i] w : Int))) (s17 F found left) := x_call15 hS hi (x_v rfl) (x_v rfl) (x_v rfl)
  have f1 : evS ⟨evF prog (n + 2), prog.glob, prog.fuel⟩ n0 (.asg (.slot 7) (.call 14 .fr [.v 0, .v 6, .v 5] [])) (e17 (shD v rs) lot u F.length (some (.d (.int (w : Int)))) (some (.d (.int (i : Int)))) t) (s17 F found left) = .ok (.nx, e17 (shD v rs) lot u F.length (some (.d (.int (w : Int)))) (some (.d (.int (i : Int)))) (some (.d (.int (other en[i] w : Int))))) (s17 F found left) := s_asg e1 (by simp [e17])
  rw [bod17, ss_nx f1]
  have ec := x_notIn (c := ⟨evF prog (n + 2), prog.glob, prog.fuel⟩) (σ := e17 (shD v rs) lot u F.length (some (.d (.int (w : Int)))) (some (.d (.int (i : Int)))) (some (.d (.int (other en[i] w : Int))))) (s := s17 F found left) (a := .v 7) (b := .v 3) (x := other en[i] w) (i := F.length) (l := found) (x_v rfl) (x_v rfl) (s17_found F found left)
  cases hb : found.contains (other en[i] w) with
  | true =>
    rw [hb] at ec
    exact (ss_nx ((s_ite_f (x_tst ec)).trans ss_nil)).trans ss_nil
  | false =>
    rw [hb] at ec
    have a1 := x_append (c := ⟨evF prog (n + 2), prog.glob, prog.fuel⟩) (σ := e17 (shD v rs) lot u F.length (some (.d (.int (w : Int)))) (some (.d (.int (i : Int)))) (some (.d (.int (other en[i] w : Int))))) (s := s17 F found left) (a := .v 3) (b := .v 7) (p := .int (other en[i] w : Int)) (i := F.length) (x_v rfl) (x_v rfl) (s17_found F found left) (by rw [natD_len]; omega)
    rw [natD_snoc, s17_set1] at a1
    have a2 := x_append (c := ⟨evF prog (n + 2), prog.glob, prog.fuel⟩) (σ := e17 (shD v rs) lot u F.length (some (.d (.int (w : Int)))) (some (.d (.int (i : Int)))) (some (.d (.int (other en[i] w : Int))))) (s := s17 F (found ++ [other en[i] w]) left) (a := .v 4) (b := .v 7) (p := .int (other en[i] w : Int)) (i := F.length + 1) (x_v rfl) (x_v rfl) (s17_left F _ left) (by rw [natD_len]; omega)
    rw [natD_snoc, s17_set2] at a2
    exact (ss_nx ((s_ite_t (x_tst ec)).trans ((ss_nx (s_expr a1)).trans ((ss_nx (s_expr a2)).trans ss_nil)))).trans ss_nil
/-- the roads at a village, one after another -/
theorem loop17 (hS : Sh v rs en) (n n0 : Nat) (F : List Cell) (lot : D) (u w : Nat) (hv : v ≤ 100) (ns qs : List Nat) (hn : ∀ i ∈ ns, i < en.length) (hq : qs = ns.filter (touch en w)) (hqz : qs.length ≤ 1000) (r t : Option Val) (found left : List Nat) (hI : Gr.Srch (es en ns) v u found left (fun x => x = w)) (hw : w ∈ found) (hlz : left.length ≤ 100) :
    ∃ r' t' found' left', loopS (fun σ1 x s2 => match putVal (.slot 6) x σ1 with
      | some σ2 => evSs ⟨evF prog (n + 2), prog.glob, prog.fuel⟩ n0 bod17 σ2 s2
      | none => .bad) (.d (.list (natD qs))) prog.fuel 0 (e17 (shD v rs) lot u F.length (some (.d (.int (w : Int)))) r t) (s17 F found left) = .ok (.nx, e17 (shD v rs) lot u F.length (some (.d (.int (w : Int)))) r' t') (s17 F found' left') ∧
      Gr.Srch (es en ns) v u found' left' (fun x => x = w) ∧ Gr.left2 v found' left' ≤ Gr.left2 v found left ∧ (∀ i ∈ qs, other (en.getD i (0, 0)) w ∈ found') := by
  have hf : prog.fuel = 1000000 := rfl
  have hl2 : Gr.left2 v found left ≤ 2 * v + 100 := by
    unfold Gr.left2
    have := List.length_filter_le (fun x => !found.contains x) (List.range v)
    rw [List.length_range] at this
    omega
  obtain ⟨σ', s', e, found', left', r', t', rfl, rfl, h1, h2, h3, h4⟩ := loopS_inv (items_list (natD qs)) (f := fun σ1 x s2 => match putVal (.slot 6) x σ1 with
      | some σ2 => evSs ⟨evF prog (n + 2), prog.glob, prog.fuel⟩ n0 bod17 σ2 s2
      | none => .bad) (fun k σ s => ∃ (found' left' : List Nat) (r' t' : Option Val), σ = e17 (shD v rs) lot u F.length (some (.d (.int (w : Int)))) r' t' ∧ s = s17 F found' left' ∧ Gr.Srch (es en ns) v u found' left' (fun x => x = w) ∧ Gr.left2 v found' left' ≤ Gr.left2 v found left ∧ (∀ i ∈ qs.take k, other (en.getD i (0, 0)) w ∈ found') ∧ w ∈ found') (fun k x σ s hx hI => by
      obtain ⟨f1, l1, r1, t1, rfl, rfl, g1, g2, g3, g4⟩ := hI
      have hil := (List.getElem?_eq_some_iff.mp hx).1
      rw [natD_len] at hil
      have hx : x = .int (qs[k] : Int) := by
        have := (List.getElem?_eq_some_iff.mp hx).2
        rw [← this]; simp [natD]
      subst hx
      have hmem : qs[k] ∈ qs := List.getElem_mem hil
      have hmf : qs[k] ∈ ns.filter (touch en w) := hq ▸ hmem
      have hkn : qs[k] ∈ ns := (List.mem_filter.mp hmf).1
      have htk : touch en w qs[k] = true := (List.mem_filter.mp hmf).2
      have hke := hn _ hkn
      have hedge : Gr.Adj (es en ns) w (other (en.getD qs[k] (0, 0)) w) := touch_adj hkn htk
      have hov : other (en.getD qs[k] (0, 0)) w < v := (Gr.Reach.step (g1.rch w g4) hedge).lt (es_ok hS hn) (g1.lt u g1.mem)
      have hor : Gr.Reach (es en ns) u (other (en.getD qs[k] (0, 0)) w) := .step (g1.rch w g4) hedge
      have hl1 : l1.length ≤ 1000 := by unfold Gr.left2 at g2; unfold Gr.left2 at hl2; omega
      have hf1 : f1.length ≤ 1000 := by
        have hsub : f1.length ≤ v := nodup_len v f1 g1.nd g1.lt
        omega
      have hen : en.getD qs[k] (0, 0) = en[qs[k]] := getD_en hke
      obtain ⟨t', e⟩ := turn17 hS n n0 F lot u qs[k] w hke r1 t1 f1 l1 hf1 hl1
      rw [← hen] at e
      have pv : putVal (.slot 6) (.d (.int (qs[k] : Int))) (e17 (shD v rs) lot u F.length (some (.d (.int (w : Int)))) r1 t1) = some (e17 (shD v rs) lot u F.length (some (.d (.int (w : Int)))) (some (.d (.int (qs[k] : Int)))) t1) := rfl
      have htake : qs.take (k + 1) = qs.take k ++ [qs[k]] := by rw [List.take_succ_eq_append_getElem hil]
      cases hc : f1.contains (other (en.getD qs[k] (0, 0)) w) with
      | true =>
        rw [hc, if_pos rfl] at e
        refine ⟨_, s17 F f1 l1, by simp only [pv]; exact e, f1, l1, some (.d (.int (qs[k] : Int))), t', rfl, rfl, g1, g2, fun i hi => ?_, g4⟩
        rw [htake] at hi
        rcases List.mem_append.mp hi with hi | hi
        · exact g3 i hi
        · rw [List.mem_singleton.mp hi]; exact List.contains_iff_mem.mp hc
      | false =>
        rw [hc, if_neg (by simp)] at e
        have hnm : other (en.getD qs[k] (0, 0)) w ∉ f1 := fun z => by rw [List.contains_iff_mem.mpr z] at hc; cases hc
        obtain ⟨p1, p2⟩ := g1.push hnm hor hov
        refine ⟨_, s17 F (f1 ++ [other (en.getD qs[k] (0, 0)) w]) (l1 ++ [other (en.getD qs[k] (0, 0)) w]), by simp only [pv]; exact e, f1 ++ [other (en.getD qs[k] (0, 0)) w], l1 ++ [other (en.getD qs[k] (0, 0)) w], some (.d (.int (qs[k] : Int))), t', rfl, rfl, p1, by omega, fun i hi => ?_, List.mem_append.mpr (.inl g4)⟩
        rw [htake] at hi
        rcases List.mem_append.mp hi with hi | hi
        · exact List.mem_append.mpr (.inl (g3 i hi))
        · rw [List.mem_singleton.mp hi]; exact List.mem_append.mpr (.inr (by simp))) qs.length prog.fuel 0 (e17 (shD v rs) lot u F.length (some (.d (.int (w : Int)))) r t) (s17 F found left) (by rw [natD_len]; omega) (by rw [hf]; omega) ⟨found, left, r, t, rfl, rfl, hI, Nat.le_refl _, (fun i hi => by simp at hi), hw⟩
  rw [natD_len, List.take_length] at h3
  exact ⟨r', t', found', left', e, h1, h2, h3⟩
end
end Wk
end

section
set_option Elab.async false
set_option linter.all false
set_option maxRecDepth 100000
set_option maxHeartbeats 400000
namespace Wk
open PySem Em
theorem sortOk_natD (l : List Nat) (hz : l.length ≤ 1000) : sortOk (natD l) = true := by
  have hsm : sizeMax = 16777216 := rfl
  refine sortOk_intro (fun a ha b hb => ?_) (.inr fun a ha => ?_) (fun a ha => ?_) (by rw [natD_len]; omega) (fun a ha => ?_)
  · obtain ⟨i, _, rfl⟩ := List.mem_map.mp ha
    obtain ⟨j, _, rfl⟩ := List.mem_map.mp hb
    rfl
  · obtain ⟨i, _, rfl⟩ := List.mem_map.mp ha
    rfl
  · obtain ⟨i, _, rfl⟩ := List.mem_map.mp ha
    simp [PyData.depth]
  · obtain ⟨i, _, rfl⟩ := List.mem_map.mp ha
    rfl
theorem isort_natD {l m : List Nat} (hd : l.Nodup) (hs : m.Pairwise (· < ·)) (h : ∀ x, x ∈ l ↔ x ∈ m) : isort (natD l) = natD m := Gr.sort_nat hd hs h
theorem x_sortedF {c : Em.Ctx} {σ : Em.Env} {s s1 : Sto} {e : E} {i : Nat} {l : List D} (h : evE c e σ s = .ok (.fl i) s1) (hg : s1.F[i]? = some (.li l)) (hs : sortOk l = true) : evE c (.bi .sorted .fr [e]) σ s = .ok (.d (.list (isort l))) s1 := by
  rw [x_bi (es_cons' h es_nil')]
  simp only [biS, stillB, snaps, Sto.see, Sto.capt, Sto.snapF, deepB, hg, bi, biL, biL1, itemsOf, if_pos hs, mkL, Bool.false_eq_true, if_false]
/-- l != [], l a list of the store -/
theorem x_neNil {c : Em.Ctx} {σ : Em.Env} {s : Sto} {a : E} {i : Nat} {l : List Nat} (ha : evE c a σ s = .ok (.fl i) s) (hg : s.F[i]? = some (.li (natD l))) : evE c (.op .ne .fr a (.lst .fr [])) σ s = .ok (.d (.bool (!decide (l = [])))) s := by
  rw [x_op ha (x_lst (vs := []) es_nil')]
  have h2 : s.see true (.fl i) = some (.list (natD l)) := by
    show s.snap (.fl i) = _
    simp only [Sto.snap, Sto.snapF, hg]
  have ho : okEq (.list (natD l)) (.list []) = true := by unfold okEq; rw [shaped_natD]; decide +kernel
  show (match s.see true (.fl i), s.see true (.d (.list [])) with | some p, some q => op2 .ne .fr p q s | _, _ => .bad) = _
  rw [h2]
  show op2 .ne .fr (.list (natD l)) (.list (natD [])) s = _
  rw [op_neD, if_pos (by exact ho), eqv_natD]
theorem x_pop {c : Em.Ctx} {σ : Em.Env} {s : Sto} {a : E} {i w : Nat} {l : List Nat} (ha : evE c a σ s = .ok (.fl i) s) (hg : s.F[i]? = some (.li (natD (l ++ [w])))) : evE c (.mt .pop a []) σ s = .ok (.d (.int (w : Int))) { s with F := s.F.set i (.li (natD l)) } := by
  have h1 : (natD (l ++ [w])).getLast? = some (.int (w : Int)) := by rw [← natD_snoc]; simp
  have h2 : (natD (l ++ [w])).dropLast = natD l := by rw [← natD_snoc]; simp
  simp only [ev_mt, ha, R.bd_ok, isDi_li hg, Bool.false_eq_true, if_false, es_nil', mtV, hg, h1, h2]
def bod17w : List S := [.asg (.slot 5) (.mt .pop (.v 4) []), .for_ (.slot 6) (.call 15 .fr [.v 0, .v 1, .v 5] []) bod17]
section
variable {v : Nat} {rs : List D} {en : List (Nat × Nat)}
/-- one village looked around -/
theorem around17 (hS : Sh v rs en) (n n0 : Nat) (F : List Cell) (u w : Nat) (hv : v ≤ 40) (ns : List Nat) (hn : ∀ i ∈ ns, i < en.length) (hz : ns.length ≤ 1000) (h r t : Option Val) (found left : List Nat) (hI : Gr.Srch (es en ns) v u found (left ++ [w]) (fun _ => False)) (hlz : left.length ≤ 100) :
    ∃ h' r' t' found' left', evSs ⟨evF prog (n + 2), prog.glob, prog.fuel⟩ n0 bod17w (e17 (shD v rs) (.tuple (natD ns)) u F.length h r t) (s17 F found (left ++ [w])) = .ok (.nx, e17 (shD v rs) (.tuple (natD ns)) u F.length h' r' t') (s17 F found' left') ∧
      Gr.Srch (es en ns) v u found' left' (fun _ => False) ∧ Gr.left2 v found' left' < Gr.left2 v found (left ++ [w]) := by
  obtain ⟨t1, t2⟩ := hI.take
  have hw : w ∈ found := hI.sub w (by simp)
  have e1 := x_pop (c := ⟨evF prog (n + 2), prog.glob, prog.fuel⟩) (σ := e17 (shD v rs) (.tuple (natD ns)) u F.length h r t) (s := s17 F found (left ++ [w])) (a := .v 4) (i := F.length + 1) (w := w) (l := left) (x_v rfl) (s17_left F found _)
  rw [s17_set2] at e1
  have f1 : evS ⟨evF prog (n + 2), prog.glob, prog.fuel⟩ n0 (.asg (.slot 5) (.mt .pop (.v 4) [])) (e17 (shD v rs) (.tuple (natD ns)) u F.length h r t) (s17 F found (left ++ [w])) = .ok (.nx, e17 (shD v rs) (.tuple (natD ns)) u F.length (some (.d (.int (w : Int)))) r t) (s17 F found left) := s_asg e1 (by simp [e17])
  have hqz : (ns.filter (touch en w)).length ≤ 1000 := Nat.le_trans (List.length_filter_le _ _) hz
  have e2 : evE ⟨evF prog (n + 2), prog.glob, prog.fuel⟩ (.call 15 .fr [.v 0, .v 1, .v 5] []) (e17 (shD v rs) (.tuple (natD ns)) u F.length (some (.d (.int (w : Int)))) r t) (s17 F found left) = .ok (.d (.list (natD (ns.filter (touch en w))))) (s17 F found left) := by
    rw [x_call (es_cons' (x_v rfl) (es_cons' (x_v rfl) (es_cons' (x_v rfl) es_nil'))) rfl]
    show called .fr (s17 F found left) (evF prog (n + 2) 15 [.d (shD v rs), .d (.tuple (natD ns)), .d (.int (w : Int))] [] (s17 F found left).F) = _
    rw [ev15 hS n _ ns hn hz w]
    exact called_new rfl
  obtain ⟨r', t', found', left', e3, g1, g2, g3⟩ := loop17 hS n n0 F (.tuple (natD ns)) u w (by omega) ns _ hn rfl hqz r t found left t1 hw hlz
  refine ⟨some (.d (.int (w : Int))), r', t', found', left', ?_, g1.back fun y a => ?_, by omega⟩
  · rw [bod17w, ss_nx f1]
    refine (ss_nx ?_).trans ss_nil
    simp only [es_for, e2, R.bd_ok]
    exact e3
  · obtain ⟨i, hi, ht, ho⟩ := adj_touch a
    rw [← ho]
    exact g3 i (List.mem_filter.mpr ⟨hi, ht⟩)
theorem body17 : d16.body = [.asgs [3, 4] [.lst .fl [.v 2], .lst .fl [.v 2]], .while_ (.op .ne .fr (.v 4) (.lst .fr [])) bod17w, .ret (.bi .tuple .fr [.bi .sorted .fr [.v 3]])] := rfl
theorem ev16 (hS : Sh v rs en) (n : Nat) (F : List Cell) (u : Nat) (hu : u < v) (hv : v ≤ 40) (ns : List Nat) (hn : ∀ i ∈ ns, i < en.length) (hz : ns.length ≤ 1000) :
    evF prog (n + 3) 16 [.d (shD v rs), .d (.tuple (natD ns)), .d (.int (u : Int))] [] F = .ok (.d (.tuple (natD (Gr.comp (es en ns) v u)))) ⟨F, []⟩ := by
  have hf : prog.fuel = 1000000 := rfl
  rw [evF_step (d := d16) rfl rfl, body17]
  have s0 : Em.start d16 [.d (shD v rs), .d (.tuple (natD ns)), .d (.int (u : Int))] = [some (.d (shD v rs)), some (.d (.tuple (natD ns))), some (.d (.int (u : Int))), none, none, none, none, none] := rfl
  rw [s0]
  have f1 : evS ⟨evF prog (n + 2), prog.glob, prog.fuel⟩ F.length (.asgs [3, 4] [.lst .fl [.v 2], .lst .fl [.v 2]]) [some (.d (shD v rs)), some (.d (.tuple (natD ns))), some (.d (.int (u : Int))), none, none, none, none, none] ⟨F, []⟩ = .ok (.nx, e17 (shD v rs) (.tuple (natD ns)) u F.length none none none) (s17 F [u] [u]) := by
    have : natD [u] = [.int (u : Int)] := rfl
    simp [mkV, putSlots, e17, s17, this]
  obtain ⟨σ', s', e2, found, h, r, t, rfl, rfl, g⟩ := loopW_inv (cd := fun σ1 s1 => tst (evE ⟨evF prog (n + 2), prog.glob, prog.fuel⟩ (.op .ne .fr (.v 4) (.lst .fr [])) σ1 s1)) (f := fun σ1 s1 => evSs ⟨evF prog (n + 2), prog.glob, prog.fuel⟩ F.length bod17w σ1 s1)
    (J := fun σ s => ∃ (found : List Nat) (h r t : Option Val), σ = e17 (shD v rs) (.tuple (natD ns)) u F.length h r t ∧ s = s17 F found [] ∧ Gr.Srch (es en ns) v u found [] (fun _ => False))
    (fun m σ s => ∃ (found left : List Nat) (h r t : Option Val), σ = e17 (shD v rs) (.tuple (natD ns)) u F.length h r t ∧ s = s17 F found left ∧ Gr.Srch (es en ns) v u found left (fun _ => False) ∧ m = Gr.left2 v found left ∧ m ≤ 2 * v + 1) (fun m σ s hI => by
      obtain ⟨found, left, h, r, t, rfl, rfl, g1, rfl, g2⟩ := hI
      have ec := x_neNil (c := ⟨evF prog (n + 2), prog.glob, prog.fuel⟩) (σ := e17 (shD v rs) (.tuple (natD ns)) u F.length h r t) (s := s17 F found left) (a := .v 4) (i := F.length + 1) (l := left) (x_v rfl) (s17_left F found left)
      refine ⟨!decide (left = []), _, x_tst ec, fun hb => ?_, fun hb => ?_⟩
      · have hne : left ≠ [] := by simpa using hb
        have hsplit : left = left.dropLast ++ [left.getLast hne] := (List.dropLast_concat_getLast hne).symm
        generalize left.dropLast = l at hsplit
        generalize left.getLast hne = w at hsplit
        subst hsplit
        have hl : l.length ≤ 100 := by unfold Gr.left2 at g2; rw [List.length_append] at g2; omega
        obtain ⟨h', r', t', f', l', e, q1, q2⟩ := around17 hS n F.length F u w hv ns hn hz h r t found l g1 hl
        exact ⟨_, _, _, e, q2, f', l', h', r', t', rfl, rfl, q1, rfl, by omega⟩
      · have hnil : left = [] := by simpa using hb
        subst hnil
        exact ⟨found, h, r, t, rfl, rfl, g1⟩) prog.fuel (Gr.left2 v [u] [u]) (e17 (shD v rs) (.tuple (natD ns)) u F.length none none none) (s17 F [u] [u]) (by
      have := List.length_filter_le (fun x => ![u].contains x) (List.range v)
      rw [List.length_range] at this
      unfold Gr.left2
      rw [hf, List.length_singleton]; omega) ⟨[u], [u], none, none, none, rfl, rfl, Gr.Srch.start hu, rfl, by
      have := List.length_filter_le (fun x => ![u].contains x) (List.range v)
      rw [List.length_range] at this
      unfold Gr.left2
      rw [List.length_singleton]; omega⟩
  have f2 : evS ⟨evF prog (n + 2), prog.glob, prog.fuel⟩ F.length (.while_ (.op .ne .fr (.v 4) (.lst .fr [])) bod17w) (e17 (shD v rs) (.tuple (natD ns)) u F.length none none none) (s17 F [u] [u]) = .ok (.nx, e17 (shD v rs) (.tuple (natD ns)) u F.length h r t) (s17 F found []) := by
    simp only [es_while]
    exact e2
  have hlen : found.length ≤ 1000 := by have := nodup_len v found g.nd g.lt; omega
  have e3 := x_sortedF (c := ⟨evF prog (n + 2), prog.glob, prog.fuel⟩) (σ := e17 (shD v rs) (.tuple (natD ns)) u F.length h r t) (s := s17 F found []) (e := .v 3) (i := F.length) (x_v rfl) (s17_found F found []) (sortOk_natD found hlen)
  rw [isort_natD g.nd (Gr.comp_sorted _ _ _) (g.done hu (es_ok hS hn))] at e3
  rw [ss_nx f1, ss_nx f2, ss_rt (s_ret (x_tuple e3))]
  have tk : (s17 F found []).F.take F.length = F := by simp [s17]
  simp only [R.bd_ok, Em.finish, tk]
end
end Wk
end

section
set_option Elab.async false
set_option linter.all false
set_option maxRecDepth 100000
set_option maxHeartbeats 400000
namespace Wk
open PySem Em
def tupN (l : List Nat) : D := .tuple (natD l)
def s18 (F : List Cell) (found : List (List Nat)) (known : List Nat) : Sto := ⟨F ++ [.li (found.map tupN), .li (natD known)], []⟩
def e18 (sh lot : D) (k : Nat) (u p : Option Val) : Em.Env := [some (.d sh), some (.d lot), u, some (.fl k), some (.fl (k + 1)), p]
theorem s18_found (F : List Cell) (found : List (List Nat)) (known : List Nat) : (s18 F found known).F[F.length]? = some (.li (found.map tupN)) := by
  show (F ++ [Cell.li (found.map tupN), .li (natD known)])[F.length]? = _
  rw [List.getElem?_append_right (Nat.le_refl _)]; simp
theorem s18_known (F : List Cell) (found : List (List Nat)) (known : List Nat) : (s18 F found known).F[F.length + 1]? = some (.li (natD known)) := by
  show (F ++ [Cell.li (found.map tupN), .li (natD known)])[F.length + 1]? = _
  rw [List.getElem?_append_right (by omega)]; simp
theorem s18_set1 (F : List Cell) (found f' : List (List Nat)) (known : List Nat) : (s18 F found known).F.set F.length (.li (f'.map tupN)) = (s18 F f' known).F := by
  show (F ++ [Cell.li (found.map tupN), .li (natD known)]).set F.length _ = F ++ [.li (f'.map tupN), .li (natD known)]
  rw [List.set_append_right _ _ (Nat.le_refl _)]; simp
theorem s18_set2 (F : List Cell) (found : List (List Nat)) (known k' : List Nat) : (s18 F found known).F.set (F.length + 1) (.li (natD k')) = (s18 F found k').F := by
  show (F ++ [Cell.li (found.map tupN), .li (natD known)]).set (F.length + 1) _ = F ++ [.li (found.map tupN), .li (natD k')]
  rw [List.set_append_right _ _ (by omega)]; simp
theorem x_extend {c : Em.Ctx} {σ : Em.Env} {s : Sto} {a b : E} {z : List D} {i : Nat} {l : List D} (ha : evE c a σ s = .ok (.fl i) s) (hb : evE c b σ s = .ok (.d (.list z)) s) (hg : s.F[i]? = some (.li l)) (hz : l.length + z.length ≤ sizeMax) : evE c (.mt .extend a [b]) σ s = .ok (.d .none) { s with F := s.F.set i (.li (l ++ z)) } := by
  simp only [ev_mt, ha, R.bd_ok, isDi_li hg, Bool.false_eq_true, if_false, es_cons' hb es_nil', mtV, hg, if_pos hz]
theorem x_listT {c : Em.Ctx} {σ : Em.Env} {s s1 : Sto} {e : E} {l : List D} (h : evE c e σ s = .ok (.d (.tuple l)) s1) : evE c (.bi .list .fr [e]) σ s = .ok (.d (.list l)) s1 := by
  rw [x_bi (es_cons' h es_nil')]; rfl
theorem natD_append (l m : List Nat) : natD l ++ natD m = natD (l ++ m) := by unfold natD; rw [List.map_append]
theorem lst0 {c : Em.Ctx} {σ : Em.Env} {s : Sto} : evE c (.lst .fl []) σ s = .ok (.fl s.F.length) { s with F := s.F ++ [.li []] } := by
  simp [mkV]
def bod18 : List S := [.ite (.op .notIn .fr (.v 2) (.v 4)) [.asg (.slot 5) (.call 16 .fr [.v 0, .v 1, .v 2] []), .expr (.mt .append (.v 3) [.v 5]), .expr (.mt .extend (.v 4) [.bi .list .fr [.v 5]])] []]
theorem body18 : d17.body = [.asgs [3, 4] [.lst .fl [], .lst .fl []], .for_ (.slot 2) (.call 12 .fr [.v 0] []) bod18, .ret (.v 3)] := rfl
section
variable {v : Nat} {rs : List D} {en : List (Nat × Nat)}
def K18 (es : List (Nat × Nat)) (v i : Nat) (known : List Nat) : Prop := (∀ w, w ∈ known ↔ ∃ r ∈ Gr.leads es i, w ∈ Gr.comp es v r) ∧ known.length ≤ i * v
theorem turn18 (hS : Sh v rs en) (n n0 : Nat) (F : List Cell) (hv : v ≤ 40) (ns : List Nat) (hn : ∀ i ∈ ns, i < en.length) (hz : ns.length ≤ 1000) (i : Nat) (hi : i < v) (p : Option Val) (known : List Nat) (hK : K18 (es en ns) v i known) :
    ∃ p' known', K18 (es en ns) v (i + 1) known' ∧ evSs ⟨evF prog (n + 3), prog.glob, prog.fuel⟩ n0 bod18 (e18 (shD v rs) (.tuple (natD ns)) F.length (some (.d (.int (i : Int)))) p) (s18 F ((Gr.leads (es en ns) i).map (Gr.comp (es en ns) v)) known) =
      .ok (.nx, e18 (shD v rs) (.tuple (natD ns)) F.length (some (.d (.int (i : Int)))) p') (s18 F ((Gr.leads (es en ns) (i + 1)).map (Gr.comp (es en ns) v)) known') := by
  have hsm : sizeMax = 16777216 := rfl
  have hiff := Gr.known_iff hi hK.1
  have hls := Gr.leads_succ (es en ns) i
  have ec := x_notIn (c := ⟨evF prog (n + 3), prog.glob, prog.fuel⟩) (σ := e18 (shD v rs) (.tuple (natD ns)) F.length (some (.d (.int (i : Int)))) p) (s := s18 F ((Gr.leads (es en ns) i).map (Gr.comp (es en ns) v)) known) (a := .v 2) (b := .v 4) (x := i) (i := F.length + 1) (l := known) (x_v rfl) (x_v rfl) (s18_known F _ known)
  have hmul : (i + 1) * v = i * v + v := by rw [Nat.add_mul, Nat.one_mul]
  have hiv : i * v ≤ 40 * 40 := Nat.mul_le_mul (by omega) hv
  by_cases hl : Gr.Lead (es en ns) i
  · have hnk : known.contains i = false := by
      cases h : known.contains i with
      | false => rfl
      | true => exact absurd hl (hiff.mp (List.contains_iff_mem.mp h))
    rw [hnk] at ec
    rw [if_pos hl] at hls
    have hcl : (Gr.comp (es en ns) v i).length ≤ v := by
      have := List.length_filter_le (fun w => @decide (Gr.Reach (es en ns) i w) (Classical.propDecidable _)) (List.range v)
      rw [List.length_range] at this
      exact this
    refine ⟨some (.d (tupN (Gr.comp (es en ns) v i))), known ++ Gr.comp (es en ns) v i, ⟨fun w => ?_, by rw [List.length_append]; have := hK.2; omega⟩, ?_⟩
    · rw [List.mem_append, hK.1 w, hls]
      constructor
      · rintro (⟨r, hr, hw⟩ | hw)
        · exact ⟨r, List.mem_append.mpr (.inl hr), hw⟩
        · exact ⟨i, List.mem_append.mpr (.inr (by simp)), hw⟩
      · rintro ⟨r, hr, hw⟩
        rcases List.mem_append.mp hr with hr | hr
        · exact .inl ⟨r, hr, hw⟩
        · rw [List.mem_singleton.mp hr] at hw; exact .inr hw
    · have e1 : evE ⟨evF prog (n + 3), prog.glob, prog.fuel⟩ (.call 16 .fr [.v 0, .v 1, .v 2] []) (e18 (shD v rs) (.tuple (natD ns)) F.length (some (.d (.int (i : Int)))) p) (s18 F ((Gr.leads (es en ns) i).map (Gr.comp (es en ns) v)) known) = .ok (.d (tupN (Gr.comp (es en ns) v i))) (s18 F ((Gr.leads (es en ns) i).map (Gr.comp (es en ns) v)) known) := by
        rw [x_call (es_cons' (x_v rfl) (es_cons' (x_v rfl) (es_cons' (x_v rfl) es_nil'))) rfl]
        show called .fr (s18 F _ known) (evF prog (n + 3) 16 [.d (shD v rs), .d (.tuple (natD ns)), .d (.int (i : Int))] [] (s18 F _ known).F) = _
        rw [ev16 hS n _ i hi hv ns hn hz]; rfl
      have f1 : evS ⟨evF prog (n + 3), prog.glob, prog.fuel⟩ n0 (.asg (.slot 5) (.call 16 .fr [.v 0, .v 1, .v 2] [])) (e18 (shD v rs) (.tuple (natD ns)) F.length (some (.d (.int (i : Int)))) p) (s18 F ((Gr.leads (es en ns) i).map (Gr.comp (es en ns) v)) known) = .ok (.nx, e18 (shD v rs) (.tuple (natD ns)) F.length (some (.d (.int (i : Int)))) (some (.d (tupN (Gr.comp (es en ns) v i))))) (s18 F ((Gr.leads (es en ns) i).map (Gr.comp (es en ns) v)) known) := s_asg e1 (by simp [e18])
      have hll : (Gr.leads (es en ns) i).length ≤ i := by
        have := List.length_filter_le (fun w => @decide (Gr.Lead (es en ns) w) (Classical.propDecidable _)) (List.range i)
        rw [List.length_range] at this
        exact this
      have a1 := x_append (c := ⟨evF prog (n + 3), prog.glob, prog.fuel⟩) (σ := e18 (shD v rs) (.tuple (natD ns)) F.length (some (.d (.int (i : Int)))) (some (.d (tupN (Gr.comp (es en ns) v i))))) (s := s18 F ((Gr.leads (es en ns) i).map (Gr.comp (es en ns) v)) known) (a := .v 3) (b := .v 5) (p := tupN (Gr.comp (es en ns) v i)) (i := F.length) (x_v rfl) (x_v rfl) (s18_found F _ known) (by rw [List.length_map, List.length_map]; omega)
      have hf : ((Gr.leads (es en ns) i).map (Gr.comp (es en ns) v)).map tupN ++ [tupN (Gr.comp (es en ns) v i)] = ((Gr.leads (es en ns) (i + 1)).map (Gr.comp (es en ns) v)).map tupN := by rw [hls, List.map_append, List.map_append]; rfl
      rw [hf, s18_set1] at a1
      have a2 := x_extend (c := ⟨evF prog (n + 3), prog.glob, prog.fuel⟩) (σ := e18 (shD v rs) (.tuple (natD ns)) F.length (some (.d (.int (i : Int)))) (some (.d (tupN (Gr.comp (es en ns) v i))))) (s := s18 F ((Gr.leads (es en ns) (i + 1)).map (Gr.comp (es en ns) v)) known) (a := .v 4) (b := .bi .list .fr [.v 5]) (z := natD (Gr.comp (es en ns) v i)) (i := F.length + 1) (x_v rfl) (x_listT (x_v rfl)) (s18_known F _ known) (by rw [natD_len, natD_len]; have := hK.2; omega)
      rw [natD_append, s18_set2] at a2
      exact (ss_nx ((s_ite_t (x_tst ec)).trans ((ss_nx f1).trans ((ss_nx (s_expr a1)).trans ((ss_nx (s_expr a2)).trans ss_nil))))).trans ss_nil
  · have hk : known.contains i = true := List.contains_iff_mem.mpr (hiff.mpr hl)
    rw [hk] at ec
    rw [if_neg hl, List.append_nil] at hls
    refine ⟨p, known, ⟨fun w => by rw [hK.1 w, hls], by have := hK.2; omega⟩, ?_⟩
    rw [hls]
    exact (ss_nx ((s_ite_f (x_tst ec)).trans ss_nil)).trans ss_nil
theorem ev17 (hS : Sh v rs en) (n : Nat) (F : List Cell) (hv : v ≤ 40) (ns : List Nat) (hn : ∀ i ∈ ns, i < en.length) (hz : ns.length ≤ 1000) :
    evF prog (n + 4) 17 [.d (shD v rs), .d (.tuple (natD ns))] [] F = .ok (.fl F.length) ⟨F ++ [.li ((Gr.pieces (es en ns) v).map tupN)], []⟩ := by
  have hf : prog.fuel = 1000000 := rfl
  rw [evF_step (d := d17) rfl rfl, body18]
  have s0 : Em.start d17 [.d (shD v rs), .d (.tuple (natD ns))] = [some (.d (shD v rs)), some (.d (.tuple (natD ns))), none, none, none, none] := rfl
  rw [s0]
  have f1 : evS ⟨evF prog (n + 3), prog.glob, prog.fuel⟩ F.length (.asgs [3, 4] [.lst .fl [], .lst .fl []]) [some (.d (shD v rs)), some (.d (.tuple (natD ns))), none, none, none, none] ⟨F, []⟩ = .ok (.nx, e18 (shD v rs) (.tuple (natD ns)) F.length none none) (s18 F ((Gr.leads (es en ns) 0).map (Gr.comp (es en ns) v)) []) := by
    have : (Gr.leads (es en ns) 0).map (Gr.comp (es en ns) v) = [] := rfl
    rw [this]
    have h0 : s18 F [] [] = ⟨F ++ [.li [], .li []], []⟩ := rfl
    rw [h0]
    have l0 := fun s => lst0 (c := ⟨evF prog (n + 3), prog.glob, prog.fuel⟩) (σ := [some (.d (shD v rs)), some (.d (.tuple (natD ns))), none, none, none, none]) (s := s)
    simp only [es_asgs, es_cons' (l0 _) (es_cons' (l0 _) es_nil'), R.bd_ok]
    have e1 : (F ++ [Cell.li []]).length = F.length + 1 := by simp
    have e2 : F ++ [Cell.li []] ++ [Cell.li []] = F ++ [.li [], .li []] := by simp
    rw [e1, e2]
    simp only [putSlots, List.length_cons, List.length_nil, List.length_set, Nat.reduceAdd, Nat.reduceLT, if_true]
    rfl
  have e2 : evE ⟨evF prog (n + 3), prog.glob, prog.fuel⟩ (.call 12 .fr [.v 0] []) (e18 (shD v rs) (.tuple (natD ns)) F.length none none) (s18 F ((Gr.leads (es en ns) 0).map (Gr.comp (es en ns) v)) []) = .ok (.d (.tuple (natD (List.range v)))) (s18 F ((Gr.leads (es en ns) 0).map (Gr.comp (es en ns) v)) []) := by
    generalize s18 F ((Gr.leads (es en ns) 0).map (Gr.comp (es en ns) v)) [] = s at *
    have e13 : evF prog (n + 3) 12 [.d (shD v rs)] [] s.F = .ok (.d (.tuple (natD (List.range v)))) ⟨s.F, []⟩ := ev12 (rs := rs) (n + 2) s.F (by omega : v ≤ 1000)
    have e14 := x_call (c := ⟨evF prog (n + 3), prog.glob, prog.fuel⟩) (σ := e18 (shD v rs) (.tuple (natD ns)) F.length none none) (s := s) (f := 12) (m := .fr) (es := [.v 0]) (vs := [.d (shD v rs)]) (es_cons' (x_v rfl) es_nil') rfl
    simp only [e13] at e14
    rw [e14]
    rfl
  obtain ⟨σ', s', e3, u', p', known, rfl, rfl, hK⟩ := loopS_inv (items_tup (natD (List.range v))) (f := fun σ1 x s2 => match putVal (.slot 2) x σ1 with
      | some σ2 => evSs ⟨evF prog (n + 3), prog.glob, prog.fuel⟩ F.length bod18 σ2 s2
      | none => .bad) (fun i σ s => ∃ (u p : Option Val) (known : List Nat), σ = e18 (shD v rs) (.tuple (natD ns)) F.length u p ∧ s = s18 F ((Gr.leads (es en ns) i).map (Gr.comp (es en ns) v)) known ∧ K18 (es en ns) v i known) (fun i x σ s hx hI => by
      obtain ⟨u, p, known, rfl, rfl, hK⟩ := hI
      have hil := (List.getElem?_eq_some_iff.mp hx).1
      rw [natD_len, List.length_range] at hil
      have hx : x = .int (i : Int) := by
        have := (List.getElem?_eq_some_iff.mp hx).2
        rw [← this]; simp [natD]
      subst hx
      obtain ⟨p', known', hK', e⟩ := turn18 hS n F.length F hv ns hn hz i hil p known hK
      have pv : putVal (.slot 2) (.d (.int (i : Int))) (e18 (shD v rs) (.tuple (natD ns)) F.length u p) = some (e18 (shD v rs) (.tuple (natD ns)) F.length (some (.d (.int (i : Int)))) p) := rfl
      exact ⟨e18 (shD v rs) (.tuple (natD ns)) F.length (some (.d (.int (i : Int)))) p', s18 F ((Gr.leads (es en ns) (i + 1)).map (Gr.comp (es en ns) v)) known', by simp only [pv]; exact e, _, _, known', rfl, rfl, hK'⟩) v prog.fuel 0 (e18 (shD v rs) (.tuple (natD ns)) F.length none none) (s18 F ((Gr.leads (es en ns) 0).map (Gr.comp (es en ns) v)) []) (by rw [natD_len, List.length_range]; omega) (by rw [hf]; omega) ⟨none, none, [], rfl, rfl, ⟨fun w => ⟨fun h => (nomatch h), fun ⟨r, hr, _⟩ => (nomatch hr)⟩, by simp⟩⟩
  rw [natD_len, List.length_range] at e3
  have f2 : evS ⟨evF prog (n + 3), prog.glob, prog.fuel⟩ F.length (.for_ (.slot 2) (.call 12 .fr [.v 0] []) bod18) (e18 (shD v rs) (.tuple (natD ns)) F.length none none) (s18 F ((Gr.leads (es en ns) 0).map (Gr.comp (es en ns) v)) []) = .ok (.nx, e18 (shD v rs) (.tuple (natD ns)) F.length u' p') (s18 F (Gr.pieces (es en ns) v) known) := by
    simp only [es_for, e2, R.bd_ok]
    rw [natD_len, List.length_range] at *
    exact e3
  have f3 : evS ⟨evF prog (n + 3), prog.glob, prog.fuel⟩ F.length (.ret (.v 3)) (e18 (shD v rs) (.tuple (natD ns)) F.length u' p') (s18 F (Gr.pieces (es en ns) v) known) = .ok (.rt (.new (.li ((Gr.pieces (es en ns) v).map tupN))), e18 (shD v rs) (.tuple (natD ns)) F.length u' p') (s18 F (Gr.pieces (es en ns) v) known) := by
    have v3 : evE ⟨evF prog (n + 3), prog.glob, prog.fuel⟩ (.v 3) (e18 (shD v rs) (.tuple (natD ns)) F.length u' p') (s18 F (Gr.pieces (es en ns) v) known) = .ok (.fl F.length) (s18 F (Gr.pieces (es en ns) v) known) := x_v rfl
    simp only [es_ret, v3, R.bd_ok, finR, Nat.lt_irrefl, if_false, s18_found, Option.map_some]
  rw [ss_nx f1, ss_nx f2, ss_rt f3]
  have tk : (s18 F (Gr.pieces (es en ns) v) known).F.take F.length = F := by simp [s18]
  simp only [R.bd_ok, Em.finish, tk]
end
end Wk
end

section
set_option Elab.async false
set_option linter.all false
set_option maxRecDepth 100000
set_option maxHeartbeats 400000
namespace Wk
open PySem Em
/-- rising numbers below k are a lot -/
theorem lot_natD {ns : List Nat} {k : Nat} (hs : ns.Pairwise (· < ·)) (h : ∀ i ∈ ns, i < k) : isLot (.tuple (natD ns)) k = true := by
  have e : intsD (natD ns) = some (ns.map fun (i : Nat) => (i : Int)) := by
    clear hs h
    induction ns with
    | nil => rfl
    | cons a r ih =>
      have : natD (a :: r) = .int (a : Int) :: natD r := rfl
      rw [this, intsD, ih]; rfl
  have h1 : (natD ns).all (fun p => within p 0 ((k : Int) - 1)) = true := List.all_eq_true.mpr fun p hp => by
    obtain ⟨i, hi, rfl⟩ := List.mem_map.mp hp
    have := h i hi
    simp [within]; omega
  have h2 : upsD (natD ns) = true := by
    unfold upsD
    rw [e]
    exact (Nd.ups_iff _).mpr (List.pairwise_map.mpr (hs.imp fun {a b} h => by omega))
  show ((natD ns).all (fun p => within p 0 ((k : Int) - 1)) && upsD (natD ns)) = true
  rw [h1, h2]; rfl
theorem szOk_natD {ns : List Nat} (hz : ns.length ≤ 1000) : szOk (.tuple (natD ns)) = true := by
  show decide ((natD ns).length ≤ 1000) = true
  rw [natD_len]; exact decide_eq_true hz
section
variable {v : Nat} {rs : List D} {en : List (Nat × Nat)}
theorem ev7' (n : Nat) (F : List Cell) (hs : headOk (shD v rs) = true) (h : isShire (shD v rs) = true) : evF prog (n + 5) 7 [.d (shD v rs)] [] F = .ok (.d .none) ⟨F, []⟩ := ev7 n _ F hs h
theorem ev10' (n : Nat) (F : List Cell) {p : D} (hz : szOk p = true) (h : isLot p rs.length = true) : evF prog (n + 4) 10 [.d (shD v rs), .d p] [] F = .ok (.d .none) ⟨F, []⟩ := by
  rw [evF_step (d := d10) rfl rfl]
  have e4 := ev4 n p rs.length F hz
  rw [h] at e4
  have p2 := p_r (v := v) rs
  simp [d10, shD, p2, e4]
/-- a call whose new list the frame hands back -/
theorem ret_new {c : Em.Ctx} {F : List Cell} {e : E} {σ : Em.Env} {l : List D} (h : evE c e σ ⟨F, []⟩ = .ok (.fl F.length) ⟨F ++ [.li l], []⟩) : evS c F.length (.ret e) σ ⟨F, []⟩ = .ok (.rt (.new (.li l)), σ) ⟨F ++ [.li l], []⟩ := by
  have g : (F ++ [Cell.li l])[F.length]? = some (.li l) := by rw [List.getElem?_append_right (Nat.le_refl _)]; simp
  simp only [es_ret, h, R.bd_ok, finR, Nat.lt_irrefl, if_false, g, Option.map_some]
theorem call_new {F : List Cell} {l : List D} : called .fl ⟨F, []⟩ (.ok (.fl F.length) ⟨F ++ [.li l], []⟩) = .ok (.fl F.length) ⟨F ++ [.li l], []⟩ := by
  simp [called]
theorem fin_new {F : List Cell} {l : List D} {σ : Em.Env} : ((R.ok (Fl.rt (.new (.li l)), σ) ⟨F ++ [.li l], []⟩ : R (Fl × Em.Env)).bd fun y s => match y.1 with
        | .nx => Em.finish F.length (.val (.d .none)) s
        | .rt v => Em.finish F.length v s
        | _ => .bad) = .ok (.fl F.length) ⟨F ++ [.li l], []⟩ := by
  have tk : (F ++ [Cell.li l]).take F.length = F := by simp
  simp only [R.bd_ok, Em.finish, tk]
theorem ev19 (hS : Sh v rs en) (hs : headOk (shD v rs) = true) (h : isShire (shD v rs) = true) (n : Nat) (F : List Cell) (hv : v ≤ 40) (ns : List Nat) (hn : ∀ i ∈ ns, i < en.length) (hp : ns.Pairwise (· < ·)) (hz : ns.length ≤ 1000) :
    evF prog (n + 6) 19 [.d (shD v rs), .d (.tuple (natD ns))] [] F = .ok (.fl F.length) ⟨F ++ [.li ((Gr.pieces (es en ns) v).map tupN)], []⟩ := by
  rw [evF_step (d := d19) rfl rfl]
  have s0 : Em.start d19 [.d (shD v rs), .d (.tuple (natD ns))] = [some (.d (shD v rs)), some (.d (.tuple (natD ns)))] := rfl
  have body : d19.body = [.expr (.call 7 .fr [.v 0] []), .expr (.call 10 .fr [.v 0, .v 1] []), .ret (.call 17 .fl [.v 0, .v 1] [])] := rfl
  have e7 : evF prog (n + 5) 7 [.d (shD v rs)] [] F = .ok (.d .none) ⟨F, []⟩ := ev7' n F hs h
  have e8 : evF prog (n + 5) 10 [.d (shD v rs), .d (.tuple (natD ns))] [] F = .ok (.d .none) ⟨F, []⟩ := ev10' (n + 1) F (szOk_natD hz) (lot_natD hp fun i hi => by rw [hS.1]; exact hn i hi)
  have e18 : evF prog (n + 5) 17 [.d (shD v rs), .d (.tuple (natD ns))] [] F = .ok (.fl F.length) ⟨F ++ [.li ((Gr.pieces (es en ns) v).map tupN)], []⟩ := ev17 hS (n + 1) F hv ns hn hz
  have c7 : evE ⟨evF prog (n + 5), prog.glob, prog.fuel⟩ (.call 7 .fr [.v 0] []) [some (.d (shD v rs)), some (.d (.tuple (natD ns)))] ⟨F, []⟩ = .ok (.d .none) ⟨F, []⟩ := by
    have e := x_call (c := ⟨evF prog (n + 5), prog.glob, prog.fuel⟩) (σ := [some (.d (shD v rs)), some (.d (.tuple (natD ns)))]) (s := ⟨F, []⟩) (f := 7) (m := .fr) (es := [.v 0]) (vs := [.d (shD v rs)]) (es_cons' (x_v rfl) es_nil') rfl
    simp only [e7] at e
    exact e
  have c8 : evE ⟨evF prog (n + 5), prog.glob, prog.fuel⟩ (.call 10 .fr [.v 0, .v 1] []) [some (.d (shD v rs)), some (.d (.tuple (natD ns)))] ⟨F, []⟩ = .ok (.d .none) ⟨F, []⟩ := by
    have e := x_call (c := ⟨evF prog (n + 5), prog.glob, prog.fuel⟩) (σ := [some (.d (shD v rs)), some (.d (.tuple (natD ns)))]) (s := ⟨F, []⟩) (f := 10) (m := .fr) (es := [.v 0, .v 1]) (vs := [.d (shD v rs), .d (.tuple (natD ns))]) (es_cons' (x_v rfl) (es_cons' (x_v rfl) es_nil')) rfl
    simp only [e8] at e
    exact e
  have c18 : evE ⟨evF prog (n + 5), prog.glob, prog.fuel⟩ (.call 17 .fl [.v 0, .v 1] []) [some (.d (shD v rs)), some (.d (.tuple (natD ns)))] ⟨F, []⟩ = .ok (.fl F.length) ⟨F ++ [.li ((Gr.pieces (es en ns) v).map tupN)], []⟩ := by
    have e := x_call (c := ⟨evF prog (n + 5), prog.glob, prog.fuel⟩) (σ := [some (.d (shD v rs)), some (.d (.tuple (natD ns)))]) (s := ⟨F, []⟩) (f := 17) (m := .fl) (es := [.v 0, .v 1]) (vs := [.d (shD v rs), .d (.tuple (natD ns))]) (es_cons' (x_v rfl) (es_cons' (x_v rfl) es_nil')) rfl
    simp only [e18] at e
    rw [e]; exact call_new
  rw [s0, body, ss_nx (s_expr c7), ss_nx (s_expr c8), ss_rt (ret_new c18)]
  exact fin_new
end
end Wk


namespace Wk
open PySem Em
def s30 (F : List Cell) (h : List Nat) : Sto := ⟨F ++ [.li (natD h)], []⟩
theorem s30_at (F : List Cell) (h : List Nat) : (s30 F h).F[F.length]? = some (.li (natD h)) := by
  show (F ++ [Cell.li (natD h)])[F.length]? = _
  rw [List.getElem?_append_right (Nat.le_refl _)]; simp
theorem s30_set (F : List Cell) (h h' : List Nat) : (s30 F h).F.set F.length (.li (natD h')) = (s30 F h').F := by
  show (F ++ [Cell.li (natD h)]).set F.length _ = F ++ [.li (natD h')]
  rw [List.set_append_right _ _ (Nat.le_refl _)]; simp
theorem natD_set (l : List Nat) (i x : Nat) : (natD l).set i (.int (x : Int)) = natD (l.set i x) := by unfold natD; rw [List.map_set]
theorem place_nat {n i : Nat} (h : i < n) : place n (i : Int) = some i := by
  unfold place L2.ixN
  rw [if_pos (by omega), if_pos (by omega)]; simp
/-- l[i], l a list of the store -/
theorem x_ixF {c : Em.Ctx} {σ : Em.Env} {s : Sto} {a b : E} {i j : Nat} {l : List Nat} (ha : evE c a σ s = .ok (.fl j) s) (hb : evE c b σ s = .ok (.d (.int (i : Int))) s) (hg : s.F[j]? = some (.li (natD l))) (hi : i < l.length) : evE c (.ix a b) σ s = .ok (.d (.int (l.getD i 0 : Int))) s := by
  have e := atD_natD hi
  have e2 : l.getD i 0 = l[i] := by rw [List.getD_eq_getElem?_getD, List.getElem?_eq_getElem hi]; rfl
  simp only [ev_ix, ha, hb, R.bd_ok, ixV, Sto.snapF, hg, e, e2]
theorem x_min2 {c : Em.Ctx} {σ : Em.Env} {s : Sto} {a b : E} {i j : Nat} (ha : evE c a σ s = .ok (.d (.int (i : Int))) s) (hb : evE c b σ s = .ok (.d (.int (j : Int))) s) : evE c (.bi .min2 .fr [a, b]) σ s = .ok (.d (.int (min i j : Nat))) s := by
  rw [x_bi (es_cons' ha (es_cons' hb es_nil'))]
  have e : (if (j : Int) < (i : Int) then (j : Int) else (i : Int)) = ((min i j : Nat) : Int) := by
    by_cases h : j < i
    · rw [if_pos (by omega), Nat.min_eq_right (by omega)]
    · rw [if_neg (by omega), Nat.min_eq_left (by omega)]
  show R.ok (Val.d (.int (if (j : Int) < (i : Int) then (j : Int) else (i : Int)))) s = _
  rw [e]
section
variable {v : Nat} {rs : List D} {en : List (Nat × Nat)}
end
end Wk

namespace Wk
open PySem Em
theorem intsOf_natD (l : List Nat) : intsOf (natD l) = some (l.map fun (i : Nat) => (i : Int)) := by
  induction l with
  | nil => rfl
  | cons a r ih =>
    have : natD (a :: r) = .int (a : Int) :: natD r := rfl
    rw [this, intsOf, ih]; rfl
theorem x_sset {c : Em.Ctx} {σ : Em.Env} {s s1 : Sto} {e : E} {l m : List Nat} (h : evE c e σ s = .ok (.d (.list (natD l))) s1) (hz : l.length ≤ 60) (hm : ssetI (l.map fun (i : Nat) => (i : Int)) = m.map fun (i : Nat) => (i : Int)) : evE c (.bi .sset .fr [e]) σ s = .ok (.d (.list (natD m))) s1 := by
  rw [x_bi (es_cons' h es_nil')]
  have e1 : biL1 .sset (.list (natD l)) = some (natD m) := by
    show (match intsOf (natD l) with | some ns => if ns.length ≤ 60 then some ((ssetI ns).map PyData.int) else none | none => none) = _
    rw [intsOf_natD]
    simp only [List.length_map, if_pos hz, hm]
    rw [← natD_ints]
  simp only [biS, stillB, snaps, Sto.see, Sto.capt, Sto.snapF, deepB, bi, biL, e1, mkL, Bool.false_eq_true, if_false]
theorem lcF_none {c : Em.Ctx} {elt : E} {tg : Tg} {own : List Nat} {σ σ2 : Em.Env} {x y : Val} {s s1 : Sto} (pv : putVal tg x (Em.wipe σ own) = some σ2) (he : evE c elt σ2 s = .ok y s1) : lcF c elt tg none own σ x s = .ok (some y) s1 := by
  unfold lcF
  rw [pv]
  simp only [R.bd_ok, if_true, he]
theorem filter_tt (l : List Nat) : l.filter (fun _ => true) = l := by simp
theorem x_eqNat {c : Em.Ctx} {σ : Em.Env} {s : Sto} {a b : E} {i j : Nat} (ha : evE c a σ s = .ok (.d (.int (i : Int))) s) (hb : evE c b σ s = .ok (.d (.int (j : Int))) s) : evE c (.op .eq .fr a b) σ s = .ok (.d (.bool (decide (i = j)))) s := by
  rw [x_op ha hb, op2S_dd, op_eqD, okEq_int, if_pos rfl]
  have : PyData.eqv (.int (i : Int)) (.int (j : Int)) = decide (i = j) := by
    show ((i : Int) == (j : Int)) = _
    by_cases h : i = j
    · subst h; simp
    · rw [decide_eq_false h]; exact beq_eq_false_iff_ne.mpr (by omega)
  rw [this]
theorem x_ixD {c : Em.Ctx} {σ : Em.Env} {s : Sto} {a b : E} {i : Nat} {l : List Nat} (ha : evE c a σ s = .ok (.d (.list (natD l))) s) (hb : evE c b σ s = .ok (.d (.int (i : Int))) s) (hi : i < l.length) : evE c (.ix a b) σ s = .ok (.d (.int (l[i] : Int))) s := x_ix ha hb rfl (atD_natD hi)
section
variable {v : Nat} {rs : List D} {en : List (Nat × Nat)}
/-- the place of a village's part -/
def partAt (ps : List (List Nat)) (u : Nat) : Nat := ps.findIdx fun p => p.contains u
theorem shaped_bools (bs : List Bool) : SeqAt.shaped (.list (bs.map .bool)) = true := by
  have h1 : PyData.canLayAll0 (bs.map .bool) = true := by
    induction bs with
    | nil => rfl
    | cons b r ih => simp only [List.map_cons, PyData.canLayAll0, PyData.canLay0, ih, Bool.and_self]
  have h2 : PyData.depthAll (bs.map .bool) ≤ 0 := Nd.depthAll_iff.mpr fun x hx => by
    obtain ⟨b, _, rfl⟩ := List.mem_map.mp hx
    simp [PyData.depth]
  have h3 : PyData.depthAll (bs.map .bool) = 0 := Nat.le_zero.mp h2
  unfold SeqAt.shaped
  simp only [PyData.canLay0, h1, PyData.depth, h3]
  decide
theorem x_inT {c : Em.Ctx} {σ : Em.Env} {s : Sto} {a b : E} {x : Nat} {l : List Nat} (ha : evE c a σ s = .ok (.d (.int (x : Int))) s) (hb : evE c b σ s = .ok (.d (.tuple (natD l))) s) : evE c (.op .isIn .fr a b) σ s = .ok (.d (.bool (l.contains x))) s := by
  have ho : okEq (.int (x : Int)) (.tuple (natD l)) = true := by
    unfold okEq
    rw [natD_ints]
    have := shaped_tupI (l.map fun (i : Nat) => (i : Int))
    unfold Nd.tupI at this
    rw [this]; rfl
  rw [x_op ha hb, op2S_dd, op_inT, if_pos ho, in_natD]
end
end Wk


namespace Wk
open PySem Em
theorem x_tupleF {c : Em.Ctx} {σ : Em.Env} {s : Sto} {e : E} {i : Nat} {l : List D} (h : evE c e σ s = .ok (.fl i) s) (hg : s.F[i]? = some (.li l)) : evE c (.bi .tuple .fr [e]) σ s = .ok (.d (.tuple l)) s := by
  rw [x_bi (es_cons' h es_nil')]
  simp only [biS, stillB, snaps, Sto.see, Sto.capt, Sto.snapF, deepB, hg, bi, biL, biL1, biV, tup_list, Bool.false_eq_true, if_false]
theorem lcF_if {c : Em.Ctx} {elt t : E} {tg : Tg} {own : List Nat} {σ σ2 : Em.Env} {x y : Val} {s : Sto} {b : Bool} (pv : putVal tg x (Em.wipe σ own) = some σ2) (hc : tst (evE c t σ2 s) = .ok b s) (he : evE c elt σ2 s = .ok y s) : lcF c elt tg (some t) own σ x s = .ok (if b = true then some y else none) s := by
  unfold lcF
  rw [pv]
  simp only [hc, R.bd_ok]
  cases b
  · rfl
  · simp only [if_true, he, R.bd_ok]
theorem x_callD {n f : Nat} {m : Mode} {σ : Em.Env} {s s1 : Sto} {es : List E} {vs : List Val} {p : D} (h : evEs ⟨evF prog n, prog.glob, prog.fuel⟩ es σ s = .ok vs s1) (ha : vs.all argOk = true) (he : evF prog n f vs [] s1.F = .ok (.d p) ⟨s1.F, []⟩) : evE ⟨evF prog n, prog.glob, prog.fuel⟩ (.call f m es []) σ s = .ok (.d p) s1 := by
  rw [x_call h ha]
  simp only [he]
  rfl
theorem x_callL {n f : Nat} {σ : Em.Env} {s s1 : Sto} {es : List E} {vs : List Val} {l : List D} (h : evEs ⟨evF prog n, prog.glob, prog.fuel⟩ es σ s = .ok vs s1) (ha : vs.all argOk = true) (he : evF prog n f vs [] s1.F = .ok (.fl s1.F.length) ⟨s1.F ++ [.li l], []⟩) : evE ⟨evF prog n, prog.glob, prog.fuel⟩ (.call f .fr es []) σ s = .ok (.d (.list l)) s1 := by
  rw [x_call h ha]
  simp only [he]
  exact called_new rfl
theorem x_neNat {c : Em.Ctx} {σ : Em.Env} {s s1 s2 : Sto} {a b : E} {i j : Nat} (ha : evE c a σ s = .ok (.d (.int (i : Int))) s1) (hb : evE c b σ s1 = .ok (.d (.int (j : Int))) s2) : evE c (.op .ne .fr a b) σ s = .ok (.d (.bool (!decide (i = j)))) s2 := by
  rw [x_op ha hb, op2S_dd, op_neD, okEq_int, if_pos rfl]
  have : PyData.eqv (.int (i : Int)) (.int (j : Int)) = decide (i = j) := by
    show ((i : Int) == (j : Int)) = _
    by_cases h : i = j
    · subst h; simp
    · rw [decide_eq_false h]; exact beq_eq_false_iff_ne.mpr (by omega)
  rw [this]
def crosses (en : List (Nat × Nat)) (ps : List (List Nat)) (i : Nat) : Bool := !decide (partAt ps (en.getD i (0, 0)).1 = partAt ps (en.getD i (0, 0)).2)
def inBoth (en : List (Nat × Nat)) (vs : List Nat) (i : Nat) : Bool := vs.contains (en.getD i (0, 0)).1 && vs.contains (en.getD i (0, 0)).2
def e20 (sh pt : D) (k : Nat) (r a b : Option Val) : Em.Env := [some (.d sh), some (.d pt), some (.fl k), r, a, b]
section
variable {v : Nat} {rs : List D} {en : List (Nat × Nat)}
def e21 (sh vs : D) (r o : Option Val) : Em.Env := [some (.d sh), some (.d vs), r, o]
def in21 : E := .bi .all .fr [.lc .fr (.op .isIn .fr (.v 3) (.v 1)) (.slot 3) (.call 13 .fr [.v 0, .v 2] []) none [3]]
theorem inner21 (hS : Sh v rs en) (n : Nat) (F : List Cell) (vs : List Nat) (i : Nat) (hi : i < en.length) : evE ⟨evF prog (n + 1), prog.glob, prog.fuel⟩ in21 (e21 (shD v rs) (.tuple (natD vs)) (some (.d (.int (i : Int)))) none) ⟨F, []⟩ = .ok (.d (.bool (inBoth en vs i))) ⟨F, []⟩ := by
  have hf : prog.fuel = 1000000 := rfl
  have hsm : sizeMax = 16777216 := rfl
  have e14 := x_call14 hS (n := n) (σ := e21 (shD v rs) (.tuple (natD vs)) (some (.d (.int (i : Int)))) none) (F := F) (N := []) (a := .v 0) (b := .v 2) hi (x_v rfl) (x_v rfl)
  unfold inBoth
  rw [getD_en hi]
  generalize en[i] = e at *
  obtain ⟨p, q⟩ := e
  have hp : [PyData.int (p : Int), .int (q : Int)] = natD [p, q] := rfl
  have e14 : evE ⟨evF prog (n + 1), prog.glob, prog.fuel⟩ (.call 13 .fr [.v 0, .v 2] []) (e21 (shD v rs) (.tuple (natD vs)) (some (.d (.int (i : Int)))) none) ⟨F, []⟩ = .ok (.d (.tuple (natD [p, q]))) ⟨F, []⟩ := e14
  have lp := lc_nat (f := lcF ⟨evF prog (n + 1), prog.glob, prog.fuel⟩ (.op .isIn .fr (.v 3) (.v 1)) (.slot 3) none [3] (e21 (shD v rs) (.tuple (natD vs)) (some (.d (.int (i : Int)))) none)) (items_tup (natD [p, q])) (s := ⟨F, []⟩) (fuel := prog.fuel) (fun _ => true) (fun w => .bool (vs.contains w)) (fun w hw => by
    have pv : putVal (.slot 3) (.d (.int (w : Int))) (Em.wipe (e21 (shD v rs) (.tuple (natD vs)) (some (.d (.int (i : Int)))) none) [3]) = some (e21 (shD v rs) (.tuple (natD vs)) (some (.d (.int (i : Int)))) (some (.d (.int (w : Int))))) := rfl
    exact lcF_none pv (x_inT (x_v rfl) (x_v rfl))) (by rw [hsm]; simp) (by rw [hf]; simp)
  rw [filter_tt] at lp
  have el := (x_lc (m := .fr) e14 lp).trans (mkV_fr _ _)
  have hm : ([p, q].map fun w => PyData.bool (vs.contains w)) = [vs.contains p, vs.contains q].map .bool := rfl
  rw [hm] at el
  have ea := x_all el
  have hb : allB [vs.contains p, vs.contains q] = (vs.contains p && vs.contains q) := by simp [allB]
  rw [hb] at ea
  exact ea
end
end Wk


namespace Wk
open PySem Em
/-- a parting of the places below v -/
structure Pt (v : Nat) (ps : List (List Nat)) : Prop where
  ne : ∀ p ∈ ps, p ≠ []
  up : ∀ p ∈ ps, p.Pairwise (· < ·)
  nd : ps.flatten.Nodup
  cov : ∀ u, u ∈ ps.flatten ↔ u < v
  fst : (ps.map fun p => p.headD 0).Pairwise (· < ·)
theorem Pt.cov' {v : Nat} {ps : List (List Nat)} (h : Pt v ps) : ∀ u, u < v → ∃ p ∈ ps, u ∈ p := fun u hu => by
  obtain ⟨p, hp, hup⟩ := List.mem_flatten.mp ((h.cov u).mpr hu)
  exact ⟨p, hp, hup⟩
theorem Pt.lt {v : Nat} {ps : List (List Nat)} (h : Pt v ps) {p : List Nat} (hp : p ∈ ps) {u : Nat} (hu : u ∈ p) : u < v := (h.cov u).mp (List.mem_flatten.mpr ⟨p, hp, hu⟩)
theorem items_tupN (ps : List (List Nat)) : ((ps.map tupN).map itemsD).flatten = natD ps.flatten := by
  rw [List.map_map]
  have : (itemsD ∘ tupN) = natD := rfl
  rw [this]
  induction ps with
  | nil => rfl
  | cons a r ih => rw [List.map_cons, List.flatten_cons, List.flatten_cons, ih, natD_append]
theorem rngD_natD (v : Nat) : rngD (v : Int) = natD (List.range v) := by
  unfold rngD
  rw [Int.toNat_natCast]
  exact range_natD v
theorem part_isPart {v : Nat} {ps : List (List Nat)} (h : Pt v ps) (h2 : 2 ≤ ps.length) : isPart v (.tuple (ps.map tupN)) = true := by
  have a1 : decide (2 ≤ (ps.map tupN).length) = true := by rw [List.length_map]; exact decide_eq_true h2
  have a2 : (ps.map tupN).all (fun q => isLot q v && isNE q) = true := List.all_eq_true.mpr fun q hq => by
    obtain ⟨p, hp, rfl⟩ := List.mem_map.mp hq
    have e1 : isLot (tupN p) v = true := lot_natD (h.up p hp) fun i hi => h.lt hp hi
    have e2 : isNE (tupN p) = true := by
      cases p with
      | nil => exact absurd rfl (h.ne _ hp)
      | cons a r => rfl
    rw [e1, e2]; rfl
  have a3 : PyData.eqv (.list (isort ((ps.map tupN).map itemsD).flatten)) (.list (rngD v)) = true := by
    rw [items_tupN, isort_natD h.nd List.pairwise_lt_range (fun x => by rw [h.cov x, List.mem_range]), rngD_natD, eqv_natD]
    exact decide_eq_true rfl
  have a4 : ups ((ps.map tupN).map firstI) = true := by
    have e : (ps.map tupN).map firstI = (ps.map fun p => p.headD 0).map fun (i : Nat) => (i : Int) := by
      rw [List.map_map, List.map_map]
      apply List.map_congr_left
      intro p _
      cases p <;> rfl
    rw [e]
    exact (Nd.ups_iff _).mpr (List.pairwise_map.mpr (h.fst.imp fun {a b} h => by omega))
  unfold isPart
  simp only [a1, a2, a3, a4, Bool.and_self]
/-- the pieces are a parting -/
theorem flatten_nodup {ps : List (List Nat)} (h1 : ∀ p ∈ ps, p.Nodup) (h2 : ps.Pairwise fun p q => ∀ x ∈ p, x ∉ q) : ps.flatten.Nodup := by
  refine List.pairwise_flatten.mpr ⟨h1, h2.imp fun {p q} h x hx y hy e => ?_⟩
  subst e
  exact h x hx hy
theorem pieces_pt {E : List (Nat × Nat)} {v : Nat} (ho : Gr.Ok E v) : Pt v (Gr.pieces E v) := by
  have mem : ∀ p, p ∈ Gr.pieces E v ↔ ∃ r, (r < v ∧ Gr.Lead E r) ∧ p = Gr.comp E v r := fun p => by
    unfold Gr.pieces
    rw [List.mem_map]
    constructor
    · rintro ⟨r, hr, rfl⟩; exact ⟨r, Gr.mem_leads.mp hr, rfl⟩
    · rintro ⟨r, hr, rfl⟩; exact ⟨r, Gr.mem_leads.mpr hr, rfl⟩
  have self : ∀ r, r < v → r ∈ Gr.comp E v r := fun r hr => Gr.mem_comp.mpr ⟨hr, .refl⟩
  refine ⟨fun p hp => ?_, fun p hp => ?_, flatten_nodup (fun p hp => ?_) ?_, fun u => ?_, ?_⟩
  · obtain ⟨r, ⟨hr, _⟩, rfl⟩ := (mem p).mp hp
    exact List.ne_nil_of_mem (self r hr)
  · obtain ⟨r, _, rfl⟩ := (mem p).mp hp
    exact Gr.comp_sorted E v r
  · obtain ⟨r, _, rfl⟩ := (mem p).mp hp
    exact (Gr.comp_sorted E v r).imp fun {a b} h => Nat.ne_of_lt h
  · unfold Gr.pieces
    refine List.pairwise_map.mpr (List.Pairwise.imp_of_mem ?_ (Gr.leads_sorted E v))
    intro a b ha hb hab x hxa hxb
    have h1 := (Gr.mem_comp.mp hxa).2
    have h2 := (Gr.mem_comp.mp hxb).2
    have := Gr.lead_unique (Gr.mem_leads.mp ha).2 (Gr.mem_leads.mp hb).2 (h1.trans h2.symm)
    omega
  · rw [List.mem_flatten]
    constructor
    · rintro ⟨p, hp, hu⟩
      obtain ⟨r, _, rfl⟩ := (mem p).mp hp
      exact (Gr.mem_comp.mp hu).1
    · intro hu
      exact ⟨Gr.comp E v (Gr.lead E u), (mem _).mpr ⟨_, ⟨Nat.lt_of_le_of_lt (Gr.lead_le E u) hu, Gr.lead_lead E u⟩, rfl⟩, Gr.mem_comp.mpr ⟨hu, (Gr.lead_reach E u).symm⟩⟩
  · have hd : ∀ r ∈ Gr.leads E v, (Gr.comp E v r).headD 0 = r := by
      intro r hr
      obtain ⟨hr, hl⟩ := Gr.mem_leads.mp hr
      have hs := Gr.comp_sorted E v r
      have hm := self r hr
      have hall : ∀ x ∈ Gr.comp E v r, r ≤ x := fun x hx => hl x (Gr.mem_comp.mp hx).2
      generalize Gr.comp E v r = l at *
      cases l with
      | nil => cases hm
      | cons a t =>
        have h1 := hall a List.mem_cons_self
        rcases List.mem_cons.mp hm with h | h
        · exact h.symm
        · have := (List.pairwise_cons.mp hs).1 r h; omega
    unfold Gr.pieces
    rw [List.map_map]
    have : (Gr.leads E v).map ((fun p => p.headD 0) ∘ Gr.comp E v) = Gr.leads E v := by
      conv => rhs; rw [← List.map_id (Gr.leads E v)]
      apply List.map_congr_left
      intro r hr
      exact hd r hr
    rw [this]
    exact Gr.leads_sorted E v
/-- in the same part -/
theorem disjoint_at {ps : List (List Nat)} (h : ps.flatten.Nodup) {i j : Nat} (hi : i < ps.length) (hj : j < ps.length) {x : Nat} (h1 : x ∈ ps[i]) (h2 : x ∈ ps[j]) : i = j := by
  have hp := (List.pairwise_flatten.mp h).2
  rcases Nat.lt_trichotomy i j with c | c | c
  · exact absurd rfl (List.pairwise_iff_getElem.mp hp i j hi hj c x h1 x h2)
  · exact c
  · exact absurd rfl (List.pairwise_iff_getElem.mp hp j i hj hi c x h2 x h1)
theorem partAt_mem {ps : List (List Nat)} {u : Nat} (h : ∃ p ∈ ps, u ∈ p) : ∃ hl : partAt ps u < ps.length, u ∈ ps[partAt ps u] := by
  have hl : partAt ps u < ps.length := by
    unfold partAt
    obtain ⟨p, hp, hu⟩ := h
    exact List.findIdx_lt_length_of_exists ⟨p, hp, List.contains_iff_mem.mpr hu⟩
  refine ⟨hl, ?_⟩
  have := List.findIdx_getElem (p := fun p : List Nat => p.contains u) (xs := ps) (w := hl)
  exact List.contains_iff_mem.mp this
theorem same_part {ps : List (List Nat)} (hn : ps.flatten.Nodup) {a b : Nat} (ha : ∃ p ∈ ps, a ∈ p) (hb : ∃ p ∈ ps, b ∈ p) : partAt ps a = partAt ps b ↔ ∃ p ∈ ps, a ∈ p ∧ b ∈ p := by
  obtain ⟨la, ma⟩ := partAt_mem ha
  obtain ⟨lb, mb⟩ := partAt_mem hb
  constructor
  · intro e
    have mb' : b ∈ ps[partAt ps a] := by
      have : ps[partAt ps a] = ps[partAt ps b] := by congr 1
      rw [this]; exact mb
    exact ⟨ps[partAt ps a], List.getElem_mem la, ma, mb'⟩
  · rintro ⟨p, hp, h1, h2⟩
    obtain ⟨k, hk, rfl⟩ := List.getElem_of_mem hp
    rw [disjoint_at hn la hk ma h1, disjoint_at hn lb hk mb h2]
section
variable {v : Nat} {rs : List D} {en : List (Nat × Nat)}
theorem en_lt (hS : Sh v rs en) {i : Nat} (hi : i < en.length) : (en.getD i (0, 0)).1 < v ∧ (en.getD i (0, 0)).2 < v := by
  obtain ⟨_, _, _, h1, h2⟩ := hS.2 i hi
  rw [getD_en hi]; omega
/-- across, road by road -/
theorem crosses_any (hS : Sh v rs en) {ps : List (List Nat)} (h : Pt v ps) {i : Nat} (hi : i < en.length) : crosses en ps i = !(ps.any fun p => inBoth en p i) := by
  have hl := en_lt hS hi
  have hs := same_part h.nd (h.cov' _ hl.1) (h.cov' _ hl.2)
  unfold crosses
  congr 1
  rw [Bool.eq_iff_iff, decide_eq_true_eq, hs, List.any_eq_true]
  constructor
  · rintro ⟨p, hp, h1, h2⟩
    exact ⟨p, hp, by unfold inBoth; rw [List.contains_iff_mem.mpr h1, List.contains_iff_mem.mpr h2]; rfl⟩
  · rintro ⟨p, hp, hb⟩
    unfold inBoth at hb
    rw [Bool.and_eq_true] at hb
    exact ⟨p, hp, List.contains_iff_mem.mp hb.1, List.contains_iff_mem.mp hb.2⟩
/-- no road leads across the pieces -/
theorem pieces_cross (hS : Sh v rs en) : (List.range en.length).filter (crosses en (Gr.pieces (es en (List.range en.length)) v)) = [] := by
  have ho : Gr.Ok (es en (List.range en.length)) v := es_ok hS fun i hi => List.mem_range.mp hi
  refine List.filter_eq_nil_iff.mpr fun i hi => ?_
  have hi := List.mem_range.mp hi
  have hl := en_lt hS hi
  rw [crosses_any hS (pieces_pt ho) hi]
  have : ((Gr.pieces (es en (List.range en.length)) v).any fun p => inBoth en p i) = true := by
    rw [List.any_eq_true]
    have hadj : Gr.Adj (es en (List.range en.length)) (en.getD i (0, 0)).1 (en.getD i (0, 0)).2 := .inl (List.mem_map.mpr ⟨i, List.mem_range.mpr hi, rfl⟩)
    obtain ⟨p, hp, h1⟩ := (pieces_pt ho).cov' _ hl.1
    refine ⟨p, hp, ?_⟩
    unfold Gr.pieces at hp
    obtain ⟨r, hr, rfl⟩ := List.mem_map.mp hp
    have h2 : (en.getD i (0, 0)).2 ∈ Gr.comp (es en (List.range en.length)) v r := Gr.mem_comp.mpr ⟨hl.2, .step (Gr.mem_comp.mp h1).2 hadj⟩
    unfold inBoth
    rw [List.contains_iff_mem.mpr h1, List.contains_iff_mem.mpr h2]; rfl
  rw [this]; simp
/-- each road is within one part or across -/
theorem all_once (hS : Sh v rs en) {ps : List (List Nat)} (h : Pt v ps) : isort (natD ((ps.map fun p => (List.range en.length).filter (inBoth en p)).flatten ++ (List.range en.length).filter (crosses en ps))) = natD (List.range en.length) := by
  have hr : (List.range en.length).Nodup := List.nodup_range
  refine isort_natD (List.nodup_append.mpr ⟨flatten_nodup (fun p hp => ?_) ?_, hr.filter _, fun a ha b hb e => ?_⟩) List.pairwise_lt_range fun i => ?_
  · obtain ⟨q, _, rfl⟩ := List.mem_map.mp hp
    exact hr.filter _
  · refine List.pairwise_map.mpr ((List.pairwise_flatten.mp h.nd).2.imp fun {p q} hpq i h1 h2 => ?_)
    have b1 := (List.mem_filter.mp h1).2
    have b2 := (List.mem_filter.mp h2).2
    unfold inBoth at b1 b2
    rw [Bool.and_eq_true] at b1 b2
    exact absurd rfl (hpq _ (List.contains_iff_mem.mp b1.1) _ (List.contains_iff_mem.mp b2.1))
  · subst e
    obtain ⟨l, hl, hal⟩ := List.mem_flatten.mp ha
    obtain ⟨p, hp, rfl⟩ := List.mem_map.mp hl
    obtain ⟨hi, hin⟩ := List.mem_filter.mp hal
    obtain ⟨_, hc⟩ := List.mem_filter.mp hb
    rw [crosses_any hS h (List.mem_range.mp hi)] at hc
    have : (ps.any fun p => inBoth en p a) = true := List.any_eq_true.mpr ⟨p, hp, hin⟩
    rw [this] at hc
    cases hc
  · rw [List.mem_append, List.mem_flatten, List.mem_range]
    constructor
    · rintro (⟨l, hl, hi⟩ | hi)
      · obtain ⟨p, _, rfl⟩ := List.mem_map.mp hl
        exact List.mem_range.mp (List.mem_filter.mp hi).1
      · exact List.mem_range.mp (List.mem_filter.mp hi).1
    · intro hi
      cases hc : crosses en ps i with
      | true => exact .inr (List.mem_filter.mpr ⟨List.mem_range.mpr hi, hc⟩)
      | false =>
        rw [crosses_any hS h hi] at hc
        have : (ps.any fun p => inBoth en p i) = true := by simpa using hc
        obtain ⟨p, hp, hin⟩ := List.any_eq_true.mp this
        exact .inl ⟨_, List.mem_map.mpr ⟨p, hp, rfl⟩, List.mem_filter.mpr ⟨List.mem_range.mpr hi, hin⟩⟩
end
end Wk

namespace Wk
open PySem Em
/-- parts as drawn, behind i villages -/
structure Dr (K i : Nat) (qs : List (List Nat)) : Prop where
  len : qs.length = K
  up : ∀ q ∈ qs, q.Pairwise (· < ·)
  nd : qs.flatten.Nodup
  cov : ∀ u, u ∈ qs.flatten ↔ u < i
theorem mem_set_flatten {qs : List (List Nat)} {d i : Nat} (hd : d < qs.length) (u : Nat) : u ∈ (qs.set d (qs[d] ++ [i])).flatten ↔ u ∈ qs.flatten ∨ u = i := by
  rw [List.mem_flatten, List.mem_flatten]
  constructor
  · rintro ⟨l, hl, hu⟩
    rcases List.mem_or_eq_of_mem_set hl with hl | rfl
    · exact .inl ⟨l, hl, hu⟩
    · rcases List.mem_append.mp hu with hu | hu
      · exact .inl ⟨_, List.getElem_mem hd, hu⟩
      · exact .inr (List.mem_singleton.mp hu)
  · rintro (⟨l, hl, hu⟩ | rfl)
    · obtain ⟨k, hk, rfl⟩ := List.getElem_of_mem hl
      by_cases h : d = k
      · subst h
        exact ⟨qs[d] ++ [i], List.mem_set hd _, List.mem_append.mpr (.inl hu)⟩
      · refine ⟨qs[k], ?_, hu⟩
        rw [List.mem_iff_getElem]
        exact ⟨k, by rw [List.length_set]; exact hk, by rw [List.getElem_set_ne h]⟩
    · exact ⟨qs[d] ++ [u], List.mem_set hd _, List.mem_append.mpr (.inr (by simp))⟩
theorem Dr.step {K i : Nat} {qs : List (List Nat)} (h : Dr K i qs) {d : Nat} (hd : d < qs.length) : Dr K (i + 1) (qs.set d (qs[d] ++ [i])) := by
  have hi : i ∉ qs.flatten := fun z => by have := (h.cov i).mp z; omega
  have hlt : ∀ q ∈ qs, ∀ x ∈ q, x < i := fun q hq x hx => (h.cov x).mp (List.mem_flatten.mpr ⟨q, hq, hx⟩)
  refine ⟨by rw [List.length_set]; exact h.len, fun q hq => ?_, ?_, fun u => ?_⟩
  · rcases List.mem_or_eq_of_mem_set hq with hq | rfl
    · exact h.up q hq
    · exact List.pairwise_append.mpr ⟨h.up _ (List.getElem_mem hd), by simp, fun a ha b hb => by rw [List.mem_singleton.mp hb]; exact hlt _ (List.getElem_mem hd) a ha⟩
  · have h0 := List.pairwise_flatten.mp h.nd
    refine flatten_nodup (fun q hq => ?_) ?_
    · rcases List.mem_or_eq_of_mem_set hq with hq | rfl
      · exact h0.1 q hq
      · exact List.nodup_append.mpr ⟨h0.1 _ (List.getElem_mem hd), by simp, fun a ha b hb e => by
          rw [List.mem_singleton.mp hb] at e
          have := hlt _ (List.getElem_mem hd) a ha
          omega⟩
    · rw [List.pairwise_iff_getElem]
      intro a b ha hb hab x hx1 hx2
      rw [List.length_set] at ha hb
      have hp := List.pairwise_iff_getElem.mp h0.2 a b ha hb hab
      rw [List.getElem_set] at hx1 hx2
      split at hx1
      · rename_i e
        subst e
        rw [if_neg (by omega)] at hx2
        rcases List.mem_append.mp hx1 with h1 | h1
        · exact hp x h1 x hx2 rfl
        · rw [List.mem_singleton.mp h1] at hx2
          exact hi (List.mem_flatten.mpr ⟨_, List.getElem_mem hb, hx2⟩)
      · split at hx2
        · rename_i e
          subst e
          rcases List.mem_append.mp hx2 with h1 | h1
          · exact hp x hx1 x h1 rfl
          · rw [List.mem_singleton.mp h1] at hx1
            exact hi (List.mem_flatten.mpr ⟨_, List.getElem_mem ha, hx1⟩)
        · exact hp x hx1 x hx2 rfl
  · rw [mem_set_flatten hd, h.cov]
    omega
theorem Dr.start (K : Nat) : Dr K 0 (List.replicate K []) := by
  have : (List.replicate K ([] : List Nat)).flatten = [] := by
    induction K with
    | zero => rfl
    | succ k ih => rw [List.replicate_succ, List.flatten_cons, ih]; rfl
  exact ⟨by simp, fun q hq => by rw [(List.mem_replicate.mp hq).2]; exact List.Pairwise.nil, by rw [this]; exact List.Pairwise.nil, fun u => by rw [this]; simp⟩
def natOf : D → List Nat
  | .tuple l => l.map fun x => match x with | .int i => i.toNat | _ => 0
  | _ => []
theorem natOf_tupN (l : List Nat) : natOf (tupN l) = l := by
  show (natD l).map (fun x : D => match x with | .int i => i.toNat | _ => 0) = l
  induction l with
  | nil => rfl
  | cons a r ih =>
    have e : natD (a :: r) = .int (a : Int) :: natD r := rfl
    rw [e, List.map_cons, ih]
    simp
theorem tupN_I (l : List Nat) : tupN l = Nd.tupI (l.map fun (i : Nat) => (i : Int)) := by
  unfold tupN Nd.tupI; rw [natD_ints]
/-- what is drawn, sorted, is a parting -/
theorem sorted_pt {K v : Nat} {qs : List (List Nat)} (h : Dr K v qs) : ∃ ms : List (List Nat), isort ((qs.filter fun q => !q.isEmpty).map tupN) = ms.map tupN ∧ Pt v ms ∧ ms.length ≤ K := by
  have hp : (isort ((qs.filter fun q => !q.isEmpty).map tupN)).Perm ((qs.filter fun q => !q.isEmpty).map tupN) := List.mergeSort_perm _ _
  obtain ⟨ms, e⟩ := Nd.map_of_all (f := tupN) (l := isort ((qs.filter fun q => !q.isEmpty).map tupN)) fun x hx => by
    obtain ⟨q, _, rfl⟩ := List.mem_map.mp (hp.mem_iff.mp hx)
    exact ⟨q, rfl⟩
  rw [e] at hp
  have hp2 : ms.Perm (qs.filter fun q => !q.isEmpty) := by
    have := hp.map natOf
    rw [List.map_map, List.map_map] at this
    have e1 : (natOf ∘ tupN) = id := by funext l; exact natOf_tupN l
    rw [e1, List.map_id, List.map_id] at this
    exact this
  have hmem : ∀ p, p ∈ ms ↔ p ∈ qs ∧ p ≠ [] := fun p => by
    rw [hp2.mem_iff, List.mem_filter]
    constructor
    · rintro ⟨h1, h2⟩; exact ⟨h1, fun z => by subst z; simp at h2⟩
    · rintro ⟨h1, h2⟩; exact ⟨h1, by cases p with
        | nil => exact absurd rfl h2
        | cons a r => rfl⟩
  have hne : ∀ p ∈ ms, p ≠ [] := fun p hp => ((hmem p).mp hp).2
  have hnd : ms.flatten.Nodup := by
    have h0 := List.pairwise_flatten.mp h.nd
    have h1 : (qs.filter fun q => !q.isEmpty).flatten.Nodup := flatten_nodup (fun p hp => h0.1 p (List.mem_filter.mp hp).1) ((h0.2.filter _).imp fun {p q} hpq x hx hy => hpq x hx x hy rfl)
    exact (hp2.flatten.nodup_iff).mpr h1
  refine ⟨ms, e, ⟨hne, fun p hp => h.up p ((hmem p).mp hp).1, hnd, fun u => ?_, ?_⟩, ?_⟩
  · rw [← h.cov u, List.mem_flatten, List.mem_flatten]
    constructor
    · rintro ⟨p, hp, hu⟩; exact ⟨p, ((hmem p).mp hp).1, hu⟩
    · rintro ⟨p, hp, hu⟩; exact ⟨p, (hmem p).mpr ⟨hp, List.ne_nil_of_mem hu⟩, hu⟩
  · -- firsts
    have hs : (ms.map tupN).Pairwise (fun a b => Nd.le a b = true) := by
      rw [← e]
      exact List.pairwise_mergeSort (fun a b c h1 h2 => Nd.le_total.trans a b c h1 h2) (fun a b => by have := Nd.le_total.total a b; simpa using this) _
    have hI : ms.map tupN = (ms.map fun p => p.map fun (i : Nat) => (i : Int)).map Nd.tupI := by
      rw [List.map_map]
      apply List.map_congr_left
      intro p _
      exact tupN_I p
    have hfl : (ms.map fun p => p.map fun (i : Nat) => (i : Int)).flatten.Nodup := by
      rw [← List.map_flatten]
      exact List.pairwise_map.mpr (hnd.imp fun {a b} h => by omega)
    have hps := Nd.parts_sorted (ms.map fun p => p.map fun (i : Nat) => (i : Int)) (fun p hp => by
      obtain ⟨q, hq, rfl⟩ := List.mem_map.mp hp
      have := hne q hq
      cases q with
      | nil => exact absurd rfl this
      | cons a r => simp) hfl
    rw [hI] at hs
    rw [List.mergeSort_of_pairwise hs, Nd.eqvAll_tups, decide_eq_true rfl] at hps
    have hu := (Nd.ups_iff _).mp hps.symm
    rw [List.map_map] at hu
    have h3 := List.pairwise_map.mp hu
    refine List.pairwise_map.mpr (List.Pairwise.imp_of_mem ?_ h3)
    intro a b ha hb hab
    have h1 := hne a ha
    have h2 := hne b hb
    cases a with
    | nil => exact absurd rfl h1
    | cons x r => cases b with
      | nil => exact absurd rfl h2
      | cons y t =>
        have hab : (x : Int) < (y : Int) := hab
        show x < y
        omega
  · rw [hp2.length_eq, ← h.len]
    exact List.length_filter_le _ _
end Wk


namespace Wk
open PySem Em
theorem x_range {c : Em.Ctx} {σ : Em.Env} {s s1 : Sto} {e : E} {k : Nat} (hk : k ≤ 1000) (h : evE c e σ s = .ok (.d (.int (k : Int))) s1) : evE c (.bi .range1 .fr [e]) σ s = .ok (.d (.list (natD (List.range k)))) s1 := by
  rw [x_bi (es_cons' h es_nil')]
  have e := range_ev (c := c) (σ := σ) (s := s1) (em := .k (.int (k : Int))) hk x_k
  rw [x_bi (es_cons' x_k es_nil'), range_natD] at e
  exact e
theorem first32 (n j : Nat) {c : Cell} {F : List Cell} (hj : F[j]? = some c) (hp : Pot c) (v : Nat) :
    ∃ c' k, Pot c' ∧ 2 ≤ k ∧ k ≤ 5 ∧ evE ⟨evF prog (n + 1), prog.glob, prog.fuel⟩ (.lc .ne (.lst .fl []) (.slot 4) (.bi .range1 .fr [.op .add .fr (.k (.int 2)) (.call 32 .fr [.v 0, .k (.int 4)] [])]) none [4]) [some (.fl j), some (.d (.int v)), none, none, none] ⟨F, []⟩ = .ok (.ne 0) (st23 F j c' ((List.replicate k ([] : List Nat)).map natD)) := by
  obtain ⟨hjl, _⟩ := List.getElem?_eq_some_iff.mp hj
  obtain ⟨c1, d1, p1, a1, b1, e1⟩ := draw_ev n j (T := []) hj hp (m := 4) (by omega) (by omega) (σ := [some (.fl j), some (.d (.int v)), none, none, none]) rfl (em := .k (.int 4)) (fun s => x_k)
  rw [List.append_nil, List.append_nil] at e1
  have hsm : sizeMax = 16777216 := rfl
  have hf : prog.fuel = 1000000 := rfl
  obtain ⟨k, hk⟩ : ∃ k : Nat, (2 + d1) = (k : Int) := ⟨(2 + d1).toNat, by omega⟩
  have hk4 : k ≤ 5 := by omega
  have er : evE ⟨evF prog (n + 1), prog.glob, prog.fuel⟩ (.bi .range1 .fr [.op .add .fr (.k (.int 2)) (.call 32 .fr [.v 0, .k (.int 4)] [])]) [some (.fl j), some (.d (.int v)), none, none, none] ⟨F, []⟩ = .ok (.d (.list (natD (List.range k)))) ⟨F.set j c1, []⟩ := by
    have eo : evE ⟨evF prog (n + 1), prog.glob, prog.fuel⟩ (.op .add .fr (.k (.int 2)) (.call 32 .fr [.v 0, .k (.int 4)] [])) [some (.fl j), some (.d (.int v)), none, none, none] ⟨F, []⟩ = .ok (.d (.int (k : Int))) ⟨F.set j c1, []⟩ := (x_op x_k e1).trans (by rw [op2S_dd, op_addI, hk])
    exact x_range (by omega) eo
  obtain ⟨s', vs, e2, hI⟩ := loopC_inv (items_list (natD (List.range k))) (f := lcF ⟨evF prog (n + 1), prog.glob, prog.fuel⟩ (.lst .fl []) (.slot 4) none [4] [some (.fl j), some (.d (.int v)), none, none, none])
    (fun i s acc => i ≤ k ∧ s = ⟨F.set j c1 ++ ((List.replicate i ([] : List Nat)).map natD).map .li, []⟩ ∧ acc = (List.range i).map fun i => Val.fl (F.length + i)) (fun i x s acc hx hI => by
      obtain ⟨_, rfl, rfl⟩ := hI
      have hil := (List.getElem?_eq_some_iff.mp hx).1
      rw [natD_len, List.length_range] at hil
      have pv : putVal (.slot 4) (.d x) (Em.wipe [some (.fl j), some (.d (.int v)), none, none, none] [4]) = some [some (.fl j), some (.d (.int v)), none, none, some (.d x)] := rfl
      have hn : natD [] = [] := rfl
      refine ⟨_, _, lcF_none pv lst0, by rw [List.length_map, List.length_range]; omega, hil, ?_, ?_⟩
      · simp [List.replicate_succ', hn]
      · simp [List.range_succ]) k prog.fuel 0 ⟨F.set j c1, []⟩ [] (by rw [natD_len, List.length_range]; omega) (by rw [hf]; omega) ⟨by omega, by simp, rfl⟩
  rw [natD_len, List.length_range] at hI
  obtain ⟨_, rfl, rfl⟩ := hI
  refine ⟨c1, k, p1, by omega, by omega, ?_⟩
  rw [x_lc er e2]
  simp [mkV, st23]
theorem set_natD (qs : List (List Nat)) (d i : Nat) (hd : d < (qs.map natD).length) (hd2 : d < qs.length) : (qs.map natD).set d ((qs.map natD)[d] ++ [.int (i : Int)]) = (qs.set d (qs[d] ++ [i])).map natD := by
  rw [List.map_set, List.getElem_map, natD_snoc]
theorem loop32 (n j n0 : Nat) {F : List Cell} (hj : j < F.length) (v k : Nat) (hv : v ≤ 10) (hk : 2 ≤ k) (hk4 : k ≤ 5) {c : Cell} (hp : Pot c) :
    ∃ c' qs t, Pot c' ∧ Dr k v qs ∧ loopS (fun σ1 x s2 => match putVal (.slot 3) x σ1 with
      | some σ2 => evSs ⟨evF prog (n + 1), prog.glob, prog.fuel⟩ n0 [st23b] σ2 s2
      | none => .bad) (.d (.list (natD (List.range v)))) prog.fuel 0 (e23 j v none) (st23 F j c ((List.replicate k ([] : List Nat)).map natD)) = .ok (.nx, e23 j v t) (st23 F j c' (qs.map natD)) := by
  have hf : prog.fuel = 1000000 := rfl
  obtain ⟨σ', s', e, c', qs, t, hp', hD, rfl, rfl⟩ := loopS_inv (items_list (natD (List.range v))) (f := fun σ1 x s2 => match putVal (.slot 3) x σ1 with
      | some σ2 => evSs ⟨evF prog (n + 1), prog.glob, prog.fuel⟩ n0 [st23b] σ2 s2
      | none => .bad) (fun i σ s => ∃ (c : Cell) (qs : List (List Nat)) (t : Option Val), Pot c ∧ Dr k i qs ∧ s = st23 F j c (qs.map natD) ∧ σ = e23 j v t) (fun i x σ s hx hI => by
    obtain ⟨c, qs, t, hp, hD, rfl, rfl⟩ := hI
    have hil := (List.getElem?_eq_some_iff.mp hx).1
    rw [natD_len, List.length_range] at hil
    have hx : x = .int (i : Int) := by
      have := (List.getElem?_eq_some_iff.mp hx).2
      rw [← this]; simp [natD]
    subst hx
    obtain ⟨c', d, hd, hc, e⟩ := turn23 n j n0 hj hp v (.int (i : Int)) (qs.map natD) (by rw [List.length_map, hD.len]; omega) (by rw [List.length_map, hD.len]; omega) (fun l hl => by
      obtain ⟨q, hq, rfl⟩ := List.mem_map.mp hl
      rw [natD_len]
      have h1 := (List.pairwise_flatten.mp hD.nd).1 q hq
      have := nodup_len i q h1 fun x hx => (hD.cov x).mp (List.mem_flatten.mpr ⟨q, hq, hx⟩)
      omega)
    have hd2 : d < qs.length := by rwa [List.length_map] at hd
    rw [set_natD qs d i hd hd2] at e
    refine ⟨e23 j v (some (.d (.int (i : Int)))), st23 F j c' ((qs.set d (qs[d] ++ [i])).map natD), ?_, c', qs.set d (qs[d] ++ [i]), some (.d (.int (i : Int))), hc, hD.step hd2, rfl, rfl⟩
    have pv : putVal (.slot 3) (.d (.int (i : Int))) (e23 j v t) = some (e23 j v (some (.d (.int (i : Int))))) := rfl
    simp only [pv]
    exact e) v prog.fuel 0 (e23 j v none) (st23 F j c ((List.replicate k ([] : List Nat)).map natD)) (by rw [natD_len, List.length_range]; omega) (by rw [hf]; omega) ⟨c, _, none, hp, Dr.start k, rfl, rfl⟩
  rw [natD_len, List.length_range] at hD
  exact ⟨c', qs, t, hp', hD, e⟩
theorem last32 (m : Nat) (j : Nat) {c : Cell} {F : List Cell} (v : Nat) (qs : List (List Nat)) (hz : qs.length ≤ 5) (t : Option Val) :
    evE ⟨evF prog m, prog.glob, prog.fuel⟩ (.lc .fr (.bi .tuple .fr [.v 4]) (.slot 4) (.v 2) (some (.op .ne .fr (.v 4) (.lst .fr []))) [4]) (e23 j v t) (st23 F j c (qs.map natD)) = .ok (.d (.list ((qs.filter fun q => !q.isEmpty).map tupN))) (st23 F j c (qs.map natD)) := by
  have hsm : sizeMax = 16777216 := rfl
  have hf : prog.fuel = 1000000 := rfl
  have hml : (qs.map natD).length = qs.length := List.length_map _
  have hlen : ((List.range (qs.map natD).length).map fun i => Val.fl (F.length + i)).length = qs.length := by rw [List.length_map, List.length_range, hml]
  obtain ⟨s', vs, e, hI⟩ := loopC_invV (v := .ne 0) (l := (List.range (qs.map natD).length).map fun i => Val.fl (F.length + i)) (f := lcF ⟨evF prog m, prog.glob, prog.fuel⟩ (.bi .tuple .fr [.v 4]) (.slot 4) (some (.op .ne .fr (.v 4) (.lst .fr []))) [4] (e23 j v t))
    (fun i s acc => i ≤ qs.length ∧ s = st23 F j c (qs.map natD) ∧ acc = (((qs.take i).filter fun q => !q.isEmpty).map tupN).map Val.d) (fun i s acc hI => by
      obtain ⟨_, rfl, _⟩ := hI
      rfl) (fun i x s acc hx hI => by
      obtain ⟨_, rfl, rfl⟩ := hI
      have hil := (List.getElem?_eq_some_iff.mp hx).1
      rw [hlen] at hil
      rw [List.getElem?_map, List.getElem?_range (by rw [hml]; exact hil)] at hx
      have hx : Val.fl (F.length + i) = x := Option.some.inj hx
      subst hx
      have hil2 : i < (qs.map natD).length := by rw [hml]; exact hil
      have hg := st23_at (F := F) (j := j) (c := c) hil2
      rw [List.getElem_map] at hg
      have hacc : ((((qs.take i).filter fun q => !q.isEmpty).map tupN).map Val.d).length < sizeMax := by
        rw [List.length_map, List.length_map]
        have h1 := List.length_filter_le (fun q : List Nat => !q.isEmpty) (qs.take i)
        rw [List.length_take] at h1
        omega
      have htake : qs.take (i + 1) = qs.take i ++ [qs[i]] := by rw [List.take_succ_eq_append_getElem hil]
      have pv : putVal (.slot 4) (.fl (F.length + i)) (Em.wipe (e23 j v t) [4]) = some [some (.fl j), some (.d (.int v)), some (.ne 0), t, some (.fl (F.length + i))] := rfl
      have ec := x_neNil (c := ⟨evF prog m, prog.glob, prog.fuel⟩) (σ := [some (.fl j), some (.d (.int v)), some (.ne 0), t, some (.fl (F.length + i))]) (s := st23 F j c (qs.map natD)) (a := .v 4) (i := F.length + i) (l := qs[i]) (x_v rfl) hg
      have et := x_tupleF (c := ⟨evF prog m, prog.glob, prog.fuel⟩) (σ := [some (.fl j), some (.d (.int v)), some (.ne 0), t, some (.fl (F.length + i))]) (s := st23 F j c (qs.map natD)) (e := .v 4) (i := F.length + i) (x_v rfl) hg
      have el := lcF_if (elt := .bi .tuple .fr [.v 4]) pv (x_tst ec) et
      refine ⟨_, _, el, hacc, hil, rfl, ?_⟩
      rw [htake, List.filter_append, List.map_append, List.map_append]
      cases hq : qs[i] with
      | nil => simp
      | cons a r =>
        simp
        rfl) qs.length prog.fuel 0 (st23 F j c (qs.map natD)) [] (by rw [hlen]; omega) (by rw [hf]; omega) ⟨by omega, rfl, rfl⟩
  rw [hlen, List.take_length] at hI
  obtain ⟨_, rfl, rfl⟩ := hI
  exact (x_lc (x_v rfl) e).trans (mkV_fr _ _)
theorem sortOk_tupN (qs : List (List Nat)) (hz : qs.length ≤ 1000) (hne : ∀ q ∈ qs, q ≠ []) : sortOk (qs.map tupN) = true := by
  have hI : qs.map tupN = (qs.map fun p => p.map fun (i : Nat) => (i : Int)).map Nd.tupI := by
    rw [List.map_map]
    apply List.map_congr_left
    intro p _
    exact tupN_I p
  rw [hI]
  exact alike_tups _ (fun p hp => by
    obtain ⟨q, hq, rfl⟩ := List.mem_map.mp hp
    have := hne q hq
    cases q with
    | nil => exact absurd rfl this
    | cons a r => simp) (by rw [List.length_map]; exact hz)
end Wk
end

section
set_option Elab.async false
set_option linter.all false
set_option maxRecDepth 100000
set_option maxHeartbeats 400000
namespace Wk
open PySem Em
theorem x_callP {n f : Nat} {m : Mode} {σ : Em.Env} {s s1 : Sto} {es : List E} {vs : List Val} {p : D} {F' : List Cell} (h : evEs ⟨evF prog n, prog.glob, prog.fuel⟩ es σ s = .ok vs s1) (ha : vs.all argOk = true) (he : evF prog n f vs [] s1.F = .ok (.d p) ⟨F', []⟩) : evE ⟨evF prog n, prog.glob, prog.fuel⟩ (.call f m es []) σ s = .ok (.d p) ⟨F', s1.N⟩ := by
  rw [x_call h ha]
  simp only [he]
  rfl
theorem x_callN {n f : Nat} {σ : Em.Env} {s s1 : Sto} {es : List E} {vs : List Val} {l : List D} (h : evEs ⟨evF prog n, prog.glob, prog.fuel⟩ es σ s = .ok vs s1) (ha : vs.all argOk = true) (he : evF prog n f vs [] s1.F = .ok (.fl s1.F.length) ⟨s1.F ++ [.li l], []⟩) : evE ⟨evF prog n, prog.glob, prog.fuel⟩ (.call f .fl es []) σ s = .ok (.fl s1.F.length) ⟨s1.F ++ [.li l], s1.N⟩ := by
  rw [x_call h ha]
  simp only [he, called, Nat.lt_irrefl, if_false]
theorem x_callDk {n f : Nat} {m : Mode} {σ : Em.Env} {s s1 : Sto} {kws : List (Nat × E)} {ks : List (Nat × Val)} {d : Def} {us : List Val} {p : D} (h : evKs ⟨evF prog (n + 1), prog.glob, prog.fuel⟩ kws σ s = .ok ks s1) (ha : ks.all (fun p => argOk p.2) = true) (hd : prog.fn f = some d) (ho : order d.npar [] ks = some us) (hl : us.length = d.npar) (he : evF prog (n + 1) f us [] s1.F = .ok (.d p) ⟨s1.F, []⟩) : evE ⟨evF prog (n + 1), prog.glob, prog.fuel⟩ (.call f m [] kws) σ s = .ok (.d p) s1 := by
  rw [x_callk h ha]
  have e := (evF_kw (F := s1.F) (n := n) hd ho hl).trans he
  simp only [e]
  rfl
theorem x_callLk {n f : Nat} {σ : Em.Env} {s s1 : Sto} {kws : List (Nat × E)} {ks : List (Nat × Val)} {d : Def} {us : List Val} {l : List D} (h : evKs ⟨evF prog (n + 1), prog.glob, prog.fuel⟩ kws σ s = .ok ks s1) (ha : ks.all (fun p => argOk p.2) = true) (hd : prog.fn f = some d) (ho : order d.npar [] ks = some us) (hl : us.length = d.npar) (he : evF prog (n + 1) f us [] s1.F = .ok (.fl s1.F.length) ⟨s1.F ++ [.li l], []⟩) : evE ⟨evF prog (n + 1), prog.glob, prog.fuel⟩ (.call f .fr [] kws) σ s = .ok (.d (.list l)) s1 := by
  rw [x_callk h ha]
  have e := (evF_kw (F := s1.F) (n := n) hd ho hl).trans he
  simp only [e]
  exact called_new rfl
/-- repr of a row of a list of the store and data -/
theorem x_reprNe {c : Em.Ctx} {σ : Em.Env} {s : Sto} {a b : E} {i : Nat} {l : List D} {q : D} (ha : evE c a σ s = .ok (.fl i) s) (hb : evE c b σ s = .ok (.d q) s) (hg : s.F[i]? = some (.li l)) (h1 : Nd.nice (.list [.list l, q]) = true) (h2 : (PyData.list [.list l, q]).weight ≤ 10000) (h3 : (PyData.list [.list l, q]).depth ≤ 60) :
    evE c (.bi .repr .fr [.lst .ne [a, b]]) σ s = .ok (.d (.str (PyData.list [.list l, q]).shown)) ⟨s.F, s.N ++ [[.fl i, .d q]]⟩ := by
  have hsm : sizeMax = 16777216 := rfl
  have hr := repr_ok (Nd.nice_showable h1) (by omega) (by rw [hsm]; exact Nd.nice_shown h1 (by omega))
  have el : evE c (.lst .ne [a, b]) σ s = .ok (.ne s.N.length) ⟨s.F, s.N ++ [[Val.fl i, Val.d q]]⟩ := by
    simp only [ev_lst, es_cons' ha (es_cons' hb es_nil'), R.bd_ok, mkV]
  rw [x_bi (es_cons' el es_nil')]
  have hs : (⟨s.F, s.N ++ [[.fl i, .d q]]⟩ : Sto).snap (.ne s.N.length) = some (.list [.list l, q]) := by
    have g : (s.N ++ [[Val.fl i, Val.d q]])[s.N.length]? = some [Val.fl i, Val.d q] := by rw [List.getElem?_append_right (Nat.le_refl _)]; simp
    unfold Sto.snap
    simp only [g]
    simp [Sto.snapF, hg]
  have hs2 : snaps (⟨s.F, s.N ++ [[.fl i, .d q]]⟩ : Sto) true [.ne s.N.length] = some [.list [.list l, q]] := by
    simp only [snaps, Sto.see, if_true, hs]
  show (match snaps (⟨s.F, s.N ++ [[Val.fl i, Val.d q]]⟩ : Sto) true [.ne s.N.length] with | some as => bi .repr .fr as (⟨s.F, s.N ++ [[Val.fl i, Val.d q]]⟩ : Sto) | none => .bad) = _
  rw [hs2]
  have hl : biL1 .repr (.list [.list l, q]) = none := rfl
  simp only [bi, biL, biV, hl, hr]
/-! lists of numbers are nice -/
theorem natD_nice {l : List Nat} (h : ∀ i ∈ l, i < 1000) : Nd.niceAll (natD l) = true := Nd.niceAll_iff.mpr fun x hx => by
  obtain ⟨i, hi, rfl⟩ := List.mem_map.mp hx
  have := h i hi
  simp only [Nd.nice, decide_eq_true_eq]; omega
theorem natD_weight {l : List Nat} (h : ∀ i ∈ l, i < 1000) : PyData.weightAll (natD l) ≤ l.length * 11 := by
  have := Nd.weightAll_const (l := natD l) (k := 10) fun x hx => by
    obtain ⟨i, hi, rfl⟩ := List.mem_map.mp hx
    have := h i hi
    exact Nd.int_weight (by omega)
  rwa [natD_len] at this
theorem natD_depth (l : List Nat) : PyData.depthAll (natD l) ≤ 0 := Nd.depthAll_iff.mpr fun x hx => by
  obtain ⟨i, hi, rfl⟩ := List.mem_map.mp hx
  simp [PyData.depth]
def Small (p : D) : Prop := Nd.nice p = true ∧ p.weight ≤ 4000 ∧ p.depth ≤ 10
theorem small_tupN {l : List Nat} (h : ∀ i ∈ l, i < 1000) (hz : l.length ≤ 100) : Nd.nice (tupN l) = true ∧ (tupN l).weight ≤ l.length * 11 ∧ (tupN l).depth ≤ 1 :=
  ⟨by unfold tupN; simp only [Nd.nice]; exact natD_nice h, by unfold tupN; simp only [PyData.weight]; exact natD_weight h, Nd.depth_tup.mpr fun x hx => Nd.depthAll_iff.mp (natD_depth l) x hx⟩
theorem small_lists {ps : List (List Nat)} (h : ∀ p ∈ ps, (∀ i ∈ p, i < 1000) ∧ p.length ≤ 10) (hz : ps.length ≤ 10) : Small (.list (ps.map tupN)) := by
  have hp : ∀ x ∈ ps.map tupN, Nd.nice x = true ∧ x.weight ≤ 110 ∧ x.depth ≤ 1 := fun x hx => by
    obtain ⟨p, hp, rfl⟩ := List.mem_map.mp hx
    obtain ⟨h1, h2⟩ := h p hp
    obtain ⟨a, b, c⟩ := small_tupN h1 (by omega)
    exact ⟨a, by omega, c⟩
  have w := Nd.weightAll_const fun x hx => (hp x hx).2.1
  rw [List.length_map] at w
  refine ⟨by simp only [Nd.nice]; exact Nd.niceAll_iff.mpr fun x hx => (hp x hx).1, by simp only [PyData.weight]; omega, ?_⟩
  have := Nd.depth_lst (l := ps.map tupN) (k := 1)
  have := this.mpr fun x hx => (hp x hx).2.2
  omega
theorem pair_fit {p q : D} (hp : Small p) (hq : Small q) : Nd.nice (.list [p, q]) = true ∧ (PyData.list [p, q]).weight ≤ 10000 ∧ (PyData.list [p, q]).depth ≤ 60 := by
  refine ⟨by simp only [Nd.nice, Nd.niceAll, hp.1, hq.1, Bool.and_self], ?_, ?_⟩
  · have e : (PyData.list [p, q]).weight = p.weight + 1 + (q.weight + 1 + 0) := rfl
    have := hp.2.1; have := hq.2.1
    omega
  · have e : (PyData.list [p, q]).depth = max p.depth (max q.depth 0) + 1 := rfl
    have h1 := hp.2.2; have h2 := hq.2.2
    rw [e]
    have : max p.depth (max q.depth 0) ≤ 10 := by
      rw [Nat.max_le, Nat.max_le]; exact ⟨h1, h2, by omega⟩
    omega
/-- repr of a row of two -/
theorem x_reprP {c : Em.Ctx} {σ : Em.Env} {s s1 s2 : Sto} {a b : E} {p q : D} (ha : evE c a σ s = .ok (.d p) s1) (hb : evE c b σ s1 = .ok (.d q) s2) (hp : Small p) (hq : Small q) : evE c (.bi .repr .fr [.lst .fr [a, b]]) σ s = .ok (.d (.str (PyData.list [p, q]).shown)) s2 := by
  have f := pair_fit hp hq
  exact x_repr (x_lst (vs := [p, q]) (es_cons' ha (es_cons' hb es_nil'))) f.1 f.2.1 f.2.2
theorem pieces_small {E : List (Nat × Nat)} {v : Nat} (ho : Gr.Ok E v) (hv : v ≤ 10) : Small (.list ((Gr.pieces E v).map tupN)) := by
  have hP := pieces_pt ho
  refine small_lists (fun p hp => ⟨fun i hi => by have := hP.lt hp hi; omega, ?_⟩) ?_
  · have := nodup_len v p ((hP.up p hp).imp fun {a b} h => Nat.ne_of_lt h) fun x hx => hP.lt hp hx
    omega
  · unfold Gr.pieces
    rw [List.length_map]
    have := nodup_len v (Gr.leads E v) ((Gr.leads_sorted E v).imp fun {a b} h => Nat.ne_of_lt h) fun x hx => (Gr.mem_leads.mp hx).1
    omega
/-! the lots, one after another -/
abbrev cy (n : Nat) : Em.Ctx := ⟨evF prog (n + 8), prog.glob, prog.fuel⟩
section
variable {v : Nat} {rs : List D} {en : List (Nat × Nat)}
end
end Wk


namespace Wk
open PySem Em
theorem lc_tup {f : Val → Sto → R (Option Val)} {v : Val} {ps : List (List Nat)} (hn : Items v (ps.map tupN)) {s : Sto} {fuel : Nat} (g : List Nat → D) (hf : ∀ p ∈ ps, f (.d (tupN p)) s = .ok (some (Val.d (g p))) s) (hz : ps.length ≤ sizeMax) (hfu : ps.length < fuel) :
    loopC f v fuel 0 s [] = .ok ((ps.map g).map Val.d) s := by
  have := lc_pure hn (s := s) (fuel := fuel) (f := f) (fun q => some (g (natOf q))) (fun x hx => by
    obtain ⟨p, hp, rfl⟩ := List.mem_map.mp hx
    rw [hf p hp, natOf_tupN]; rfl) (by rw [List.length_map]; exact hz) (by rw [List.length_map]; exact hfu)
  rw [fm_some] at this
  have e : (ps.map tupN).map (fun q => g (natOf q)) = ps.map g := by
    rw [List.map_map]
    apply List.map_congr_left
    intro p _
    show g (natOf (tupN p)) = g p
    rw [natOf_tupN]
  rw [e] at this
  exact this
theorem x_any {c : Em.Ctx} {σ : Em.Env} {s s1 : Sto} {e : E} {bs : List Bool} (h : evE c e σ s = .ok (.d (.list (bs.map .bool))) s1) : evE c (.bi .any .fr [e]) σ s = .ok (.d (.bool (anyB bs))) s1 := by
  rw [x_bi (es_cons' h es_nil')]
  simp only [biS, stillB, snaps, Sto.see, Sto.capt, Sto.snapF, deepB, bi, biL, biL1, biV, any_bools, Bool.false_eq_true, if_false]
theorem any_map {α : Type} (l : List α) (f : α → Bool) : anyB (l.map f) = l.any f := by unfold anyB; rw [List.any_map]; rfl
theorem x_lenD {c : Em.Ctx} {σ : Em.Env} {s s1 : Sto} {e : E} {p : D} {k : Nat} (h : evE c e σ s = .ok (.d p) s1) (hl : (∃ l, p = .list l ∧ l.length = k) ∨ ∃ l, p = .tuple l ∧ l.length = k) : evE c (.bi .len .fr [e]) σ s = .ok (.d (.int (k : Int))) s1 := by
  rw [x_bi (es_cons' h es_nil')]
  rcases hl with ⟨l, rfl, rfl⟩ | ⟨l, rfl, rfl⟩ <;> rfl
theorem x_gt1 {c : Em.Ctx} {σ : Em.Env} {s s1 : Sto} {e : E} {k : Nat} (h : evE c e σ s = .ok (.d (.int (k : Int))) s1) : tst (evE c (.op .gt .fr e (.k (.int 1))) σ s) = .ok (decide (1 < k)) s1 := by
  apply x_tst
  rw [x_op h x_k, op2S_dd, op_gtI]
  have : decide ((1 : Int) < (k : Int)) = decide (1 < k) := decide_eq_decide.mpr (by omega)
  rw [this]
section
variable {v : Nat} {rs : List D} {en : List (Nat × Nat)}
variable (n n0 j : Nat) (lots lot due vil som par shown every told inner part : Option Val)
end
end Wk

namespace Wk
open PySem Em
section
variable {v : Nat} {rs : List D} {en : List (Nat × Nat)}
variable (n n0 j : Nat) (lots lot due vil som par shown every told inner part : Option Val)
def inn (en : List (Nat × Nat)) (ps : List (List Nat)) : List Nat := (ps.map fun p => (List.range en.length).filter (inBoth en p)).flatten
theorem inn_len (en : List (Nat × Nat)) (ps : List (List Nat)) : (inn en ps).length ≤ ps.length * en.length := by
  unfold inn
  induction ps with
  | nil => simp
  | cons q r ih =>
    have := List.length_filter_le (inBoth en q) (List.range en.length)
    rw [List.length_range] at this
    rw [List.map_cons, List.flatten_cons, List.length_append, List.length_cons, Nat.add_mul, Nat.one_mul]
    omega
theorem inn_snoc (en : List (Nat × Nat)) (ps : List (List Nat)) (p : List Nat) : inn en (ps ++ [p]) = inn en ps ++ (List.range en.length).filter (inBoth en p) := by
  unfold inn
  rw [List.map_append, List.flatten_append]; simp
end
end Wk

namespace Wk
open PySem Em
theorem dshire_small {p : D} (h : DShire 7 12 p) : Small p := by
  obtain ⟨m, rs, rfl, h1, h2, h3, h4⟩ := h
  have hr : ∀ q ∈ rs, Nd.nice q = true ∧ q.weight ≤ 20 ∧ q.depth ≤ 1 := fun q hq => by
    obtain ⟨a, b, x, y, rfl, g1, g2, g3, g4, g5, g6, g7⟩ := h4 q hq
    have w1 := Nd.int_weight (i := a) (k := 4) (by omega)
    have w2 := Nd.int_weight (i := b) (k := 4) (by omega)
    have w3 := Nd.int_weight (i := x) (k := 4) (by omega)
    have w4 := Nd.int_weight (i := y) (k := 4) (by omega)
    refine ⟨?_, ?_, ?_⟩
    · simp only [Nd.nice, Nd.niceAll, Bool.and_eq_true, decide_eq_true_eq, and_true]
      omega
    · have e : (PyData.tuple [.int a, .int b, .int x, .int y]).weight = (PyData.int a).weight + 1 + ((PyData.int b).weight + 1 + ((PyData.int x).weight + 1 + ((PyData.int y).weight + 1 + 0))) := rfl
      omega
    · simp [PyData.depth, PyData.depthAll]
  have w1 := Nd.int_weight (i := m) (k := 4) (by omega)
  have w2 := Nd.weightAll_const (l := rs) (k := 20) fun q hq => (hr q hq).2.1
  have w0 : (PyData.str shireS).weight = 5 := by decide +kernel
  refine ⟨?_, ?_, ?_⟩
  · have e1 : Nd.niceAll rs = true := Nd.niceAll_iff.mpr fun q hq => (hr q hq).1
    have e0 : PyData.strOk shireS = true := Nd.strOk_ofString _
    simp only [Nd.nice, Nd.niceAll, e1, e0, Bool.and_eq_true, decide_eq_true_eq, and_true, true_and]
    omega
  · have e : (PyData.tuple [.str shireS, .int m, .tuple rs]).weight = (PyData.str shireS).weight + 1 + ((PyData.int m).weight + 1 + ((PyData.tuple rs).weight + 1 + 0)) := rfl
    have e2 : (PyData.tuple rs).weight = PyData.weightAll rs := rfl
    omega
  · have e : (PyData.tuple rs).depth ≤ 1 + 1 := Nd.depth_tup.mpr fun q hq => (hr q hq).2.2
    have : (PyData.tuple [.str shireS, .int m, .tuple rs]).depth ≤ 2 + 1 := Nd.depth_tup.mpr fun x hx => by
      simp only [List.mem_cons, List.not_mem_nil, or_false] at hx
      rcases hx with rfl | rfl | rfl
      · simp [PyData.depth]
      · simp [PyData.depth]
      · exact e
    omega
section
variable {v : Nat} {rs : List D} {en : List (Nat × Nat)}
end
end Wk
end

section
set_option Elab.async false
set_option linter.all false
set_option maxRecDepth 100000
set_option maxHeartbeats 400000
/-! Grd: one edge more; edges put together; a graph whose parts are made one. -/
namespace Gr
theorem nodup_perm : ∀ {m l : List Nat}, m.Nodup → (∀ x ∈ m, x ∈ l) → l.length ≤ m.length → m.Perm l
  | [], l, _, _, h => by
    have : l = [] := List.length_eq_zero_iff.mp (by simpa using h)
    subst this; exact .nil
  | x :: m, l, hd, hs, h => by
    have hx := hs x List.mem_cons_self
    have hd' := List.nodup_cons.mp hd
    have h1 := List.length_erase_of_mem hx
    have h2 := List.length_pos_of_mem hx
    have ih := nodup_perm (m := m) (l := l.erase x) hd'.2 (fun y hy => (List.mem_erase_of_ne (fun (e : y = x) => hd'.1 (e ▸ hy))).mpr (hs y (List.mem_cons_of_mem _ hy))) (by rw [h1]; simp only [List.length_cons] at h; omega)
    exact (List.Perm.cons x ih).trans (List.perm_cons_erase hx).symm
theorem nodup_sub : ∀ {m l : List Nat}, m.Nodup → (∀ x ∈ m, x ∈ l) → m.length ≤ l.length
  | [], l, _, _ => Nat.zero_le _
  | x :: m, l, hd, hs => by
    have hx := hs x List.mem_cons_self
    have hd' := List.nodup_cons.mp hd
    have h1 := List.length_erase_of_mem hx
    have h2 := List.length_pos_of_mem hx
    have ih := nodup_sub (m := m) (l := l.erase x) hd'.2 (fun y hy => (List.mem_erase_of_ne (fun (e : y = x) => hd'.1 (e ▸ hy))).mpr (hs y (List.mem_cons_of_mem _ hy)))
    simp only [List.length_cons]; omega
theorem Reach.mono {E E' : List (Nat × Nat)} (h : ∀ e ∈ E, e ∈ E') {u w : Nat} (r : Reach E u w) : Reach E' u w := by
  induction r with
  | refl => exact .refl
  | step _ a ih => exact ih.step (a.elim (fun x => .inl (h _ x)) fun x => .inr (h _ x))
theorem reach_more {E : List (Nat × Nat)} {e : Nat × Nat} {u w : Nat} (r : Reach (E ++ [e]) u w) : Reach E u w ∨ (Reach E u e.1 ∧ Reach E e.2 w) ∨ (Reach E u e.2 ∧ Reach E e.1 w) := by
  induction r with
  | refl => exact .inl .refl
  | @step w x _ a ih =>
    have key : Adj E w x ∨ (w = e.1 ∧ x = e.2) ∨ (w = e.2 ∧ x = e.1) := by
      rcases a with a | a <;> rcases List.mem_append.mp a with a | a
      · exact .inl (.inl a)
      · have := List.mem_singleton.mp a; subst this; exact .inr (.inl ⟨rfl, rfl⟩)
      · exact .inl (.inr a)
      · have := List.mem_singleton.mp a; subst this; exact .inr (.inr ⟨rfl, rfl⟩)
    rcases key with k | ⟨rfl, rfl⟩ | ⟨rfl, rfl⟩
    · rcases ih with h | ⟨h1, h2⟩ | ⟨h1, h2⟩
      · exact .inl (h.step k)
      · exact .inr (.inl ⟨h1, h2.step k⟩)
      · exact .inr (.inr ⟨h1, h2.step k⟩)
    · rcases ih with h | ⟨h1, h2⟩ | ⟨h1, h2⟩
      · exact .inr (.inl ⟨h, .refl⟩)
      · exact .inr (.inl ⟨h1, .refl⟩)
      · exact .inl h1
    · rcases ih with h | ⟨h1, h2⟩ | ⟨h1, h2⟩
      · exact .inr (.inr ⟨h, .refl⟩)
      · exact .inl h1
      · exact .inr (.inr ⟨h1, .refl⟩)
theorem reach_less {E : List (Nat × Nat)} {e : Nat × Nat} {u w : Nat} (r : Reach E u w) : Reach (E ++ [e]) u w := r.mono fun x hx => List.mem_append.mpr (.inl hx)
theorem reach_last {E : List (Nat × Nat)} {e : Nat × Nat} : Reach (E ++ [e]) e.1 e.2 := Reach.refl.step (.inl (List.mem_append.mpr (.inr (by simp))))
/-- an edge between what is joined changes nothing -/
theorem reach_same {E : List (Nat × Nat)} {e : Nat × Nat} (he : Reach E e.1 e.2) {u w : Nat} : Reach (E ++ [e]) u w ↔ Reach E u w := by
  refine ⟨fun r => ?_, reach_less⟩
  rcases reach_more r with h | ⟨h1, h2⟩ | ⟨h1, h2⟩
  · exact h
  · exact (h1.trans he).trans h2
  · exact (h1.trans he.symm).trans h2
theorem leads_congr {E E' : List (Nat × Nat)} (h : ∀ u w, Reach E u w ↔ Reach E' u w) (v : Nat) : leads E v = leads E' v := by
  unfold leads
  congr 1
  funext r
  have : Lead E r ↔ Lead E' r := ⟨fun q w hw => q w ((h r w).mpr hw), fun q w hw => q w ((h r w).mp hw)⟩
  exact decide_eq_decide.mpr this
theorem lead_more {E : List (Nat × Nat)} {e : Nat × Nat} (he : ¬ Reach E e.1 e.2) (r : Nat) : Lead (E ++ [e]) r ↔ Lead E r ∧ r ≠ max (lead E e.1) (lead E e.2) := by
  have ha := lead_reach E e.1
  have hb := lead_reach E e.2
  have hne : lead E e.1 ≠ lead E e.2 := fun q => he (ha.trans (q ▸ hb.symm))
  constructor
  · intro h
    refine ⟨fun w hw => h w (reach_less hw), fun q => ?_⟩
    rcases Nat.lt_or_ge (lead E e.1) (lead E e.2) with l | l
    · rw [Nat.max_eq_right (Nat.le_of_lt l)] at q
      have := h (lead E e.1) (by
        rw [q]
        exact ((reach_less hb.symm).trans reach_last.symm).trans (reach_less ha))
      omega
    · rw [Nat.max_eq_left l] at q
      have := h (lead E e.2) (by
        rw [q]
        exact ((reach_less ha.symm).trans reach_last).trans (reach_less hb))
      omega
  · rintro ⟨h, hm⟩ w hw
    rcases reach_more hw with q | ⟨q1, q2⟩ | ⟨q1, q2⟩
    · exact h w q
    · have e1 : r = lead E e.1 := lead_unique h (lead_lead E e.1) (q1.trans ha)
      have e2 : lead E w = lead E e.2 := lead_eq (lead_lead E e.2) (q2.symm.trans hb)
      have := lead_le E w
      rcases Nat.le_total (lead E e.1) (lead E e.2) with l | l
      · omega
      · rw [Nat.max_eq_left l] at hm; exact absurd e1 hm
    · have e1 : r = lead E e.2 := lead_unique h (lead_lead E e.2) (q1.trans hb)
      have e2 : lead E w = lead E e.1 := lead_eq (lead_lead E e.1) (q2.symm.trans ha)
      have := lead_le E w
      rcases Nat.le_total (lead E e.1) (lead E e.2) with l | l
      · rw [Nat.max_eq_right l] at hm; exact absurd e1 hm
      · omega
theorem filter_ne_length : ∀ {l : List Nat} {x : Nat}, l.Nodup → x ∈ l → (l.filter fun y => !decide (y = x)).length + 1 = l.length
  | [], x, _, h => nomatch h
  | a :: l, x, hd, h => by
    have hd' := List.nodup_cons.mp hd
    by_cases e : a = x
    · subst e
      have : l.filter (fun y => !decide (y = a)) = l := List.filter_eq_self.mpr fun y hy => by
        have : y ≠ a := fun q => hd'.1 (q ▸ hy)
        simp [this]
      simp [this]
    · have hx : x ∈ l := by
        rcases List.mem_cons.mp h with q | q
        · exact absurd q.symm e
        · exact q
      have := filter_ne_length hd'.2 hx
      simp [List.filter_cons, e, this]
theorem leads_nodup (E : List (Nat × Nat)) (v : Nat) : (leads E v).Nodup := (leads_sorted E v).imp fun h => Nat.ne_of_lt h
/-- an edge between what is not joined makes two pieces one -/
theorem leads_more {E : List (Nat × Nat)} {e : Nat × Nat} {v : Nat} (h1 : e.1 < v) (h2 : e.2 < v) (he : ¬ Reach E e.1 e.2) : (leads (E ++ [e]) v).length + 1 = (leads E v).length := by
  have hl : leads (E ++ [e]) v = (leads E v).filter fun y => !decide (y = max (lead E e.1) (lead E e.2)) := by
    unfold leads
    rw [List.filter_filter]
    congr 1
    funext r
    rw [Bool.eq_iff_iff]
    simp only [decide_eq_true_eq, Bool.and_eq_true, Bool.not_eq_true', decide_eq_false_iff_not]
    exact (lead_more he r).trans ⟨fun h => ⟨h.2, h.1⟩, fun h => ⟨h.2, h.1⟩⟩
  rw [hl]
  refine filter_ne_length (leads_nodup E v) (mem_leads.mpr ?_)
  rcases Nat.le_total (lead E e.1) (lead E e.2) with l | l
  · rw [Nat.max_eq_right l]; exact ⟨Nat.lt_of_le_of_lt (lead_le E e.2) h2, lead_lead E e.2⟩
  · rw [Nat.max_eq_left l]; exact ⟨Nat.lt_of_le_of_lt (lead_le E e.1) h1, lead_lead E e.1⟩
/-- as many pieces where a map onto keeps what is joined -/
theorem leads_bij {E E' : List (Nat × Nat)} {v v' : Nat} (f : Nat → Nat) (ho : Ok E v) (ho' : Ok E' v') (hf : ∀ u, u < v → f u < v') (hs : ∀ x, x < v' → ∃ u, u < v ∧ f u = x) (h : ∀ u w, u < v → w < v → (Reach E u w ↔ Reach E' (f u) (f w))) :
    (leads E v).length = (leads E' v').length := by
  have hn : ((leads E v).map fun r => lead E' (f r)).Nodup := by
    refine List.Pairwise.map _ (fun a b hab => ?_) (List.Pairwise.and_mem.mp (leads_nodup E v))
    obtain ⟨ha, hb, hab⟩ := hab
    have ha := mem_leads.mp ha
    have hb := mem_leads.mp hb
    intro q
    refine hab (lead_unique ha.2 hb.2 ((h a b ha.1 hb.1).mpr ?_))
    exact (lead_reach E' (f a)).trans (q ▸ (lead_reach E' (f b)).symm)
  have h1 := nodup_sub (l := leads E' v') hn fun x hx => by
    obtain ⟨r, hr, rfl⟩ := List.mem_map.mp hx
    have hr := mem_leads.mp hr
    exact mem_leads.mpr ⟨Nat.lt_of_le_of_lt (lead_le E' _) (hf r hr.1), lead_lead E' _⟩
  have h2 := nodup_sub (l := (leads E v).map fun r => lead E' (f r)) (leads_nodup E' v') fun x hx => by
    have hx := mem_leads.mp hx
    obtain ⟨u, hu, rfl⟩ := hs x hx.1
    have hr := Reach.lt ho hu (lead_reach E u)
    refine List.mem_map.mpr ⟨lead E u, mem_leads.mpr ⟨hr, lead_lead E u⟩, ?_⟩
    exact lead_eq hx.2 ((h (lead E u) u hr hu).mp (lead_reach E u).symm)
  rw [List.length_map] at h1 h2
  omega
/-- as many pieces as parts: each part is joined within -/
theorem in_same {E : List (Nat × Nat)} {v k : Nat} (ho : Ok E v) (π : Nat → Nat) (h1 : ∀ u w, Adj E u w → π u = π w) (hs : ∀ x, x < k → ∃ u, u < v ∧ π u = x) (hk : (leads E v).length = k) {u w : Nat} (hu : u < v) (hw : w < v) (h : π u = π w) : Reach E u w := by
  have hr : ∀ {a b : Nat}, Reach E a b → π a = π b := fun {a b} r => by
    induction r with
    | refl => rfl
    | step _ a ih => exact ih.trans (h1 _ _ a)
  have hp := nodup_perm (m := List.range k) (l := (leads E v).map π) List.nodup_range (fun x hx => by
    obtain ⟨a, ha, rfl⟩ := hs x (List.mem_range.mp hx)
    exact List.mem_map.mpr ⟨lead E a, mem_leads.mpr ⟨Reach.lt ho ha (lead_reach E a), lead_lead E a⟩, (hr (lead_reach E a)).symm⟩) (by rw [List.length_map, List.length_range, hk]; exact Nat.le_refl _)
  have hn : ((leads E v).map π).Nodup := hp.nodup_iff.mp List.nodup_range
  have hmem : ∀ {a : Nat}, a < v → lead E a ∈ leads E v := fun {a} ha => mem_leads.mpr ⟨Reach.lt ho ha (lead_reach E a), lead_lead E a⟩
  obtain ⟨i, hi, ei⟩ := List.mem_iff_getElem.mp (hmem hu)
  obtain ⟨j, hj, ej⟩ := List.mem_iff_getElem.mp (hmem hw)
  have hij : i = j := by
    refine (List.getElem_inj (h₀ := by rw [List.length_map]; exact hi) (h₁ := by rw [List.length_map]; exact hj) hn).mp ?_
    rw [List.getElem_map, List.getElem_map, ei, ej, ← hr (lead_reach E u), ← hr (lead_reach E w), h]
  subst hij
  exact (lead_reach E u).trans ((ei.symm.trans ej) ▸ (lead_reach E w).symm)
/-- parts made one -/
theorem merged {E El : List (Nat × Nat)} {v : Nat} (ho : Ok E v) (π : Nat → Nat) (h1 : ∀ e ∈ E, π e.1 = π e.2 ∨ (min (π e.1) (π e.2), max (π e.1) (π e.2)) ∈ El) (h2 : ∀ e' ∈ El, ∃ e ∈ E, e' = (min (π e.1) (π e.2), max (π e.1) (π e.2)))
    (hin : ∀ u w, u < v → w < v → π u = π w → Reach E u w) {u w : Nat} (hu : u < v) (hw : w < v) : Reach E u w ↔ Reach El (π u) (π w) := by
  have mm : ∀ a b : Nat, (min a b = a ∧ max a b = b) ∨ (min a b = b ∧ max a b = a) := fun a b => by
    rcases Nat.le_total a b with l | l
    · exact .inl ⟨Nat.min_eq_left l, Nat.max_eq_right l⟩
    · exact .inr ⟨Nat.min_eq_right l, Nat.max_eq_left l⟩
  constructor
  · intro r
    clear hw
    induction r with
    | refl => exact .refl
    | @step a b _ ad ih =>
      have hab : π a = π b ∨ Adj El (π a) (π b) := by
        rcases ad with ad | ad
        · rcases h1 _ ad with q | q
          · exact .inl q
          · right
            rcases mm (π a) (π b) with ⟨m1, m2⟩ | ⟨m1, m2⟩
            · simp only [m1, m2] at q; exact .inl q
            · simp only [m1, m2] at q; exact .inr q
        · rcases h1 _ ad with q | q
          · exact .inl q.symm
          · right
            rcases mm (π b) (π a) with ⟨m1, m2⟩ | ⟨m1, m2⟩
            · simp only [m1, m2] at q; exact .inr q
            · simp only [m1, m2] at q; exact .inl q
      rcases hab with q | q
      · rw [← q]; exact ih
      · exact ih.step q
  · intro r
    have key : ∀ y, Reach El (π u) y → ∀ w, w < v → π w = y → Reach E u w := by
      intro y r
      induction r with
      | refl => intro w hw e; exact hin u w hu hw e.symm
      | @step x y _ ad ih =>
        intro w hw e
        obtain ⟨p, hp, hxy⟩ : ∃ p ∈ E, (x = π p.1 ∧ y = π p.2) ∨ (x = π p.2 ∧ y = π p.1) := by
          rcases ad with ad | ad
          · obtain ⟨p, hp, q⟩ := h2 _ ad
            injection q with q1 q2
            refine ⟨p, hp, ?_⟩
            rcases mm (π p.1) (π p.2) with ⟨m1, m2⟩ | ⟨m1, m2⟩
            · exact .inl ⟨q1.trans m1, q2.trans m2⟩
            · exact .inr ⟨q1.trans m1, q2.trans m2⟩
          · obtain ⟨p, hp, q⟩ := h2 _ ad
            injection q with q1 q2
            refine ⟨p, hp, ?_⟩
            rcases mm (π p.1) (π p.2) with ⟨m1, m2⟩ | ⟨m1, m2⟩
            · exact .inr ⟨q2.trans m2, q1.trans m1⟩
            · exact .inl ⟨q2.trans m2, q1.trans m1⟩
        have hp1 := (ho p hp).1
        have hp2 := (ho p hp).2
        rcases hxy with ⟨ex, ey⟩ | ⟨ex, ey⟩
        · exact ((ih p.1 hp1 ex.symm).step (.inl hp)).trans (hin p.2 w hp2 hw (ey.symm.trans e.symm))
        · exact ((ih p.2 hp2 ex.symm).step (.inr hp)).trans (hin p.1 w hp1 hw (ey.symm.trans e.symm))
    exact key (π w) r w hw rfl
end Gr
end

section
set_option Elab.async false
set_option linter.all false
set_option maxRecDepth 100000
set_option maxHeartbeats 400000
/-! K22p: ranks, grown forests, parts made one: what the defs answer. -/
namespace Wk
open PySem Em
/-- a for loop, by what stays true -/
theorem s_for {c : Em.Ctx} {n0 : Nat} {σ : Em.Env} {s s1 : Sto} {tg : Tg} {it : E} {body : List S} {v : Val} {l : List D} (he : evE c it σ s = .ok v s1) (hn : Items v l) (hz : l.length < c.fuel) (I : Nat → Em.Env → Sto → Prop) (h0 : I 0 σ s1)
    (step : ∀ i x σ s, l[i]? = some x → I i σ s → ∃ σ2 σ' s', putVal tg (.d x) σ = some σ2 ∧ evSs c n0 body σ2 s = .ok (.nx, σ') s' ∧ I (i + 1) σ' s') :
    ∃ σ' s', evS c n0 (.for_ tg it body) σ s = .ok (.nx, σ') s' ∧ I l.length σ' s' := by
  obtain ⟨σ', s', e, h⟩ := loopS_inv hn (f := fun σ1 x s2 => match putVal tg x σ1 with
      | some σ2 => evSs c n0 body σ2 s2
      | none => .bad) I (fun i x σ s hx hI => by
      obtain ⟨σ2, σ', s', pv, e, h⟩ := step i x σ s hx hI
      refine ⟨σ', s', ?_, h⟩
      simp only [pv]
      exact e) l.length c.fuel 0 σ s1 (by omega) (by omega) h0
  refine ⟨σ', s', ?_, h⟩
  simp only [es_for, he, R.bd_ok]
  exact e
/-- ... over numbers -/
theorem s_forN {c : Em.Ctx} {n0 : Nat} {σ : Em.Env} {s s1 : Sto} {tg : Tg} {it : E} {body : List S} {v : Val} {l : List Nat} (he : evE c it σ s = .ok v s1) (hn : Items v (natD l)) (hz : l.length < c.fuel) (I : Nat → Em.Env → Sto → Prop) (h0 : I 0 σ s1)
    (step : ∀ i (hi : i < l.length) σ s, I i σ s → ∃ σ2 σ' s', putVal tg (.d (.int (l[i] : Int))) σ = some σ2 ∧ evSs c n0 body σ2 s = .ok (.nx, σ') s' ∧ I (i + 1) σ' s') :
    ∃ σ' s', evS c n0 (.for_ tg it body) σ s = .ok (.nx, σ') s' ∧ I l.length σ' s' := by
  have := s_for (n0 := n0) (tg := tg) (body := body) he hn (by rw [natD_len]; exact hz) I h0 fun i x σ s hx hI => by
    have hil := (List.getElem?_eq_some_iff.mp hx).1
    rw [natD_len] at hil
    have hx : x = .int (l[i] : Int) := by
      have := (List.getElem?_eq_some_iff.mp hx).2
      rw [← this]; simp [natD]
    subst hx
    exact step i hil σ s hI
  rw [natD_len] at this
  exact this
theorem x_max2 {c : Em.Ctx} {σ : Em.Env} {s : Sto} {a b : E} {i j : Nat} (ha : evE c a σ s = .ok (.d (.int (i : Int))) s) (hb : evE c b σ s = .ok (.d (.int (j : Int))) s) : evE c (.bi .max2 .fr [a, b]) σ s = .ok (.d (.int (max i j : Nat))) s := by
  rw [x_bi (es_cons' ha (es_cons' hb es_nil'))]
  have e : (if (j : Int) > (i : Int) then (j : Int) else (i : Int)) = ((max i j : Nat) : Int) := by
    by_cases h : i < j
    · rw [if_pos (by omega), Nat.max_eq_right (by omega)]
    · rw [if_neg (by omega), Nat.max_eq_left (by omega)]
  show R.ok (Val.d (.int (if (j : Int) > (i : Int) then (j : Int) else (i : Int)))) s = _
  rw [e]
theorem x_subI {c : Em.Ctx} {σ : Em.Env} {s s1 s2 : Sto} {a b : E} {i j : Int} (ha : evE c a σ s = .ok (.d (.int i)) s1) (hb : evE c b σ s1 = .ok (.d (.int j)) s2) : evE c (.op .sub .fr a b) σ s = .ok (.d (.int (i - j))) s2 := by
  rw [x_op ha hb, op2S_dd, op_subI]
theorem x_gtI {c : Em.Ctx} {σ : Em.Env} {s s1 s2 : Sto} {a b : E} {i j : Int} (ha : evE c a σ s = .ok (.d (.int i)) s1) (hb : evE c b σ s1 = .ok (.d (.int j)) s2) : tst (evE c (.op .gt .fr a b) σ s) = .ok (decide (j < i)) s2 := by
  apply x_tst
  rw [x_op ha hb, op2S_dd, op_gtI]
noncomputable def nL (E : List (Nat × Nat)) (v : Nat) : Nat := (Gr.leads E v).length
theorem nL_pieces (E : List (Nat × Nat)) (v : Nat) : ((Gr.pieces E v).map tupN).length = nL E v := by unfold nL Gr.pieces; rw [List.length_map, List.length_map]
theorem nL_le (E : List (Nat × Nat)) (v : Nat) : nL E v ≤ v := by
  have := List.length_filter_le (fun r => @decide (Gr.Lead E r) (Classical.propDecidable _)) (List.range v)
  rw [List.length_range] at this
  exact this
section
variable {v : Nat} {rs : List D} {en : List (Nat × Nat)}
theorem ev18 (hS : Sh v rs en) (n : Nat) (F : List Cell) (hv : v ≤ 40) (ns : List Nat) (hn : ∀ i ∈ ns, i < en.length) (hz : ns.length ≤ 1000) :
    evF prog (n + 5) 18 [.d (shD v rs), .d (.tuple (natD ns))] [] F = .ok (.d (.int ((v : Int) - (nL (es en ns) v : Int)))) ⟨F, []⟩ := by
  rw [evF_step (d := d18) rfl rfl]
  have s0 : Em.start d18 [.d (shD v rs), .d (.tuple (natD ns))] = [some (.d (shD v rs)), some (.d (.tuple (natD ns)))] := rfl
  have body : d18.body = [.ret (.op .sub .fr (.ix (.v 0) (.k (.int 1))) (.bi .len .fr [.call 17 .fr [.v 0, .v 1] []]))] := rfl
  have c18 := x_callL (n := n + 4) (f := 17) (σ := [some (.d (shD v rs)), some (.d (.tuple (natD ns)))]) (s := ⟨F, []⟩) (es := [.v 0, .v 1]) (es_cons' (x_v rfl) (es_cons' (x_v rfl) es_nil')) rfl (ev17 hS n F hv ns hn hz)
  have e := x_subI (x_ix (c := ⟨evF prog (n + 4), prog.glob, prog.fuel⟩) (σ := [some (.d (shD v rs)), some (.d (.tuple (natD ns)))]) (s := ⟨F, []⟩) (a := .v 0) (i := .k (.int 1)) (x_v rfl) x_k rfl (p_v rs)) (x_lenD c18 (.inl ⟨_, rfl, nL_pieces (es en ns) v⟩))
  rw [s0, body, ss_rt (s_ret e)]
  simp only [R.bd_ok, Em.finish, List.take_length]
theorem ev35 (hS : Sh v rs en) (hs : headOk (shD v rs) = true) (h : isShire (shD v rs) = true) (n : Nat) (F : List Cell) (hv : v ≤ 40) (ns : List Nat) (hn : ∀ i ∈ ns, i < en.length) (hp : ns.Pairwise (· < ·)) (hz : ns.length ≤ 1000) :
    evF prog (n + 7) 35 [.d (shD v rs), .d (.tuple (natD ns))] [] F = .ok (.d (.int ((v : Int) - (nL (es en ns) v : Int)))) ⟨F, []⟩ := by
  rw [evF_step (d := d35) rfl rfl]
  have s0 : Em.start d35 [.d (shD v rs), .d (.tuple (natD ns))] = [some (.d (shD v rs)), some (.d (.tuple (natD ns)))] := rfl
  have body : d35.body = [.ret (.op .sub .fr (.ix (.v 0) (.k (.int 1))) (.bi .len .fr [.call 19 .fr [.v 0, .v 1] []]))] := rfl
  have c18 := x_callL (n := n + 6) (f := 19) (σ := [some (.d (shD v rs)), some (.d (.tuple (natD ns)))]) (s := ⟨F, []⟩) (es := [.v 0, .v 1]) (es_cons' (x_v rfl) (es_cons' (x_v rfl) es_nil')) rfl (ev19 hS hs h n F hv ns hn hp hz)
  have e := x_subI (x_ix (c := ⟨evF prog (n + 6), prog.glob, prog.fuel⟩) (σ := [some (.d (shD v rs)), some (.d (.tuple (natD ns)))]) (s := ⟨F, []⟩) (a := .v 0) (i := .k (.int 1)) (x_v rfl) x_k rfl (p_v rs)) (x_lenD c18 (.inl ⟨_, rfl, nL_pieces (es en ns) v⟩))
  rw [s0, body, ss_rt (s_ret e)]
  simp only [R.bd_ok, Em.finish, List.take_length]
/-! the first forest -/
structure Grown (en : List (Nat × Nat)) (v i : Nat) (found : List Nat) : Prop where
  lt : ∀ k ∈ found, k < i
  up : found.Pairwise (· < ·)
  rch : ∀ u w, Gr.Reach (es en found) u w ↔ Gr.Reach (es en (List.range i)) u w
  num : found.length + nL (es en found) v = v
theorem es_snoc (en : List (Nat × Nat)) (ns : List Nat) (i : Nat) : es en (ns ++ [i]) = es en ns ++ [en.getD i (0, 0)] := by unfold es; rw [List.map_append]; rfl
theorem Grown.start (en : List (Nat × Nat)) (v : Nat) : Grown en v 0 [] := by
  refine ⟨fun k hk => absurd hk (by simp), List.Pairwise.nil, fun u w => Iff.rfl, ?_⟩
  have hr : ∀ {r w : Nat}, Gr.Reach ([] : List (Nat × Nat)) r w → w = r := fun {r w} h => by
    cases h with
    | refl => rfl
    | step _ a => rcases a with a | a <;> cases a
  have : Gr.leads ([] : List (Nat × Nat)) v = List.range v := List.filter_eq_self.mpr fun r _ => by
    exact @decide_eq_true _ (Classical.propDecidable _) fun w hw => by rw [hr hw]; exact Nat.le_refl _
  show 0 + nL [] v = v
  unfold nL
  rw [this, List.length_range]; omega
theorem Grown.step {i : Nat} {found : List Nat} (h : Grown en v i found) (h1 : (en.getD i (0, 0)).1 < v) (h2 : (en.getD i (0, 0)).2 < v) :
    ((nL (es en (found ++ [i])) v + found.length < v) ∧ Grown en v (i + 1) (found ++ [i])) ∨ (nL (es en (found ++ [i])) v + found.length = v ∧ Grown en v (i + 1) found) := by
  have hr : es en (List.range (i + 1)) = es en (List.range i) ++ [en.getD i (0, 0)] := by rw [List.range_succ, es_snoc]
  have hf := es_snoc en found i
  generalize en.getD i (0, 0) = e at *
  have hmore : ∀ u w, Gr.Reach (es en found ++ [e]) u w ↔ Gr.Reach (es en (List.range i) ++ [e]) u w := fun u w => by
    constructor
    · intro r
      rcases Gr.reach_more r with q | ⟨q1, q2⟩ | ⟨q1, q2⟩
      · exact Gr.reach_less ((h.rch _ _).mp q)
      · exact ((Gr.reach_less ((h.rch _ _).mp q1)).trans Gr.reach_last).trans (Gr.reach_less ((h.rch _ _).mp q2))
      · exact ((Gr.reach_less ((h.rch _ _).mp q1)).trans Gr.reach_last.symm).trans (Gr.reach_less ((h.rch _ _).mp q2))
    · intro r
      rcases Gr.reach_more r with q | ⟨q1, q2⟩ | ⟨q1, q2⟩
      · exact Gr.reach_less ((h.rch _ _).mpr q)
      · exact ((Gr.reach_less ((h.rch _ _).mpr q1)).trans Gr.reach_last).trans (Gr.reach_less ((h.rch _ _).mpr q2))
      · exact ((Gr.reach_less ((h.rch _ _).mpr q1)).trans Gr.reach_last.symm).trans (Gr.reach_less ((h.rch _ _).mpr q2))
  by_cases he : Gr.Reach (es en found) e.1 e.2
  · right
    have hs : ∀ u w, Gr.Reach (es en found ++ [e]) u w ↔ Gr.Reach (es en found) u w := fun u w => Gr.reach_same he
    refine ⟨?_, fun k hk => by have := h.lt k hk; omega, h.up, fun u w => ?_, h.num⟩
    · have := h.num
      unfold nL at this ⊢
      rw [hf, Gr.leads_congr hs v]; omega
    · rw [hr, ← hmore, hs]
  · left
    have hl := Gr.leads_more (v := v) h1 h2 he
    have hn := h.num
    unfold nL at hn
    refine ⟨by unfold nL; rw [hf]; omega, fun k hk => ?_, ?_, fun u w => ?_, ?_⟩
    · rcases List.mem_append.mp hk with q | q
      · have := h.lt k q; omega
      · have := List.mem_singleton.mp q; omega
    · refine List.pairwise_append.mpr ⟨h.up, List.pairwise_singleton _ _, fun a ha b hb => ?_⟩
      rw [List.mem_singleton.mp hb]; exact h.lt a ha
    · rw [hf, hr, hmore]
    · unfold nL; rw [hf, List.length_append, List.length_singleton]; omega
theorem Grown.len {i : Nat} {found : List Nat} (h : Grown en v i found) : found.length ≤ v := by have := h.num; omega
def bod29 : List S := [.ite (.op .gt .fr (.call 18 .fr [.v 0, .op .add .fr (.v 2) (.tup [.v 3])] []) (.bi .len .fr [.v 2])) [.asg (.slot 2) (.op .add .fr (.v 2) (.tup [.v 3]))] []]
def e29 (sh lot : D) (found : List Nat) (r : Option Val) : Em.Env := [some (.d sh), some (.d lot), some (.d (.tuple (natD found))), r]
theorem turn29 (hS : Sh v rs en) (n n0 : Nat) (hv : v ≤ 40) (lot : D) (s : Sto) (i : Nat) (hi : i < en.length) {found : List Nat} (h : Grown en v i found) :
    ∃ found', Grown en v (i + 1) found' ∧ evSs ⟨evF prog (n + 5), prog.glob, prog.fuel⟩ n0 bod29 (e29 (shD v rs) lot found (some (.d (.int (i : Int))))) s = .ok (.nx, e29 (shD v rs) lot found' (some (.d (.int (i : Int))))) s := by
  have hsm : sizeMax = 16777216 := rfl
  have hl := en_lt hS hi
  have hlen := h.len
  have ea : ∀ s, evE ⟨evF prog (n + 5), prog.glob, prog.fuel⟩ (.op .add .fr (.v 2) (.tup [.v 3])) (e29 (shD v rs) lot found (some (.d (.int (i : Int))))) s = .ok (.d (.tuple (natD (found ++ [i])))) s := fun s => by
    rw [← natD_snoc]
    exact x_addT (x_v rfl) (x_tup (vs := [.int (i : Int)]) (es_cons' (x_v rfl) es_nil')) (by rw [natD_len]; simp only [List.length_singleton]; omega)
  have hmem : ∀ k ∈ found ++ [i], k < en.length := fun k hk => by
    rcases List.mem_append.mp hk with q | q
    · have := h.lt k q; omega
    · have := List.mem_singleton.mp q; omega
  have c19 := x_callD (n := n + 5) (f := 18) (m := .fr) (σ := e29 (shD v rs) lot found (some (.d (.int (i : Int))))) (s := s) (es := [.v 0, .op .add .fr (.v 2) (.tup [.v 3])]) (es_cons' (x_v rfl) (es_cons' (ea s) es_nil')) rfl (ev18 hS n s.F hv (found ++ [i]) hmem (by rw [List.length_append, List.length_singleton]; omega))
  have et := x_gtI c19 (x_lenD (e := .v 2) (k := found.length) (x_v rfl) (.inr ⟨_, rfl, natD_len found⟩))
  rcases h.step hl.1 hl.2 with ⟨g1, g2⟩ | ⟨g1, g2⟩
  · rw [decide_eq_true (by omega)] at et
    refine ⟨found ++ [i], g2, ?_⟩
    have fa : evS ⟨evF prog (n + 5), prog.glob, prog.fuel⟩ n0 (.asg (.slot 2) (.op .add .fr (.v 2) (.tup [.v 3]))) (e29 (shD v rs) lot found (some (.d (.int (i : Int))))) s = .ok (.nx, e29 (shD v rs) lot (found ++ [i]) (some (.d (.int (i : Int))))) s := s_asg (ea s) (by simp [e29])
    exact (ss_nx ((s_ite_t et).trans ((ss_nx fa).trans ss_nil))).trans ss_nil
  · rw [decide_eq_false (by omega)] at et
    exact ⟨found, g2, (ss_nx ((s_ite_f et).trans ss_nil)).trans ss_nil⟩
theorem isort_up {l : List Nat} (h : l.Pairwise (· < ·)) : isort (natD l) = natD l := isort_natD (h.imp fun {a b} h => Nat.ne_of_lt h) h fun _ => Iff.rfl
theorem ev23 (hS : Sh v rs en) (n : Nat) (F : List Cell) (hv : v ≤ 40) (hz : en.length ≤ 1000) :
    ∃ found, found.length + nL (es en (List.range en.length)) v = v ∧ evF prog (n + 6) 23 [.d (shD v rs), .d (.tuple (natD (List.range en.length)))] [] F = .ok (.d (.tuple (natD found))) ⟨F, []⟩ := by
  have hf : prog.fuel = 1000000 := rfl
  have s0 : Em.start d23 [.d (shD v rs), .d (.tuple (natD (List.range en.length)))] = [some (.d (shD v rs)), some (.d (.tuple (natD (List.range en.length)))), none, none] := rfl
  have body : d23.body = [.asg (.slot 2) (.tup []), .for_ (.slot 3) (.v 1) bod29, .ret (.bi .tuple .fr [.bi .sorted .fr [.v 2]])] := rfl
  have f1 : evS ⟨evF prog (n + 5), prog.glob, prog.fuel⟩ F.length (.asg (.slot 2) (.tup [])) [some (.d (shD v rs)), some (.d (.tuple (natD (List.range en.length)))), none, none] ⟨F, []⟩ = .ok (.nx, e29 (shD v rs) (.tuple (natD (List.range en.length))) [] none) ⟨F, []⟩ := s_asg (x_tup (vs := []) es_nil') (by simp)
  obtain ⟨σ', s', f2, found, r, hG, rfl, rfl⟩ := s_forN (c := ⟨evF prog (n + 5), prog.glob, prog.fuel⟩) (n0 := F.length) (tg := .slot 3) (body := bod29) (it := .v 1) (σ := e29 (shD v rs) (.tuple (natD (List.range en.length))) [] none) (s := ⟨F, []⟩) (x_v rfl) (items_tup (natD (List.range en.length))) (by rw [List.length_range]; show _ < prog.fuel; rw [hf]; omega)
    (fun i σ s => ∃ (found : List Nat) (r : Option Val), Grown en v i found ∧ σ = e29 (shD v rs) (.tuple (natD (List.range en.length))) found r ∧ s = ⟨F, []⟩) ⟨[], none, Grown.start en v, rfl, rfl⟩ fun i hi σ s hI => by
      obtain ⟨found, r, hG, rfl, rfl⟩ := hI
      rw [List.length_range] at hi
      obtain ⟨found', hG', e⟩ := turn29 hS n F.length hv (.tuple (natD (List.range en.length))) ⟨F, []⟩ i hi hG
      rw [List.getElem_range]
      exact ⟨e29 (shD v rs) (.tuple (natD (List.range en.length))) found (some (.d (.int (i : Int)))), e29 (shD v rs) (.tuple (natD (List.range en.length))) found' (some (.d (.int (i : Int)))), ⟨F, []⟩, rfl, e, found', _, hG', rfl, rfl⟩
  rw [List.length_range] at hG
  have hlen := hG.len
  have e3 := x_tuple (x_sorted (c := ⟨evF prog (n + 5), prog.glob, prog.fuel⟩) (σ := e29 (shD v rs) (.tuple (natD (List.range en.length))) found r) (s := ⟨F, []⟩) (e := .v 2) (p := .tuple (natD found)) (x_v rfl) rfl (sortOk_natD found (by omega)))
  rw [isort_up hG.up] at e3
  refine ⟨found, ?_, ?_⟩
  · have := hG.num
    unfold nL at this ⊢
    rw [← Gr.leads_congr hG.rch v]; exact this
  · rw [evF_step (d := d23) rfl rfl, s0, body, ss_nx f1, ss_nx f2, ss_rt (s_ret e3)]
    simp only [R.bd_ok, Em.finish, List.take_length]
theorem ev27 (hS : Sh v rs en) (hs : headOk (shD v rs) = true) (h : isShire (shD v rs) = true) (n : Nat) (F : List Cell) (hv : v ≤ 40) (hz : en.length ≤ 1000) :
    ∃ found, found.length + nL (es en (List.range en.length)) v = v ∧ evF prog (n + 7) 27 [.d (shD v rs)] [] F = .ok (.d (.tuple (natD found))) ⟨F, []⟩ := by
  obtain ⟨found, hl, e⟩ := ev23 hS n F hv hz
  refine ⟨found, hl, ?_⟩
  rw [evF_step (d := d27) rfl rfl]
  have s0 : Em.start d27 [.d (shD v rs)] = [some (.d (shD v rs))] := rfl
  have body : d27.body = [.expr (.call 7 .fr [.v 0] []), .ret (.call 23 .fl [.v 0, .call 11 .fr [.v 0] []] [])] := rfl
  have c7 := x_callD (n := n + 6) (f := 7) (m := .fr) (σ := [some (.d (shD v rs))]) (s := ⟨F, []⟩) (es := [.v 0]) (es_cons' (x_v rfl) es_nil') rfl (ev7' (n + 1) F hs h)
  have e12 := ev11 (v := v) (rs := rs) (n + 5) F (by rw [hS.1]; exact hz)
  rw [hS.1] at e12
  have c12 := x_callD (n := n + 6) (f := 11) (m := .fr) (σ := [some (.d (shD v rs))]) (s := ⟨F, []⟩) (es := [.v 0]) (es_cons' (x_v rfl) es_nil') rfl e12
  have c29 := x_callD (n := n + 6) (f := 23) (m := .fl) (σ := [some (.d (shD v rs))]) (s := ⟨F, []⟩) (es := [.v 0, .call 11 .fr [.v 0] []]) (es_cons' (x_v rfl) (es_cons' c12 es_nil')) rfl e
  rw [s0, body, ss_nx (s_expr c7), ss_rt (s_ret c29)]
  simp only [R.bd_ok, Em.finish, List.take_length]
end
end Wk
end

section
set_option Elab.async false
set_option linter.all false
set_option maxRecDepth 100000
set_option maxHeartbeats 400000
/-! K22s: the looks of _law_right. -/
namespace Wk
open PySem Em
theorem x_tupleM {c : Em.Ctx} {σ : Em.Env} {s s1 : Sto} {m : Mode} {e : E} {l : List D} (h : evE c e σ s = .ok (.d (.list l)) s1) : evE c (.bi .tuple m [e]) σ s = .ok (.d (.tuple l)) s1 := by
  rw [x_bi (es_cons' h es_nil')]
  rfl
theorem x_eqI {c : Em.Ctx} {σ : Em.Env} {s s1 s2 : Sto} {a b : E} {i j : Int} (ha : evE c a σ s = .ok (.d (.int i)) s1) (hb : evE c b σ s1 = .ok (.d (.int j)) s2) : tst (evE c (.op .eq .fr a b) σ s) = .ok (i == j) s2 := by
  apply x_tst
  rw [x_op ha hb, op2S_dd, op_eqD, if_pos (okEq_int i j), eqv_int]
theorem x_neI {c : Em.Ctx} {σ : Em.Env} {s s1 s2 : Sto} {a b : E} {i j : Int} (ha : evE c a σ s = .ok (.d (.int i)) s1) (hb : evE c b σ s1 = .ok (.d (.int j)) s2) : tst (evE c (.op .ne .fr a b) σ s) = .ok (!(i == j)) s2 := by
  apply x_tst
  rw [x_op ha hb, op2S_dd, op_neD, if_pos (okEq_int i j), eqv_int]
theorem x_neI_same {c : Em.Ctx} {σ : Em.Env} {s s1 s2 : Sto} {a b : E} {i j : Int} (ha : evE c a σ s = .ok (.d (.int i)) s1) (hb : evE c b σ s1 = .ok (.d (.int j)) s2) (h : i = j) : tst (evE c (.op .ne .fr a b) σ s) = .ok false s2 := by
  rw [x_neI ha hb, h]; simp
theorem pt_sz {v : Nat} {ps : List (List Nat)} (hP : Pt v ps) (hv : v ≤ 10) (hl : ps.length ≤ 10) : partSz (.tuple (ps.map tupN)) := by
  refine partSz_of ?_
  have w : ∀ x ∈ ps.map tupN, x.weight ≤ 90 := fun x hx => by
    obtain ⟨p, hp, rfl⟩ := List.mem_map.mp hx
    have hl := nodup_len v p ((hP.up p hp).imp fun {a b} h => Nat.ne_of_lt h) fun x hx => hP.lt hp hx
    have e := Nd.weightAll_const (l := natD p) (k := 8) fun y hy => by
      obtain ⟨i, hi, rfl⟩ := List.mem_map.mp hy
      have := hP.lt hp hi
      exact Nd.int_weight (by omega)
    rw [natD_len] at e
    have e2 : (tupN p).weight = PyData.weightAll (natD p) := rfl
    omega
  have := Nd.weightAll_const w
  rw [List.length_map] at this
  simp only [PyData.weight]; omega
theorem x_or_ff {c : Em.Ctx} {σ : Em.Env} {s s1 s2 : Sto} {a b : E} (ha : tst (evE c a σ s) = .ok false s1) (hb : tst (evE c b σ s1) = .ok false s2) : tst (evE c (.or a b) σ s) = .ok false s2 := by
  rw [x_or_f ha]; exact hb
section
variable {v : Nat} {rs : List D} {en : List (Nat × Nat)}
variable {ps : List (List Nat)}
end
end Wk

/-! K22u: _law_right, the law. -/
namespace Wk
open PySem Em
theorem x_ltI {c : Em.Ctx} {σ : Em.Env} {s s1 s2 : Sto} {a b : E} {i j : Int} (ha : evE c a σ s = .ok (.d (.int i)) s1) (hb : evE c b σ s1 = .ok (.d (.int j)) s2) : tst (evE c (.op .lt .fr a b) σ s) = .ok (decide (i < j)) s2 := by
  apply x_tst
  rw [x_op ha hb, op2S_dd, op_ltI]
theorem x_eq_self {c : Em.Ctx} {σ : Em.Env} {s s1 s2 : Sto} {a b : E} {p : D} (ha : evE c a σ s = .ok (.d p) s1) (hb : evE c b σ s1 = .ok (.d p) s2) (hs : SeqAt.shaped p = true) : evE c (.op .eq .fr a b) σ s = .ok (.d (.bool true)) s2 := by
  have h1 : okEq p p = true := by unfold okEq; rw [hs]; rfl
  rw [x_op ha hb, op2S_dd, op_eqD, if_pos h1, SeqAt.eqv_refl _ (SeqAt.canLay_of_shaped hs)]
section
variable {v : Nat} {rs : List D} {en : List (Nat × Nat)} {ps : List (List Nat)}
end
end Wk

/-! K22r: the law's own making of parts one. -/
namespace Wk
open PySem Em
theorem x_enum {c : Em.Ctx} {σ : Em.Env} {s s1 : Sto} {e : E} {l : List D} (h : evE c e σ s = .ok (.d (.tuple l)) s1) : evE c (.bi .enum .fr [e]) σ s = .ok (.d (.list (l.zipIdx.map fun p => .tuple [.int (p.2 : Int), p.1]))) s1 := by
  rw [x_bi (es_cons' h es_nil')]
  rfl
theorem x_ne_self {c : Em.Ctx} {σ : Em.Env} {s s1 s2 : Sto} {a b : E} {p : D} (ha : evE c a σ s = .ok (.d p) s1) (hb : evE c b σ s1 = .ok (.d p) s2) (hs : SeqAt.shaped p = true) : tst (evE c (.op .ne .fr a b) σ s) = .ok false s2 := by
  apply x_tst
  have h1 : okEq p p = true := by unfold okEq; rw [hs]; rfl
  rw [x_op ha hb, op2S_dd, op_neD, if_pos h1, SeqAt.eqv_refl _ (SeqAt.canLay_of_shaped hs)]
  rfl
theorem natD_I (l : List Nat) : natD l = (l.map fun (i : Nat) => (i : Int)).map .int := by unfold natD; rw [List.map_map]; rfl
theorem shaped_tupN (l : List Nat) : SeqAt.shaped (.tuple (natD l)) = true := by
  rw [natD_I]; exact shaped_tupI _
section
variable {v : Nat} {rs : List D} {en : List (Nat × Nat)}
end
end Wk
end

section
set_option Elab.async false
set_option linter.all false
set_option maxRecDepth 100000
set_option maxHeartbeats 400000
namespace Wk
open PySem Em
end Wk

namespace Wk
open PySem Em
end Wk

namespace Wk
open PySem Em
end Wk

namespace Em
open PySem
end Em
namespace Wk
open PySem Em
/-- a lot as drawn: rising ints below k -/
def DLot (k : Nat) (p : D) : Prop := ∃ ns : List Nat, p = .tuple (ns.map fun (i : Nat) => .int (0 + (i : Int))) ∧ ns.Sublist (List.range k)
def I16 (j : Nat) (F : List Cell) (k i : Nat) (s : Sto) (acc : List Val) : Prop := i ≤ k ∧ ∃ (c : Cell) (ns : List Nat), Pot c ∧ s = ⟨F.set j c, []⟩ ∧ acc = (ns.map fun (i : Nat) => Val.d (.int (0 + (i : Int)))) ∧ ns.Sublist (List.range i)
theorem loop16 (n j : Nat) {c : Cell} {F : List Cell} (hj : F[j]? = some c) (hp : Pot c) (k : Nat) (hk : k ≤ 1000) {σ : Em.Env} (h0 : σ[0]? = some (some (.fl j))) (hσ : σ.length = 3) :
    ∃ s' vs, loopC (lcF ⟨evF prog (n + 1), prog.glob, prog.fuel⟩ (.v 2) (.slot 2) (some (.op .eq .fr (.call 32 .fr [.v 0, .k (.int 2)] []) (.k (.int 0)))) [2] σ) (.d (.list ((List.range k).map fun (i : Nat) => .int (0 + (i : Int))))) prog.fuel 0 ⟨F, []⟩ [] = .ok vs s' ∧ I16 j F k k s' vs := by
  obtain ⟨hjl, hjc⟩ := List.getElem?_eq_some_iff.mp hj
  have hf : prog.fuel = 1000000 := rfl
  have hsm : sizeMax = 16777216 := rfl
  have hl : ((List.range k).map fun (i : Nat) => PyData.int (0 + (i : Int))).length = k := by rw [List.length_map, List.length_range]
  have := loopC_inv (items_list ((List.range k).map fun (i : Nat) => PyData.int (0 + (i : Int)))) (f := lcF ⟨evF prog (n + 1), prog.glob, prog.fuel⟩ (.v 2) (.slot 2) (some (.op .eq .fr (.call 32 .fr [.v 0, .k (.int 2)] []) (.k (.int 0)))) [2] σ) (I16 j F k) (fun i x s acc hx hI => ?_) k prog.fuel 0 ⟨F, []⟩ [] (by rw [hl]; omega) (by omega)
    ⟨Nat.zero_le _, c, [], hp, by rw [← hjc, List.set_getElem_self], rfl, List.Sublist.slnil⟩
  · rw [hl] at this
    exact this
  · obtain ⟨hi, c1, ns, hp1, rfl, rfl, hs⟩ := hI
    have hil := (List.getElem?_eq_some_iff.mp hx).1
    rw [hl] at hil
    rw [List.getElem?_map, List.getElem?_range hil] at hx
    have hx : PyData.int (0 + (i : Int)) = x := Option.some.inj hx
    subst hx
    have hj1 : (F.set j c1)[j]? = some c1 := List.getElem?_set_self hjl
    have h02 : ((Em.wipe σ [2]).set 2 (some (.d (.int (0 + (i : Int))))))[0]? = some (some (.fl j)) := by simp [h0]
    obtain ⟨c2, d, hp2, a2, b2, e2⟩ := draw_ev n j (T := []) hj1 hp1 (m := 2) (by omega) (by omega) h02 (em := .k (.int 2)) (fun s => by simp)
    rw [List.append_nil, List.append_nil, List.set_set] at e2
    have pv : putVal (.slot 2) (.d (.int (0 + (i : Int)))) (Em.wipe σ [2]) = some ((Em.wipe σ [2]).set 2 (some (.d (.int (0 + (i : Int)))))) := by simp [hσ]
    have v2 : ∀ s, evE ⟨evF prog (n + 1), prog.glob, prog.fuel⟩ (.v 2) ((Em.wipe σ [2]).set 2 (some (.d (.int (0 + (i : Int)))))) s = .ok (.d (.int (0 + (i : Int)))) s := fun s => by simp [hσ]
    have len : ns.length ≤ i := by have := hs.length_le; rwa [List.length_range] at this
    by_cases hd : d = 0
    · refine ⟨some (.d (.int (0 + (i : Int)))), ⟨F.set j c2, []⟩, ?_, by rw [List.length_map]; omega, by omega, c2, ns ++ [i], hp2, rfl, by rw [List.map_append]; rfl, ?_⟩
      · unfold lcF
        simp only [pv, ev_op, ev_k, e2, R.bd_ok, op2S_dd, op_eqD, okEq_int, if_true, eqv_int, hd, tst, v2, beq_self_eq_true]
      · rw [List.range_succ]
        exact hs.append (List.Sublist.refl _)
    · refine ⟨none, ⟨F.set j c2, []⟩, ?_, by rw [List.length_map]; omega, by omega, c2, ns, hp2, rfl, rfl, ?_⟩
      · unfold lcF
        simp only [pv, ev_op, ev_k, e2, R.bd_ok, op2S_dd, op_eqD, okEq_int, if_true, eqv_int, tst, v2, beq_eq_false_iff_ne.mpr hd, Bool.false_eq_true, if_false]
      · rw [List.range_succ]
        exact hs.trans (List.sublist_append_left _ _)
end Wk

namespace Wk
open PySem Em
theorem ev34 (n j : Nat) {c : Cell} {F : List Cell} (hj : F[j]? = some c) (hp : Pot c) (a b : D) (rs : List D) (hk : rs.length ≤ 1000) :
    ∃ c' p, Pot c' ∧ DLot rs.length p ∧ evF prog (n + 2) 34 [.fl j, .d (.tuple [a, b, .tuple rs])] [] F = .ok (.d p) ⟨F.set j c', []⟩ := by
  have p2 : atD [a, b, .tuple rs] 2 = some (.tuple rs) := rfl
  obtain ⟨s', vs, e, _, c', ns, hp', rfl, rfl, hs⟩ := loop16 n j hj hp rs.length hk (σ := [some (.fl j), some (.d (.tuple [a, b, .tuple rs])), none]) rfl rfl
  have er := range_ev (c := ⟨evF prog (n + 1), prog.glob, prog.fuel⟩) (σ := [some (.fl j), some (.d (.tuple [a, b, .tuple rs])), none]) (s := ⟨F, []⟩) (em := .bi .len .fr [.ix (.v 1) (.k (.int 2))]) hk (by simp [p2])
  refine ⟨c', .tuple (ns.map fun (i : Nat) => .int (0 + (i : Int))), hp', ⟨ns, rfl, hs⟩, ?_⟩
  have tk : (F.set j c').take F.length = F.set j c' := take_all _ _ (by simp)
  have mv : mkV .fr (ns.map fun (i : Nat) => Val.d (.int (0 + (i : Int)))) ⟨F.set j c', []⟩ = .ok (.d (.list (ns.map fun (i : Nat) => .int (0 + (i : Int))))) ⟨F.set j c', []⟩ := by
    have := mkV_fr (ns.map fun (i : Nat) => PyData.int (0 + (i : Int))) ⟨F.set j c', []⟩
    rw [List.map_map] at this
    exact this
  have f1 : evE ⟨evF prog (n + 1), prog.glob, prog.fuel⟩ (.lc .fr (.v 2) (.slot 2) (.bi .range1 .fr [.bi .len .fr [.ix (.v 1) (.k (.int 2))]]) (some (.op .eq .fr (.call 32 .fr [.v 0, .k (.int 2)] []) (.k (.int 0)))) [2]) [some (.fl j), some (.d (.tuple [a, b, .tuple rs])), none] ⟨F, []⟩ = .ok (.d (.list (ns.map fun (i : Nat) => .int (0 + (i : Int))))) ⟨F.set j c', []⟩ := by
    rw [ev_lc]
    show R.bd (evE _ (.bi .range1 .fr [.bi .len .fr [.ix (.v 1) (.k (.int 2))]]) _ _) _ = _
    rw [er]
    show R.bd (loopC _ _ _ _ _ _) _ = _
    rw [e]
    exact mv
  rw [evF_step (d := d34) rfl rfl]
  have s0 : Em.start d34 [.fl j, .d (.tuple [a, b, .tuple rs])] = [some (.fl j), some (.d (.tuple [a, b, .tuple rs])), none] := rfl
  rw [s0]
  simp only [d34, ess_cons, ess_nil, es_ret]
  have f2 : evE ⟨evF prog (n + 1), prog.glob, prog.fuel⟩ (.bi .tuple .fr [.lc .fr (.v 2) (.slot 2) (.bi .range1 .fr [.bi .len .fr [.ix (.v 1) (.k (.int 2))]]) (some (.op .eq .fr (.call 32 .fr [.v 0, .k (.int 2)] []) (.k (.int 0)))) [2]]) [some (.fl j), some (.d (.tuple [a, b, .tuple rs])), none] ⟨F, []⟩ = .ok (.d (.tuple (ns.map fun (i : Nat) => .int (0 + (i : Int))))) ⟨F.set j c', []⟩ := by
    rw [ev_bi, evs_cons, evs_nil]
    simp only [f1, R.bd_ok]
    rfl
  rw [f2]
  simp [tk]
end Wk


namespace Wk
open PySem Em
section
variable {v : Nat} {rs : List D} {en : List (Nat × Nat)}
theorem call29 (hS : Sh v rs en) (hz : en.length ≤ 100) (n j : Nat) {F : List Cell} (N : List (List Val)) {c : Cell} (hj : F[j]? = some c) (hp : Pot c) {σ : Em.Env} (h0 : σ[0]? = some (some (.fl j))) (h1 : σ[1]? = some (some (.d (shD v rs)))) :
    ∃ c' ns, Pot c' ∧ ns.Sublist (List.range en.length) ∧ evE (cy n) (.call 34 .fr [.v 0, .v 1] []) σ ⟨F, N⟩ = .ok (.d (tupN ns)) ⟨F.set j c', N⟩ := by
  obtain ⟨c', p, hc, ⟨ns, rfl, hs⟩, e⟩ := ev34 (n + 6) j (F := F) hj hp (.str shireS) (.int (v : Int)) rs (by rw [hS.1]; omega)
  rw [hS.1] at hs
  have hq : (ns.map fun (i : Nat) => PyData.int (0 + (i : Int))) = natD ns := by unfold natD; simp
  rw [hq] at e
  exact ⟨c', ns, hc, hs, x_callP (es_cons' (x_v h0) (es_cons' (x_v h1) es_nil')) rfl e⟩
end
end Wk
end

section
set_option Elab.async false
set_option linter.all false
set_option maxRecDepth 100000
set_option maxHeartbeats 400000
/-! K24u: walks_from: a search that keeps a walk to each place found. -/
namespace Gr
theorem Srch.take1 {es : List (Nat × Nat)} {v u : Nat} {found left : List Nat} {w : Nat} (h : Srch es v u found (w :: left) fun _ => False) : Srch es v u found left (fun x => x = w) ∧ left2 v found left + 1 = left2 v found (w :: left) :=
  ⟨⟨h.nd, h.mem, h.rch, h.lt, fun x hx => h.sub x (List.mem_cons_of_mem _ hx), fun x hx hh hl => h.cl x hx (fun z => z) fun q => by
    rcases List.mem_cons.mp q with q | q
    · exact hh q
    · exact hl q⟩, by unfold left2; rw [List.length_cons]; omega⟩
end Gr
namespace Wk
open PySem Em
/-- a for loop over what the store may hold, by what stays true -/
theorem s_forV {c : Em.Ctx} {n0 : Nat} {σ : Em.Env} {s s1 : Sto} {tg : Tg} {it : E} {body : List S} {v : Val} {l : List D} (he : evE c it σ s = .ok v s1) (hz : l.length < c.fuel) (I : Nat → Em.Env → Sto → Prop) (hn : ∀ i σ s, I i σ s → nth s v i = some ((l[i]?).map .d)) (h0 : I 0 σ s1)
    (step : ∀ i x σ s, l[i]? = some x → I i σ s → ∃ σ2 σ' s', putVal tg (.d x) σ = some σ2 ∧ evSs c n0 body σ2 s = .ok (.nx, σ') s' ∧ I (i + 1) σ' s') :
    ∃ σ' s', evS c n0 (.for_ tg it body) σ s = .ok (.nx, σ') s' ∧ I l.length σ' s' := by
  have key : ∀ (k fuel i : Nat) (σ : Em.Env) (s : Sto), i + k = l.length → k < fuel → I i σ s → ∃ σ' s', loopS (fun σ1 x s2 => match putVal tg x σ1 with
      | some σ2 => evSs c n0 body σ2 s2
      | none => .bad) v fuel i σ s = .ok (.nx, σ') s' ∧ I l.length σ' s' := by
    intro k
    induction k with
    | zero =>
      intro fuel i σ s hk hf hI
      cases fuel with
      | zero => omega
      | succ fuel =>
        have e : l[i]? = none := List.getElem?_eq_none_iff.mpr (by omega)
        refine ⟨σ, s, ?_, by rw [← hk]; exact hI⟩
        rw [loopS, hn i σ s hI, e]; rfl
    | succ k ih =>
      intro fuel i σ s hk hf hI
      cases fuel with
      | zero => omega
      | succ fuel =>
        have hi : i < l.length := by omega
        have e : l[i]? = some l[i] := List.getElem?_eq_getElem hi
        obtain ⟨σ2, σ', s', pv, e2, hI'⟩ := step i l[i] σ s e hI
        obtain ⟨σ3, s3, e3, hI3⟩ := ih fuel (i + 1) σ' s' (by omega) (by omega) hI'
        refine ⟨σ3, s3, ?_, hI3⟩
        rw [loopS, hn i σ s hI, e]
        simp only [Option.map_some, pv, e2, R.bd_ok]
        exact e3
  obtain ⟨σ', s', e, h⟩ := key l.length c.fuel 0 σ s1 (by omega) hz h0
  refine ⟨σ', s', ?_, h⟩
  simp only [es_for, he, R.bd_ok]
  exact e
/-! the dict of walks -/
def pathD (w : List (Nat × Nat)) : List D := w.map fun q => .tuple [.int (q.1 : Int), .int (q.2 : Int)]
def mkP (ps : List (Nat × List (Nat × Nat))) : List (L2.Key × D) := ps.map fun p => (.inl (p.1 : Int), .list (pathD p.2))
def keys (ps : List (Nat × List (Nat × Nat))) : List Nat := ps.map (·.1)
theorem get_mk (ps : List (Nat × List (Nat × Nat))) (x : Nat) : getK (mkP ps) (.inl (x : Int)) = (ps.find? fun p => decide (p.1 = x)).map fun p => .list (pathD p.2) := by
  unfold getK mkP
  rw [List.find?_map]
  have : ((fun kv : L2.Key × D => decide (kv.1 = (.inl (x : Int) : L2.Key))) ∘ fun p : Nat × List (Nat × Nat) => ((.inl (p.1 : Int) : L2.Key), (PyData.list (pathD p.2) : D))) = fun p => decide (p.1 = x) := by
    funext p
    apply decide_eq_decide.mpr
    constructor
    · intro h; have h := Sum.inl.inj h; omega
    · intro h; show (Sum.inl (p.1 : Int) : L2.Key) = _; rw [h]
  rw [this, Option.map_map]
  rfl
theorem has_mk (ps : List (Nat × List (Nat × Nat))) (x : Nat) : (getK (mkP ps) (.inl (x : Int))).isSome = (keys ps).contains x := by
  rw [get_mk, Option.isSome_map]
  unfold keys
  induction ps with
  | nil => rfl
  | cons a r ih =>
    rw [List.find?_cons, List.map_cons, List.contains_cons]
    by_cases h : a.1 = x
    · subst h; simp
    · have h2 : (x == a.1) = false := by rw [beq_eq_false_iff_ne]; exact fun z => h z.symm
      rw [decide_eq_false h, h2, Bool.false_or]; exact ih
theorem find_mem {ps : List (Nat × List (Nat × Nat))} {x : Nat} (h : x ∈ keys ps) : ∃ w, (x, w) ∈ ps ∧ getK (mkP ps) (.inl (x : Int)) = some (.list (pathD w)) := by
  obtain ⟨p, hp, rfl⟩ := List.mem_map.mp h
  rw [get_mk]
  cases hf : ps.find? (fun q => decide (q.1 = p.1)) with
  | none =>
    have := List.find?_eq_none.mp hf p hp
    simp at this
  | some q =>
    have h1 := List.find?_some hf
    have h2 := List.mem_of_find?_eq_some hf
    have h1 : q.1 = p.1 := by simpa using h1
    exact ⟨q.2, by rw [← h1]; exact h2, rfl⟩
theorem set_new {ps : List (Nat × List (Nat × Nat))} {x : Nat} (h : x ∉ keys ps) (w : List (Nat × Nat)) : setK (mkP ps) (.inl (x : Int)) (.list (pathD w)) = mkP (ps ++ [(x, w)]) := by
  have h1 : ((mkP ps).any fun kv => decide (kv.1 = (.inl (x : Int) : L2.Key))) = false := by
    rw [List.any_eq_false]
    intro kv hkv
    obtain ⟨p, hp, rfl⟩ := List.mem_map.mp hkv
    have : p.1 ≠ x := fun z => h (List.mem_map.mpr ⟨p, hp, z⟩)
    simp only [decide_eq_true_eq]
    intro z
    have z := Sum.inl.inj z
    omega
  unfold setK
  rw [h1]
  simp [mkP]
theorem mkP_len (ps : List (Nat × List (Nat × Nat))) : (mkP ps).length = ps.length := List.length_map _
theorem keys_snoc (ps : List (Nat × List (Nat × Nat))) (x : Nat) (w : List (Nat × Nat)) : keys (ps ++ [(x, w)]) = keys ps ++ [x] := by unfold keys; rw [List.map_append]; rfl
theorem pathD_snoc (w : List (Nat × Nat)) (i x : Nat) : pathD w ++ [.tuple [.int (i : Int), .int (x : Int)]] = pathD (w ++ [(i, x)]) := by unfold pathD; rw [List.map_append]; rfl
/-- a walk along roads of ns, from u -/
inductive Wlk (en : List (Nat × Nat)) (ns : List Nat) (u : Nat) : List (Nat × Nat) → Nat → Prop
  | nil : Wlk en ns u [] u
  | snoc {w : List (Nat × Nat)} {x i : Nat} : Wlk en ns u w x → i ∈ ns → touch en x i = true → Wlk en ns u (w ++ [(i, other (en.getD i (0, 0)) x)]) (other (en.getD i (0, 0)) x)
def PsOk (en : List (Nat × Nat)) (ns : List Nat) (u : Nat) (ps : List (Nat × List (Nat × Nat))) : Prop := ∀ p ∈ ps, Wlk en ns u p.2 p.1 ∧ p.2.length ≤ ps.length
/-! the store: the dict at k, the late ones at l -/
def sW (G : List Cell) (k l : Nat) (ps : List (Nat × List (Nat × Nat))) (late : List Nat) : Sto := ⟨(G.set k (.di (mkP ps))).set l (.li (natD late)), []⟩
section
variable {G : List Cell} {k l : Nat} (hk : k < G.length) (hl : l < G.length) (hkl : k ≠ l) (ps ps' : List (Nat × List (Nat × Nat))) (late late' : List Nat)
include hk hkl in
theorem sW_k : (sW G k l ps late).F[k]? = some (.di (mkP ps)) := by
  show ((G.set k _).set l _)[k]? = _
  rw [List.getElem?_set_ne (Ne.symm hkl), List.getElem?_set_self hk]
include hl in
theorem sW_l : (sW G k l ps late).F[l]? = some (.li (natD late)) := by
  show ((G.set k _).set l _)[l]? = _
  rw [List.getElem?_set_self (by rw [List.length_set]; exact hl)]
include hkl in
theorem sW_setk : (sW G k l ps late).F.set k (.di (mkP ps')) = (sW G k l ps' late).F := by
  show ((G.set k _).set l _).set k _ = (G.set k _).set l _
  rw [List.set_comm _ _ (Ne.symm hkl), List.set_set]
theorem sW_setl : (sW G k l ps late).F.set l (.li (natD late')) = (sW G k l ps late').F := by
  show ((G.set k _).set l _).set l _ = (G.set k _).set l _
  rw [List.set_set]
theorem sW_other {j : Nat} (h1 : j ≠ k) (h2 : j ≠ l) : (sW G k l ps late).F[j]? = G[j]? := by
  show ((G.set k _).set l _)[j]? = _
  rw [List.getElem?_set_ne (Ne.symm h2), List.getElem?_set_ne (Ne.symm h1)]
end
def bW20 : List S := [.asg (.slot 8) (.call 14 .fr [.v 0, .v 7, .v 6] []), .ite (.din true (.v 8) (.v 3)) [.dput (.v 3) (.v 8) (.op .add .fr (.dix (.v 3) (.v 6)) (.lst .fr [.tup [.v 7, .v 8]])), .expr (.mt .append (.v 5) [.v 8])] []]
def eW20 (sh lot : D) (u k : Nat) (last late h r t : Option Val) : Em.Env := [some (.d sh), some (.d lot), some (.d (.int (u : Int))), some (.fl k), last, late, h, r, t]
section
variable {v : Nat} {rs : List D} {en : List (Nat × Nat)}
theorem x_din {c : Em.Ctx} {σ : Em.Env} {s : Sto} {n : Bool} {a b : E} {x k : Nat} {ps : List (Nat × List (Nat × Nat))} (ha : evE c a σ s = .ok (.d (.int (x : Int))) s) (hb : evE c b σ s = .ok (.fl k) s) (hg : s.F[k]? = some (.di (mkP ps))) :
    evE c (.din n a b) σ s = .ok (.d (.bool (if n = true then !(keys ps).contains x else (keys ps).contains x))) s := by
  have e : dkV s (.fl k) (.d (.int (x : Int))) = some (mkP ps, .inl (x : Int)) := by unfold dkV; simp only [hg, keyD]
  simp only [ev_din, ha, hb, R.bd_ok, dinV, e, has_mk]
theorem x_dix {c : Em.Ctx} {σ : Em.Env} {s s0 : Sto} {a b : E} {x k : Nat} {ps : List (Nat × List (Nat × Nat))} {p : D} (ha : evE c a σ s0 = .ok (.fl k) s) (hb : evE c b σ s = .ok (.d (.int (x : Int))) s) (hg : s.F[k]? = some (.di (mkP ps))) (hp : getK (mkP ps) (.inl (x : Int)) = some p) :
    evE c (.dix a b) σ s0 = .ok (.d p) s := by
  have e : dkV s (.fl k) (.d (.int (x : Int))) = some (mkP ps, .inl (x : Int)) := by unfold dkV; simp only [hg, keyD]
  simp only [ev_dix, ha, hb, R.bd_ok, dixV, e, hp]
theorem x_dgt {c : Em.Ctx} {σ : Em.Env} {s s0 : Sto} {a b z : E} {x k : Nat} {ps : List (Nat × List (Nat × Nat))} {p : D} (ha : evE c a σ s0 = .ok (.fl k) s) (hb : evE c b σ s = .ok (.d (.int (x : Int))) s) (hz : evE c z σ s = .ok (.d p) s) (hg : s.F[k]? = some (.di (mkP ps))) :
    evE c (.dgt a b z) σ s0 = .ok (.d ((getK (mkP ps) (.inl (x : Int))).getD p)) s := by
  have e : dkV s (.fl k) (.d (.int (x : Int))) = some (mkP ps, .inl (x : Int)) := by unfold dkV; simp only [hg, keyD]
  simp only [ev_dgt, ha, R.bd_ok, isDi_di hg, if_true, hb, hz, dgtV, e]
theorem s_dput {c : Em.Ctx} {n0 : Nat} {σ : Em.Env} {s : Sto} {o kk e : E} {x k : Nat} {ps : List (Nat × List (Nat × Nat))} {w : List (Nat × Nat)} (he : evE c e σ s = .ok (.d (.list (pathD w))) s) (ho : evE c o σ s = .ok (.fl k) s) (hb : evE c kk σ s = .ok (.d (.int (x : Int))) s) (hg : s.F[k]? = some (.di (mkP ps))) (hx : x ∉ keys ps) (hz : ps.length < sizeMax) :
    evS c n0 (.dput o kk e) σ s = .ok (.nx, σ) { s with F := s.F.set k (.di (mkP (ps ++ [(x, w)]))) } := by
  have e1 : dkV s (.fl k) (.d (.int (x : Int))) = some (mkP ps, .inl (x : Int)) := by unfold dkV; simp only [hg, keyD]
  have hz : (mkP ps).length < sizeMax := by rw [mkP_len]; exact hz
  simp only [es_dput, he, ho, hb, R.bd_ok, dputV, e1, if_pos hz, set_new hx]
theorem tW20 (hS : Sh v rs en) (n n0 : Nat) {G : List Cell} {k l : Nat} (hk : k < G.length) (hl : l < G.length) (hkl : k ≠ l) (lot : D) (ns : List Nat) (u w i : Nat) (hi : i < en.length) (hin : i ∈ ns) (htc : touch en w i = true) (last r t : Option Val) (ps : List (Nat × List (Nat × Nat))) (late : List Nat) (hw : w ∈ keys ps) (hP : PsOk en ns u ps) (hz1 : ps.length ≤ 1000) (hz2 : late.length ≤ 1000) :
    ∃ t' ps' late', PsOk en ns u ps' ∧ (((keys ps).contains (other en[i] w) = true ∧ ps' = ps ∧ late' = late) ∨ (other en[i] w ∉ keys ps ∧ keys ps' = keys ps ++ [other en[i] w] ∧ late' = late ++ [other en[i] w])) ∧
      evSs ⟨evF prog (n + 2), prog.glob, prog.fuel⟩ n0 bW20 (eW20 (shD v rs) lot u k last (some (.fl l)) (some (.d (.int (w : Int)))) (some (.d (.int (i : Int)))) t) (sW G k l ps late) =
      .ok (.nx, eW20 (shD v rs) lot u k last (some (.fl l)) (some (.d (.int (w : Int)))) (some (.d (.int (i : Int)))) t') (sW G k l ps' late') := by
  have hsm : sizeMax = 16777216 := rfl
  have hgk := sW_k hk hkl ps late
  have hgl := sW_l (k := k) hl ps late
  have e1 : evE ⟨evF prog (n + 2), prog.glob, prog.fuel⟩ (.call 14 .fr [.v 0, .v 7, .v 6] []) (eW20 (shD v rs) lot u k last (some (.fl l)) (some (.d (.int (w : Int)))) (some (.d (.int (i : Int)))) t) (sW G k l ps late) = .ok (.d (.int (other en[i] w : Int))) (sW G k l ps late) := x_call15 hS hi (x_v rfl) (x_v rfl) (x_v rfl)
  have f1 : evS ⟨evF prog (n + 2), prog.glob, prog.fuel⟩ n0 (.asg (.slot 8) (.call 14 .fr [.v 0, .v 7, .v 6] [])) (eW20 (shD v rs) lot u k last (some (.fl l)) (some (.d (.int (w : Int)))) (some (.d (.int (i : Int)))) t) (sW G k l ps late) = .ok (.nx, eW20 (shD v rs) lot u k last (some (.fl l)) (some (.d (.int (w : Int)))) (some (.d (.int (i : Int)))) (some (.d (.int (other en[i] w : Int))))) (sW G k l ps late) := s_asg e1 (by simp [eW20])
  have hoe : other (en.getD i (0, 0)) w = other en[i] w := by rw [getD_en hi]
  generalize hσ : eW20 (shD v rs) lot u k last (some (.fl l)) (some (.d (.int (w : Int)))) (some (.d (.int (i : Int)))) (some (.d (.int (other en[i] w : Int)))) = σ at f1
  have v3 : ∀ s, evE ⟨evF prog (n + 2), prog.glob, prog.fuel⟩ (.v 3) σ s = .ok (.fl k) s := fun s => by subst hσ; exact x_v rfl
  have v5 : ∀ s, evE ⟨evF prog (n + 2), prog.glob, prog.fuel⟩ (.v 5) σ s = .ok (.fl l) s := fun s => by subst hσ; exact x_v rfl
  have v6 : ∀ s, evE ⟨evF prog (n + 2), prog.glob, prog.fuel⟩ (.v 6) σ s = .ok (.d (.int (w : Int))) s := fun s => by subst hσ; exact x_v rfl
  have v7 : ∀ s, evE ⟨evF prog (n + 2), prog.glob, prog.fuel⟩ (.v 7) σ s = .ok (.d (.int (i : Int))) s := fun s => by subst hσ; exact x_v rfl
  have v8 : ∀ s, evE ⟨evF prog (n + 2), prog.glob, prog.fuel⟩ (.v 8) σ s = .ok (.d (.int (other en[i] w : Int))) s := fun s => by subst hσ; exact x_v rfl
  have ec := x_din (n := true) (v8 (sW G k l ps late)) (v3 _) hgk
  simp only [if_true] at ec
  cases hb : (keys ps).contains (other en[i] w) with
  | true =>
    rw [hb] at ec
    exact ⟨some (.d (.int (other en[i] w : Int))), ps, late, hP, .inl ⟨rfl, rfl, rfl⟩, by rw [bW20, ss_nx f1, hσ]; exact (ss_nx ((s_ite_f (x_tst ec)).trans ss_nil)).trans ss_nil⟩
  | false =>
    rw [hb] at ec
    have hx : other en[i] w ∉ keys ps := fun z => by rw [List.contains_iff_mem.mpr z] at hb; cases hb
    obtain ⟨W, hW, hg⟩ := find_mem hw
    obtain ⟨p1, p2⟩ := hP _ hW
    have p2 : W.length ≤ ps.length := p2
    have ed := x_dix (v3 (sW G k l ps late)) (v6 _) hgk hg
    have et : evE ⟨evF prog (n + 2), prog.glob, prog.fuel⟩ (.lst .fr [.tup [.v 7, .v 8]]) σ (sW G k l ps late) = .ok (.d (.list [.tuple [.int (i : Int), .int (other en[i] w : Int)]])) (sW G k l ps late) := x_lst (vs := [.tuple [.int (i : Int), .int (other en[i] w : Int)]]) (es_cons' (x_tup (vs := [.int (i : Int), .int (other en[i] w : Int)]) (es_cons' (v7 _) (es_cons' (v8 _) es_nil'))) es_nil')
    have ea := x_addL ed et (by unfold pathD; rw [List.length_map]; simp only [List.length_singleton]; omega)
    rw [pathD_snoc] at ea
    have f2 := s_dput (n0 := n0) ea (v3 _) (v8 _) hgk hx (by omega)
    rw [sW_setk hkl] at f2
    have a1 := x_append (c := ⟨evF prog (n + 2), prog.glob, prog.fuel⟩) (σ := σ) (s := sW G k l (ps ++ [(other en[i] w, W ++ [(i, other en[i] w)])]) late) (v5 _) (v8 _) (sW_l (k := k) hl _ late) (by rw [natD_len]; omega)
    rw [natD_snoc, sW_setl] at a1
    refine ⟨some (.d (.int (other en[i] w : Int))), ps ++ [(other en[i] w, W ++ [(i, other en[i] w)])], late ++ [other en[i] w], fun p hp => ?_, .inr ⟨hx, keys_snoc _ _ _, rfl⟩, ?_⟩
    · rcases List.mem_append.mp hp with q | q
      · obtain ⟨q1, q2⟩ := hP p q
        exact ⟨q1, by rw [List.length_append]; omega⟩
      · have := List.mem_singleton.mp q
        subst this
        refine ⟨?_, by rw [List.length_append, List.length_append]; simp only [List.length_singleton]; omega⟩
        show Wlk en ns u (W ++ [(i, other en[i] w)]) (other en[i] w)
        rw [← hoe]
        exact .snoc p1 hin htc
    · rw [bW20, ss_nx f1, hσ]
      exact (ss_nx ((s_ite_t (x_tst ec)).trans ((ss_nx f2).trans ((ss_nx (s_expr a1)).trans ss_nil)))).trans ss_nil
end
end Wk
end

section
set_option Elab.async false
set_option linter.all false
set_option maxRecDepth 100000
set_option maxHeartbeats 400000
/-! K24v: walks_from, the rounds. -/
namespace Wk
open PySem Em
section
variable {v : Nat} {rs : List D} {en : List (Nat × Nat)}
theorem keys_len (ps : List (Nat × List (Nat × Nat))) : (keys ps).length = ps.length := List.length_map _
theorem left2_le (v : Nat) (f l : List Nat) : l.length ≤ Gr.left2 v f l := by unfold Gr.left2; omega
/-- the roads at a place, one after another -/
theorem lW20 (hS : Sh v rs en) (n n0 : Nat) {G : List Cell} {k l : Nat} (hk : k < G.length) (hl : l < G.length) (hkl : k ≠ l) (ns : List Nat) (hn : ∀ i ∈ ns, i < en.length) (hz : ns.length ≤ 1000) (hv : v ≤ 40) (u w : Nat) (last r t : Option Val) (ps : List (Nat × List (Nat × Nat))) (late rest : List Nat) (hP : PsOk en ns u ps) (hw : w ∈ keys ps)
    (hI : Gr.Srch (es en ns) v u (keys ps) (rest ++ late) (fun x => x = w)) (hb : Gr.left2 v (keys ps) (rest ++ late) ≤ 100) :
    ∃ r' t' ps' late', PsOk en ns u ps' ∧ Gr.Srch (es en ns) v u (keys ps') (rest ++ late') (fun _ => False) ∧ Gr.left2 v (keys ps') (rest ++ late') ≤ Gr.left2 v (keys ps) (rest ++ late) ∧
      evS ⟨evF prog (n + 2), prog.glob, prog.fuel⟩ n0 (.for_ (.slot 7) (.call 15 .fr [.v 0, .v 1, .v 6] []) bW20) (eW20 (shD v rs) (.tuple (natD ns)) u k last (some (.fl l)) (some (.d (.int (w : Int)))) r t) (sW G k l ps late) =
      .ok (.nx, eW20 (shD v rs) (.tuple (natD ns)) u k last (some (.fl l)) (some (.d (.int (w : Int)))) r' t') (sW G k l ps' late') := by
  have hf : prog.fuel = 1000000 := rfl
  have e2 : evE ⟨evF prog (n + 2), prog.glob, prog.fuel⟩ (.call 15 .fr [.v 0, .v 1, .v 6] []) (eW20 (shD v rs) (.tuple (natD ns)) u k last (some (.fl l)) (some (.d (.int (w : Int)))) r t) (sW G k l ps late) = .ok (.d (.list (natD (ns.filter (touch en w))))) (sW G k l ps late) := by
    rw [x_call (es_cons' (x_v rfl) (es_cons' (x_v rfl) (es_cons' (x_v rfl) es_nil'))) rfl]
    show called .fr (sW G k l ps late) (evF prog (n + 2) 15 [.d (shD v rs), .d (.tuple (natD ns)), .d (.int (w : Int))] [] (sW G k l ps late).F) = _
    rw [ev15 hS n _ ns hn hz w]
    exact called_new rfl
  have hqz : (ns.filter (touch en w)).length ≤ 1000 := Nat.le_trans (List.length_filter_le _ _) hz
  have hmemq : ∀ i ∈ ns.filter (touch en w), i ∈ ns ∧ touch en w i = true := fun i hi => List.mem_filter.mp hi
  generalize hqs : ns.filter (touch en w) = qs at *
  obtain ⟨σ', s', f, ps', late', r', t', hP', rfl, rfl, g1, g2, g3, g4⟩ := s_forN (n0 := n0) (tg := .slot 7) (body := bW20) e2 (items_list (natD qs)) (by show _ < prog.fuel; rw [hf]; omega)
    (fun j σ s => ∃ (ps' : List (Nat × List (Nat × Nat))) (late' : List Nat) (r' t' : Option Val), PsOk en ns u ps' ∧ σ = eW20 (shD v rs) (.tuple (natD ns)) u k last (some (.fl l)) (some (.d (.int (w : Int)))) r' t' ∧ s = sW G k l ps' late' ∧
      Gr.Srch (es en ns) v u (keys ps') (rest ++ late') (fun x => x = w) ∧ Gr.left2 v (keys ps') (rest ++ late') ≤ Gr.left2 v (keys ps) (rest ++ late) ∧ (∀ i ∈ qs.take j, other (en.getD i (0, 0)) w ∈ keys ps') ∧ w ∈ keys ps') ⟨ps, late, r, t, hP, rfl, rfl, hI, Nat.le_refl _, fun i hi => by simp at hi, hw⟩ fun j hj σ s hI => by
      obtain ⟨ps1, late1, r1, t1, hP1, rfl, rfl, g1, g2, g3, g4⟩ := hI
      have hmem := List.getElem_mem hj
      obtain ⟨hkn, htk⟩ := hmemq _ hmem
      have hke := hn _ hkn
      have hedge : Gr.Adj (es en ns) w (other (en.getD qs[j] (0, 0)) w) := touch_adj hkn htk
      have hor : Gr.Reach (es en ns) u (other (en.getD qs[j] (0, 0)) w) := .step (g1.rch w g4) hedge
      have hov : other (en.getD qs[j] (0, 0)) w < v := hor.lt (es_ok hS hn) (g1.lt u g1.mem)
      have hen : en.getD qs[j] (0, 0) = en[qs[j]] := getD_en hke
      have hpl : ps1.length ≤ 1000 := by have := nodup_len v (keys ps1) g1.nd g1.lt; rw [keys_len] at this; omega
      have hll : late1.length ≤ 1000 := by
        have := left2_le v (keys ps1) (rest ++ late1)
        rw [List.length_append] at this; omega
      obtain ⟨t', ps2, late2, hP2, hc, e⟩ := tW20 hS n n0 hk hl hkl (.tuple (natD ns)) ns u w qs[j] hke hkn htk last r1 t1 ps1 late1 g4 hP1 hpl hll
      rw [← hen] at hc
      have htake : qs.take (j + 1) = qs.take j ++ [qs[j]] := by rw [List.take_succ_eq_append_getElem hj]
      refine ⟨eW20 (shD v rs) (.tuple (natD ns)) u k last (some (.fl l)) (some (.d (.int (w : Int)))) (some (.d (.int (qs[j] : Int)))) t1, _, _, rfl, e, ps2, late2, _, _, hP2, rfl, rfl, ?_⟩
      rcases hc with ⟨q1, rfl, rfl⟩ | ⟨q1, q2, rfl⟩
      · refine ⟨g1, g2, fun i hi => ?_, g4⟩
        rw [htake] at hi
        rcases List.mem_append.mp hi with hi | hi
        · exact g3 i hi
        · rw [List.mem_singleton.mp hi]; exact List.contains_iff_mem.mp q1
      · obtain ⟨p1, p2⟩ := g1.push q1 hor hov
        rw [← List.append_assoc, q2]
        refine ⟨p1, by omega, fun i hi => ?_, List.mem_append.mpr (.inl g4)⟩
        rw [htake] at hi
        rcases List.mem_append.mp hi with hi | hi
        · exact List.mem_append.mpr (.inl (g3 i hi))
        · rw [List.mem_singleton.mp hi]; exact List.mem_append.mpr (.inr (by simp))
  rw [List.take_length] at g3
  refine ⟨r', t', ps', late', hP', g1.back fun y a => ?_, g2, f⟩
  obtain ⟨i, hi, ht, ho⟩ := adj_touch a
  rw [← ho]
  exact g3 i (by rw [← hqs]; exact List.mem_filter.mpr ⟨hi, ht⟩)
def LastIs (F : List Cell) (k : Nat) (x : Val) (l : List Nat) : Prop := x = .d (.list (natD l)) ∨ ∃ j, x = .fl j ∧ k < j ∧ F[j]? = some (.li (natD l))
theorem set_same {F : List Cell} {i : Nat} {c : Cell} (h : F[i]? = some c) : F.set i c = F := by
  obtain ⟨hl, e⟩ := List.getElem?_eq_some_iff.mp h
  rw [← e, List.set_getElem_self]
theorem take_sW {G : List Cell} {k l : Nat} (h : k ≤ l) (ps : List (Nat × List (Nat × Nat))) (late : List Nat) : (sW G k l ps late).F.take k = G.take k := by
  show ((G.set k _).set l _).take k = _
  rw [List.take_set, List.take_set, List.set_eq_of_length_le (by rw [List.length_set, List.length_take]; omega), List.set_eq_of_length_le (by rw [List.length_take]; omega)]
/-- one round: all of last -/
theorem rW20 (hS : Sh v rs en) (n n0 : Nat) {G : List Cell} {k l : Nat} (hk : k < G.length) (hl : l < G.length) (hkl : k ≠ l) (ns : List Nat) (hn : ∀ i ∈ ns, i < en.length) (hz : ns.length ≤ 1000) (hv : v ≤ 40) (u : Nat) (last : Val) (h r t : Option Val) (ps : List (Nat × List (Nat × Nat))) (ls : List Nat) (hP : PsOk en ns u ps)
    (hla : last = .d (.list (natD ls)) ∨ ∃ j, last = .fl j ∧ j ≠ k ∧ j ≠ l ∧ G[j]? = some (.li (natD ls))) (hI : Gr.Srch (es en ns) v u (keys ps) ls (fun _ => False)) (hb : Gr.left2 v (keys ps) ls ≤ 100) :
    ∃ h' r' t' ps' late', PsOk en ns u ps' ∧ Gr.Srch (es en ns) v u (keys ps') late' (fun _ => False) ∧ Gr.left2 v (keys ps') late' + ls.length ≤ Gr.left2 v (keys ps) ls ∧
      evS ⟨evF prog (n + 2), prog.glob, prog.fuel⟩ n0 (.for_ (.slot 6) (.v 4) [.for_ (.slot 7) (.call 15 .fr [.v 0, .v 1, .v 6] []) bW20]) (eW20 (shD v rs) (.tuple (natD ns)) u k (some last) (some (.fl l)) h r t) (sW G k l ps []) =
      .ok (.nx, eW20 (shD v rs) (.tuple (natD ns)) u k (some last) (some (.fl l)) h' r' t') (sW G k l ps' late') := by
  have hf : prog.fuel = 1000000 := rfl
  have hlsl := left2_le v (keys ps) ls
  obtain ⟨σ', s', f, ps', late', h', r', t', hP', rfl, rfl, g1, g2⟩ := s_forV (c := ⟨evF prog (n + 2), prog.glob, prog.fuel⟩) (n0 := n0) (tg := .slot 6) (it := .v 4) (body := [.for_ (.slot 7) (.call 15 .fr [.v 0, .v 1, .v 6] []) bW20]) (σ := eW20 (shD v rs) (.tuple (natD ns)) u k (some last) (some (.fl l)) h r t) (s := sW G k l ps []) (v := last) (l := natD ls) (x_v rfl) (by rw [natD_len]; show _ < prog.fuel; rw [hf]; omega)
    (fun j σ s => ∃ (ps' : List (Nat × List (Nat × Nat))) (late' : List Nat) (h' r' t' : Option Val), PsOk en ns u ps' ∧ σ = eW20 (shD v rs) (.tuple (natD ns)) u k (some last) (some (.fl l)) h' r' t' ∧ s = sW G k l ps' late' ∧ Gr.Srch (es en ns) v u (keys ps') (ls.drop j ++ late') (fun _ => False) ∧ Gr.left2 v (keys ps') (ls.drop j ++ late') + j ≤ Gr.left2 v (keys ps) ls)
    (fun j σ s hI => by
      obtain ⟨ps1, late1, _, _, _, _, _, rfl, _⟩ := hI
      rcases hla with rfl | ⟨m, rfl, q1, q2, q3⟩
      · rfl
      · have hg : (sW G k l ps1 late1).F[m]? = some (.li (natD ls)) := (sW_other ps1 late1 q1 q2).trans q3
        simp only [nth, hg])
    ⟨ps, [], h, r, t, hP, rfl, rfl, by rw [List.drop_zero, List.append_nil]; exact hI, by rw [List.drop_zero, List.append_nil]; omega⟩ fun j x σ s hx hI => by
      obtain ⟨ps1, late1, h1, r1, t1, hP1, rfl, rfl, g1, g2⟩ := hI
      have hil := (List.getElem?_eq_some_iff.mp hx).1
      rw [natD_len] at hil
      have hx : x = .int (ls[j] : Int) := by
        have := (List.getElem?_eq_some_iff.mp hx).2
        rw [← this]; simp [natD]
      subst hx
      have hd : ls.drop j = ls[j] :: ls.drop (j + 1) := List.drop_eq_getElem_cons hil
      rw [hd, List.cons_append] at g1 g2
      obtain ⟨q1, q2⟩ := g1.take1
      have hwk : ls[j] ∈ keys ps1 := g1.sub _ List.mem_cons_self
      obtain ⟨r2, t2, ps2, late2, hP2, q3, q4, e⟩ := lW20 hS n n0 hk hl hkl ns hn hz hv u ls[j] (some last) r1 t1 ps1 late1 (ls.drop (j + 1)) hP1 hwk q1 (by omega)
      exact ⟨eW20 (shD v rs) (.tuple (natD ns)) u k (some last) (some (.fl l)) (some (.d (.int (ls[j] : Int)))) r1 t1, _, _, rfl, (ss_nx e).trans ss_nil, ps2, late2, _, _, _, hP2, rfl, rfl, q3, by omega⟩
  rw [natD_len, List.drop_length, List.nil_append] at g1 g2
  exact ⟨h', r', t', ps', late', hP', g1, g2, f⟩
def wW20 : List S := [.asg (.slot 5) (.lst .fl []), .for_ (.slot 6) (.v 4) [.for_ (.slot 7) (.call 15 .fr [.v 0, .v 1, .v 6] []) bW20], .asg (.slot 4) (.v 5)]
theorem bodyW20 : d20.body = [.asgs [3, 4] [.dsp (.v 2) (.lst .fr []), .lst .fr [.v 2]], .while_ (.op .ne .fr (.v 4) (.lst .fr [])) wW20, .ret (.v 3)] := rfl
/-- last != [] -/
theorem x_lastNe {c : Em.Ctx} {σ : Em.Env} {s : Sto} {a : E} {k : Nat} {x : Val} {l : List Nat} (ha : evE c a σ s = .ok x s) (hl : LastIs s.F k x l) : evE c (.op .ne .fr a (.lst .fr [])) σ s = .ok (.d (.bool (!decide (l = [])))) s := by
  rcases hl with rfl | ⟨j, rfl, _, hg⟩
  · have he : evE c (.lst .fr []) σ s = .ok (.d (.list (natD []))) s := x_lst (vs := []) es_nil'
    have h1 : okEq (.list (natD l)) (.list (natD [])) = true := by unfold okEq; rw [shaped_natD, shaped_natD]; rfl
    rw [x_op ha he, op2S_dd, op_neD, if_pos h1, eqv_natD]
  · exact x_neNil ha hg
theorem ev20 (hS : Sh v rs en) (n : Nat) (F : List Cell) (u : Nat) (hu : u < v) (hv : v ≤ 40) (ns : List Nat) (hn : ∀ i ∈ ns, i < en.length) (hz : ns.length ≤ 1000) :
    ∃ ps, PsOk en ns u ps ∧ (∀ w, w ∈ keys ps ↔ w ∈ Gr.comp (es en ns) v u) ∧ ps.length ≤ 40 ∧ evF prog (n + 3) 20 [.d (shD v rs), .d (.tuple (natD ns)), .d (.int (u : Int))] [] F = .ok (.fl F.length) ⟨F ++ [.di (mkP ps)], []⟩ := by
  have hf : prog.fuel = 1000000 := rfl
  have s0 : Em.start d20 [.d (shD v rs), .d (.tuple (natD ns)), .d (.int (u : Int))] = [some (.d (shD v rs)), some (.d (.tuple (natD ns))), some (.d (.int (u : Int))), none, none, none, none, none, none] := rfl
  have f1 : evS ⟨evF prog (n + 2), prog.glob, prog.fuel⟩ F.length (.asgs [3, 4] [.dsp (.v 2) (.lst .fr []), .lst .fr [.v 2]]) [some (.d (shD v rs)), some (.d (.tuple (natD ns))), some (.d (.int (u : Int))), none, none, none, none, none, none] ⟨F, []⟩ = .ok (.nx, eW20 (shD v rs) (.tuple (natD ns)) u F.length (some (.d (.list (natD [u])))) none none none none) ⟨F ++ [.di (mkP [(u, [])])], []⟩ := by
    have e1 : evE ⟨evF prog (n + 2), prog.glob, prog.fuel⟩ (.dsp (.v 2) (.lst .fr [])) [some (.d (shD v rs)), some (.d (.tuple (natD ns))), some (.d (.int (u : Int))), none, none, none, none, none, none] ⟨F, []⟩ = .ok (.fl F.length) ⟨F ++ [.di (mkP [(u, [])])], []⟩ := by
      have a1 : evE ⟨evF prog (n + 2), prog.glob, prog.fuel⟩ (.v 2) [some (.d (shD v rs)), some (.d (.tuple (natD ns))), some (.d (.int (u : Int))), none, none, none, none, none, none] ⟨F, []⟩ = .ok (.d (.int (u : Int))) ⟨F, []⟩ := x_v rfl
      have a2 : evE ⟨evF prog (n + 2), prog.glob, prog.fuel⟩ (.lst .fr []) [some (.d (shD v rs)), some (.d (.tuple (natD ns))), some (.d (.int (u : Int))), none, none, none, none, none, none] ⟨F, []⟩ = .ok (.d (.list [])) ⟨F, []⟩ := x_lst (vs := []) es_nil'
      simp only [ev_dsp, a1, a2, R.bd_ok, dspV, keyD]
      rfl
    have e2 : evE ⟨evF prog (n + 2), prog.glob, prog.fuel⟩ (.lst .fr [.v 2]) [some (.d (shD v rs)), some (.d (.tuple (natD ns))), some (.d (.int (u : Int))), none, none, none, none, none, none] ⟨F ++ [.di (mkP [(u, [])])], []⟩ = .ok (.d (.list (natD [u]))) ⟨F ++ [.di (mkP [(u, [])])], []⟩ := x_lst (vs := [.int (u : Int)]) (es_cons' (x_v rfl) es_nil')
    rw [es_asgs]
    simp only [es_cons' e1 (es_cons' e2 es_nil'), R.bd_ok]
    rfl
  have hst : Gr.Srch (es en ns) v u [u] [u] (fun _ => False) := Gr.Srch.start hu
  have hl0 : Gr.left2 v [u] [u] ≤ 2 * v + 1 := by
    have := List.length_filter_le (fun x => ![u].contains x) (List.range v)
    rw [List.length_range] at this
    unfold Gr.left2
    rw [List.length_singleton]; omega
  obtain ⟨σ', s', e2, ps, last, late, h, r, t, rfl, q1, q2, q3, q4, q5⟩ := loopW_inv (cd := fun σ1 s1 => tst (evE ⟨evF prog (n + 2), prog.glob, prog.fuel⟩ (.op .ne .fr (.v 4) (.lst .fr [])) σ1 s1)) (f := fun σ1 s1 => evSs ⟨evF prog (n + 2), prog.glob, prog.fuel⟩ F.length wW20 σ1 s1)
    (J := fun σ s => ∃ (ps : List (Nat × List (Nat × Nat))) (last late h r t : Option Val), σ = eW20 (shD v rs) (.tuple (natD ns)) u F.length last late h r t ∧ s.N = [] ∧ s.F.take F.length = F ∧ s.F[F.length]? = some (.di (mkP ps)) ∧ PsOk en ns u ps ∧ Gr.Srch (es en ns) v u (keys ps) [] (fun _ => False))
    (fun m σ s => ∃ (ps : List (Nat × List (Nat × Nat))) (last : Val) (ls : List Nat) (late h r t : Option Val), σ = eW20 (shD v rs) (.tuple (natD ns)) u F.length (some last) late h r t ∧ s.N = [] ∧ s.F.take F.length = F ∧ s.F[F.length]? = some (.di (mkP ps)) ∧ PsOk en ns u ps ∧ LastIs s.F F.length last ls ∧ Gr.Srch (es en ns) v u (keys ps) ls (fun _ => False) ∧ m = Gr.left2 v (keys ps) ls ∧ m ≤ 2 * v + 1) (fun m σ s hI => by
      obtain ⟨ps, last, ls, late, h, r, t, rfl, hN, hT, hD, hP, hL, g1, rfl, g2⟩ := hI
      obtain ⟨SF, SN⟩ := s
      have hN : SN = [] := hN
      subst hN
      have hT : SF.take F.length = F := hT
      have hD : SF[F.length]? = some (.di (mkP ps)) := hD
      have hL : LastIs SF F.length last ls := hL
      have ec := x_lastNe (c := ⟨evF prog (n + 2), prog.glob, prog.fuel⟩) (σ := eW20 (shD v rs) (.tuple (natD ns)) u F.length (some last) late h r t) (s := ⟨SF, []⟩) (a := .v 4) (x_v rfl) hL
      refine ⟨!decide (ls = []), _, x_tst ec, fun hb => ?_, fun hb => ?_⟩
      · have hne : ls ≠ [] := by simpa using hb
        have hpos : 1 ≤ ls.length := Nat.one_le_iff_ne_zero.mpr fun z => hne (List.length_eq_zero_iff.mp z)
        have hkl : F.length < SF.length := (List.getElem?_eq_some_iff.mp hD).1
        have f1 : evS ⟨evF prog (n + 2), prog.glob, prog.fuel⟩ F.length (.asg (.slot 5) (.lst .fl [])) (eW20 (shD v rs) (.tuple (natD ns)) u F.length (some last) late h r t) ⟨SF, []⟩ = .ok (.nx, eW20 (shD v rs) (.tuple (natD ns)) u F.length (some last) (some (.fl SF.length)) h r t) ⟨SF ++ [.li []], []⟩ := s_asg lst0 (by simp [eW20])
        have hsw : (⟨SF ++ [.li []], []⟩ : Sto) = sW (SF ++ [.li []]) F.length SF.length ps [] := by
          unfold sW
          rw [set_same (F := SF ++ [Cell.li []]) (i := F.length) (c := .di (mkP ps)) (by rw [List.getElem?_append_left hkl]; exact hD), set_same (F := SF ++ [Cell.li []]) (i := SF.length) (c := .li (natD [])) (by rw [List.getElem?_append_right (Nat.le_refl _)]; simp [natD])]
        have hla : last = .d (.list (natD ls)) ∨ ∃ j, last = .fl j ∧ j ≠ F.length ∧ j ≠ SF.length ∧ (SF ++ [Cell.li []])[j]? = some (.li (natD ls)) := by
          rcases hL with hL | ⟨j, rfl, hj, hg⟩
          · exact .inl hL
          · have := (List.getElem?_eq_some_iff.mp hg).1
            exact .inr ⟨j, rfl, by omega, by omega, by rw [List.getElem?_append_left this]; exact hg⟩
        obtain ⟨h', r', t', ps', late', hP', p1, p2, f2⟩ := rW20 hS n F.length (G := SF ++ [.li []]) (k := F.length) (l := SF.length) (by rw [List.length_append]; omega) (by simp) (by omega) ns hn hz hv u last h r t ps ls hP hla g1 (by omega)
        rw [← hsw] at f2
        have f3 : evS ⟨evF prog (n + 2), prog.glob, prog.fuel⟩ F.length (.asg (.slot 4) (.v 5)) (eW20 (shD v rs) (.tuple (natD ns)) u F.length (some last) (some (.fl SF.length)) h' r' t') (sW (SF ++ [.li []]) F.length SF.length ps' late') = .ok (.nx, eW20 (shD v rs) (.tuple (natD ns)) u F.length (some (.fl SF.length)) (some (.fl SF.length)) h' r' t') (sW (SF ++ [.li []]) F.length SF.length ps' late') := s_asg (x_v rfl) (by simp [eW20])
        refine ⟨_, _, Gr.left2 v (keys ps') late', (ss_nx f1).trans ((ss_nx f2).trans ((ss_nx f3).trans ss_nil)), by omega, ps', .fl SF.length, late', _, _, _, _, rfl, rfl, ?_, ?_, hP', .inr ⟨SF.length, rfl, hkl, ?_⟩, p1, rfl, by omega⟩
        · rw [take_sW (by omega), List.take_append_of_le_length (by omega)]; exact hT
        · exact sW_k (by rw [List.length_append]; omega) (by omega) ps' late'
        · exact sW_l (k := F.length) (by simp) ps' late'
      · have hnil : ls = [] := by simpa using hb
        subst hnil
        exact ⟨ps, some last, late, h, r, t, rfl, rfl, hT, hD, hP, g1⟩) prog.fuel (Gr.left2 v [u] [u]) (eW20 (shD v rs) (.tuple (natD ns)) u F.length (some (.d (.list (natD [u])))) none none none none) ⟨F ++ [.di (mkP [(u, [])])], []⟩ (by rw [hf]; omega)
    ⟨[(u, [])], .d (.list (natD [u])), [u], none, none, none, none, rfl, rfl, by simp, by rw [List.getElem?_append_right (Nat.le_refl _)]; simp, fun p hp => by rw [List.mem_singleton.mp hp]; exact ⟨.nil, by simp⟩, .inl rfl, hst, rfl, hl0⟩
  have f2 : evS ⟨evF prog (n + 2), prog.glob, prog.fuel⟩ F.length (.while_ (.op .ne .fr (.v 4) (.lst .fr [])) wW20) (eW20 (shD v rs) (.tuple (natD ns)) u F.length (some (.d (.list (natD [u])))) none none none none) ⟨F ++ [.di (mkP [(u, [])])], []⟩ = .ok (.nx, eW20 (shD v rs) (.tuple (natD ns)) u F.length last late h r t) s' := by
    simp only [es_while]
    exact e2
  refine ⟨ps, q4, q5.done hu (es_ok hS hn), by have := nodup_len v (keys ps) q5.nd q5.lt; rw [keys_len] at this; omega, ?_⟩
  have v3 : evE ⟨evF prog (n + 2), prog.glob, prog.fuel⟩ (.v 3) (eW20 (shD v rs) (.tuple (natD ns)) u F.length last late h r t) s' = .ok (.fl F.length) s' := x_v rfl
  have f3 : evS ⟨evF prog (n + 2), prog.glob, prog.fuel⟩ F.length (.ret (.v 3)) (eW20 (shD v rs) (.tuple (natD ns)) u F.length last late h r t) s' = .ok (.rt (.new (.di (mkP ps))), eW20 (shD v rs) (.tuple (natD ns)) u F.length last late h r t) s' := by
    simp only [es_ret, v3, R.bd_ok, finR, Nat.lt_irrefl, if_false, q3, Option.map_some]
  rw [evF_step (d := d20) rfl rfl, s0, bodyW20, ss_nx f1, ss_nx f2, ss_rt f3]
  simp only [R.bd_ok, Em.finish, q2]
end
end Wk
end

section
set_option Elab.async false
set_option linter.all false
set_option maxRecDepth 100000
set_option maxHeartbeats 400000
/-! K24x: ranks of lots, the mathematics. -/
namespace Wk
open PySem Em
theorem mem_es {en : List (Nat × Nat)} {ns : List Nat} {e : Nat × Nat} : e ∈ es en ns ↔ ∃ i ∈ ns, en.getD i (0, 0) = e := List.mem_map
theorem reach_sub {E E' : List (Nat × Nat)} (h : ∀ e ∈ E, Gr.Reach E' e.1 e.2) {u w : Nat} (r : Gr.Reach E u w) : Gr.Reach E' u w := by
  induction r with
  | refl => exact .refl
  | step _ a ih =>
    rcases a with a | a
    · exact ih.trans (h _ a)
    · exact ih.trans (h _ a).symm
theorem reach_edge {E : List (Nat × Nat)} {e : Nat × Nat} (h : e ∈ E) : Gr.Reach E e.1 e.2 := Gr.Reach.refl.step (.inl h)
theorem nL_congr {E E' : List (Nat × Nat)} (h1 : ∀ e ∈ E, Gr.Reach E' e.1 e.2) (h2 : ∀ e ∈ E', Gr.Reach E e.1 e.2) (v : Nat) : nL E v = nL E' v := by
  unfold nL
  rw [Gr.leads_congr (fun u w => ⟨reach_sub h1, reach_sub h2⟩) v]
theorem nL_same {E E' : List (Nat × Nat)} (h : ∀ e, e ∈ E ↔ e ∈ E') (v : Nat) : nL E v = nL E' v := nL_congr (fun e he => reach_edge ((h e).mp he)) (fun e he => reach_edge ((h e).mpr he)) v
theorem es_mem_same {en : List (Nat × Nat)} {l m : List Nat} (h : ∀ i, i ∈ l ↔ i ∈ m) (e : Nat × Nat) : e ∈ es en l ↔ e ∈ es en m := by
  rw [mem_es, mem_es]
  exact ⟨fun ⟨i, a, b⟩ => ⟨i, (h i).mp a, b⟩, fun ⟨i, a, b⟩ => ⟨i, (h i).mpr a, b⟩⟩
/-- one edge more -/
theorem nL_step {E : List (Nat × Nat)} {e : Nat × Nat} {v : Nat} (h1 : e.1 < v) (h2 : e.2 < v) : (Gr.Reach E e.1 e.2 ∧ nL (E ++ [e]) v = nL E v) ∨ (¬ Gr.Reach E e.1 e.2 ∧ nL (E ++ [e]) v + 1 = nL E v) := by
  by_cases he : Gr.Reach E e.1 e.2
  · refine .inl ⟨he, ?_⟩
    unfold nL
    rw [Gr.leads_congr (fun u w => Gr.reach_same he) v]
  · exact .inr ⟨he, Gr.leads_more h1 h2 he⟩
/-- the more there is, the less an edge adds -/
theorem nL_sub {A B L : List (Nat × Nat)} {v : Nat} (hab : ∀ e ∈ A, e ∈ B) (hL : Gr.Ok L v) : nL B v + nL (A ++ L) v ≤ nL A v + nL (B ++ L) v := by
  induction L generalizing A B with
  | nil => rw [List.append_nil, List.append_nil]; omega
  | cons e L ih =>
    have he := hL e List.mem_cons_self
    have h1 : ∀ X : List (Nat × Nat), X ++ e :: L = (X ++ [e]) ++ L := fun X => by simp
    rw [h1, h1]
    have := ih (A := A ++ [e]) (B := B ++ [e]) (fun x hx => by
      rcases List.mem_append.mp hx with q | q
      · exact List.mem_append.mpr (.inl (hab x q))
      · exact List.mem_append.mpr (.inr q)) (fun x hx => hL x (List.mem_cons_of_mem _ hx))
    rcases nL_step (E := A) he.1 he.2 with ⟨a1, a2⟩ | ⟨a1, a2⟩ <;> rcases nL_step (E := B) he.1 he.2 with ⟨b1, b2⟩ | ⟨b1, b2⟩
    · omega
    · exact absurd (a1.mono hab) b1
    · omega
    · omega
/-! forests -/
def NoRing (en : List (Nat × Nat)) (ns : List Nat) : Prop := ∀ k (h : k < ns.length), ¬ Gr.Reach (es en (ns.take k)) (en.getD ns[k] (0, 0)).1 (en.getD ns[k] (0, 0)).2
theorem nL_nil (v : Nat) : nL [] v = v := by
  have hr : ∀ {r w : Nat}, Gr.Reach ([] : List (Nat × Nat)) r w → w = r := fun {r w} h => by
    cases h with
    | refl => rfl
    | step _ a => rcases a with a | a <;> cases a
  have : Gr.leads ([] : List (Nat × Nat)) v = List.range v := List.filter_eq_self.mpr fun r _ => by
    exact @decide_eq_true _ (Classical.propDecidable _) fun w hw => by rw [hr hw]; exact Nat.le_refl _
  unfold nL
  rw [this, List.length_range]
theorem forest_take {en : List (Nat × Nat)} {v : Nat} {ns : List Nat} (ho : ∀ i ∈ ns, (en.getD i (0, 0)).1 < v ∧ (en.getD i (0, 0)).2 < v) : ∀ k, k ≤ ns.length → v ≤ k + nL (es en (ns.take k)) v ∧ ((∀ j (h : j < ns.length), j < k → ¬ Gr.Reach (es en (ns.take j)) (en.getD ns[j] (0, 0)).1 (en.getD ns[j] (0, 0)).2) ↔ k + nL (es en (ns.take k)) v = v)
  | 0, _ => by
    have : es en (ns.take 0) = [] := rfl
    rw [this, nL_nil]
    exact ⟨by omega, fun _ => by omega, fun _ j _ h => absurd h (by omega)⟩
  | k + 1, hk => by
    obtain ⟨i1, i2⟩ := forest_take ho k (by omega)
    have hkl : k < ns.length := hk
    have ht : ns.take (k + 1) = ns.take k ++ [ns[k]] := by rw [List.take_succ_eq_append_getElem hkl]
    have hok := ho _ (List.getElem_mem hkl)
    rw [ht, es_snoc]
    rcases nL_step (E := es en (ns.take k)) hok.1 hok.2 with ⟨a1, a2⟩ | ⟨a1, a2⟩
    · rw [a2]
      refine ⟨by omega, fun h => absurd a1 (h k hkl (by omega)), fun h => by omega⟩
    · refine ⟨by omega, fun h => ?_, fun h j hj hjk => ?_⟩
      · have := i2.mp fun j hj hjk => h j hj (by omega)
        omega
      · by_cases e : j = k
        · subst e; exact a1
        · exact i2.mpr (by omega) j hj (by omega)
theorem forest_iff {en : List (Nat × Nat)} {v : Nat} {ns : List Nat} (ho : ∀ i ∈ ns, (en.getD i (0, 0)).1 < v ∧ (en.getD i (0, 0)).2 < v) : NoRing en ns ↔ ns.length + nL (es en ns) v = v := by
  have := (forest_take ho ns.length (Nat.le_refl _)).2
  rw [List.take_length] at this
  exact ⟨fun h => this.mp fun j hj _ => h j hj, fun h j hj => this.mpr h j hj hj⟩
/-! the greedy forest -/
noncomputable def gstep (en : List (Nat × Nat)) (v : Nat) (found : List Nat) (i : Nat) : List Nat := if nL (es en (found ++ [i])) v + found.length < v then found ++ [i] else found
noncomputable def gr (en : List (Nat × Nat)) (v : Nat) (L : List Nat) : List Nat := L.foldl (gstep en v) []
theorem gr_snoc (en : List (Nat × Nat)) (v : Nat) (L : List Nat) (i : Nat) : gr en v (L ++ [i]) = gstep en v (gr en v L) i := by unfold gr; rw [List.foldl_append]; rfl
/-- what the greedy forest of L is -/
structure Gw (en : List (Nat × Nat)) (v : Nat) (L found : List Nat) : Prop where
  sub : ∀ k ∈ found, k ∈ L
  up : found.Pairwise (· < ·)
  rch : ∀ i ∈ L, Gr.Reach (es en found) (en.getD i (0, 0)).1 (en.getD i (0, 0)).2
  num : found.length + nL (es en found) v = v
theorem Gw.start (en : List (Nat × Nat)) (v : Nat) : Gw en v [] [] := ⟨fun k hk => absurd hk (by simp), List.Pairwise.nil, fun k hk => absurd hk (by simp), by show 0 + nL [] v = v; rw [nL_nil]; omega⟩
theorem Gw.step {en : List (Nat × Nat)} {v : Nat} {L found : List Nat} (h : Gw en v L found) {i : Nat} (h1 : (en.getD i (0, 0)).1 < v) (h2 : (en.getD i (0, 0)).2 < v) (hi : ∀ k ∈ L, k < i) : Gw en v (L ++ [i]) (gstep en v found i) := by
  have hn := h.num
  unfold gstep
  rcases nL_step (E := es en found) h1 h2 with ⟨a1, a2⟩ | ⟨a1, a2⟩
  · rw [← es_snoc] at a2
    rw [if_neg (by omega)]
    refine ⟨fun k hk => List.mem_append.mpr (.inl (h.sub k hk)), h.up, fun k hk => ?_, h.num⟩
    rcases List.mem_append.mp hk with q | q
    · exact h.rch k q
    · rw [List.mem_singleton.mp q]; exact a1
  · rw [← es_snoc] at a2
    rw [if_pos (by omega)]
    refine ⟨fun k hk => ?_, List.pairwise_append.mpr ⟨h.up, List.pairwise_singleton _ _, fun a ha b hb => ?_⟩, fun k hk => ?_, by rw [List.length_append, List.length_singleton]; omega⟩
    · rcases List.mem_append.mp hk with q | q
      · exact List.mem_append.mpr (.inl (h.sub k q))
      · exact List.mem_append.mpr (.inr q)
    · rw [List.mem_singleton.mp hb]; exact hi a (h.sub a ha)
    · rw [es_snoc]
      rcases List.mem_append.mp hk with q | q
      · exact Gr.reach_less (h.rch k q)
      · rw [List.mem_singleton.mp q]; exact Gr.reach_last
theorem Gw.nL_eq {en : List (Nat × Nat)} {v : Nat} {L found : List Nat} (h : Gw en v L found) : nL (es en found) v = nL (es en L) v := nL_congr (fun e he => by
    obtain ⟨i, hi, rfl⟩ := mem_es.mp he
    exact reach_edge (mem_es.mpr ⟨i, h.sub i hi, rfl⟩)) (fun e he => by
    obtain ⟨i, hi, rfl⟩ := mem_es.mp he
    exact h.rch i hi) v
theorem Gw.reach {en : List (Nat × Nat)} {v : Nat} {L found : List Nat} (h : Gw en v L found) (u w : Nat) : Gr.Reach (es en found) u w ↔ Gr.Reach (es en L) u w := ⟨reach_sub fun e he => by
    obtain ⟨i, hi, rfl⟩ := mem_es.mp he
    exact reach_edge (mem_es.mpr ⟨i, h.sub i hi, rfl⟩), reach_sub fun e he => by
    obtain ⟨i, hi, rfl⟩ := mem_es.mp he
    exact h.rch i hi⟩
/-- rising lists: the greedy forest -/
theorem gr_ok {en : List (Nat × Nat)} {v : Nat} : ∀ {L : List Nat}, L.Pairwise (· < ·) → (∀ i ∈ L, (en.getD i (0, 0)).1 < v ∧ (en.getD i (0, 0)).2 < v) → Gw en v L (gr en v L) := by
  intro L
  have key : ∀ k, k ≤ L.length → L.Pairwise (· < ·) → (∀ i ∈ L, (en.getD i (0, 0)).1 < v ∧ (en.getD i (0, 0)).2 < v) → Gw en v (L.take k) (gr en v (L.take k)) := by
    intro k
    induction k with
    | zero => intro _ _ _; exact Gw.start en v
    | succ k ih =>
      intro hk hp ho
      have hkl : k < L.length := hk
      rw [List.take_succ_eq_append_getElem hkl, gr_snoc]
      refine (ih (by omega) hp ho).step (ho _ (List.getElem_mem hkl)).1 (ho _ (List.getElem_mem hkl)).2 fun j hj => ?_
      obtain ⟨m, hm, rfl⟩ := List.mem_iff_getElem.mp hj
      rw [List.length_take] at hm
      rw [List.getElem_take]
      exact List.pairwise_iff_getElem.mp hp m k (by omega) hkl (by omega)
  intro hp ho
  have := key L.length (Nat.le_refl _) hp ho
  rwa [List.take_length] at this
/-- the greedy forest of the roads picked out -/
theorem gr_map {en en' : List (Nat × Nat)} {v : Nat} {f : Nat → Nat} {k : Nat} (hf : ∀ i, i < k → en'.getD i (0, 0) = en.getD (f i) (0, 0)) : ∀ {L : List Nat}, (∀ i ∈ L, i < k) → (gr en' v L).map f = gr en v (L.map f) ∧ ∀ i ∈ gr en' v L, i < k := by
  intro L
  have hes : ∀ l : List Nat, (∀ i ∈ l, i < k) → es en' l = es en (l.map f) := fun l hl => by
    unfold es
    rw [List.map_map]
    exact List.map_congr_left fun i hi => hf i (hl i hi)
  have key : ∀ m, m ≤ L.length → (∀ i ∈ L, i < k) → (gr en' v (L.take m)).map f = gr en v ((L.take m).map f) ∧ ∀ i ∈ gr en' v (L.take m), i < k := by
    intro m
    induction m with
    | zero => intro _ _; exact ⟨rfl, fun i hi => absurd hi (by simp [gr])⟩
    | succ m ih =>
      intro hm hL
      obtain ⟨i1, i2⟩ := ih (by omega) hL
      have hml : m < L.length := hm
      rw [List.take_succ_eq_append_getElem hml, gr_snoc, List.map_append, List.map_singleton, gr_snoc, ← i1]
      have hlt : ∀ i ∈ gr en' v (L.take m) ++ [L[m]], i < k := fun i hi => by
        rcases List.mem_append.mp hi with q | q
        · exact i2 i q
        · rw [List.mem_singleton.mp q]; exact hL _ (List.getElem_mem hml)
      unfold gstep
      have e1 : es en' (gr en' v (L.take m) ++ [L[m]]) = es en ((gr en' v (L.take m)).map f ++ [f L[m]]) := by
        rw [hes _ hlt, List.map_append, List.map_singleton]
      rw [e1, List.length_map]
      split
      · exact ⟨by rw [List.map_append, List.map_singleton], hlt⟩
      · exact ⟨rfl, i2⟩
  intro hL
  have := key L.length (Nat.le_refl _) hL
  rwa [List.take_length] at this
/-! a forest that is led on to all roads -/
structure Fw (en : List (Nat × Nat)) (v k : Nat) (found : List Nat) : Prop where
  up : found.Pairwise (· < ·)
  lt : ∀ i ∈ found, i < en.length
  num : found.length + nL (es en found) v = v
  rch : ∀ i, i < k → Gr.Reach (es en found) (en.getD i (0, 0)).1 (en.getD i (0, 0)).2
theorem Fw.step {en : List (Nat × Nat)} {v k : Nat} {found m : List Nat} (h : Fw en v k found) (hk : k < en.length) (ho : ∀ i, i < en.length → (en.getD i (0, 0)).1 < v ∧ (en.getD i (0, 0)).2 < v) (hm : m.Pairwise (· < ·)) (hmem : ∀ i, i ∈ m ↔ i ∈ found ∨ i = k) :
    (NoRing en m ∧ Fw en v (k + 1) m) ∨ (¬ NoRing en m ∧ Fw en v (k + 1) found) := by
  have hml : ∀ i ∈ m, i < en.length := fun i hi => by
    rcases (hmem i).mp hi with q | q
    · exact h.lt i q
    · omega
  have hnd : ∀ {l : List Nat}, l.Pairwise (· < ·) → l.Nodup := fun h => h.imp fun h => Nat.ne_of_lt h
  have hfi := forest_iff (en := en) (v := v) (ns := m) fun i hi => ho i (hml i hi)
  have hnum := h.num
  by_cases hkf : k ∈ found
  · have hsame : ∀ i, i ∈ m ↔ i ∈ found := fun i => by
      rw [hmem i]; exact ⟨fun q => q.elim id fun q => q ▸ hkf, .inl⟩
    have hperm := Gr.nodup_perm (hnd hm) (fun x hx => (hsame x).mp hx) (Gr.nodup_sub (hnd h.up) fun x hx => (hsame x).mpr hx)
    have hn : nL (es en m) v = nL (es en found) v := nL_same (es_mem_same hsame) v
    refine .inl ⟨hfi.mpr (by rw [hn, hperm.length_eq]; exact hnum), hm, hml, by rw [hn, hperm.length_eq]; exact hnum, fun i hi => ?_⟩
    have hr : ∀ u w, Gr.Reach (es en found) u w → Gr.Reach (es en m) u w := fun u w r => r.mono fun e he => (es_mem_same hsame e).mpr he
    by_cases q : i = k
    · subst q; exact hr _ _ (reach_edge (mem_es.mpr ⟨i, hkf, rfl⟩))
    · exact hr _ _ (h.rch i (by omega))
  · have hsame : ∀ i, i ∈ m ↔ i ∈ found ++ [k] := fun i => by rw [hmem i, List.mem_append, List.mem_singleton]
    have hnd2 : (found ++ [k]).Nodup := List.nodup_append.mpr ⟨hnd h.up, by simp, fun a ha b hb e => hkf (by rw [List.mem_singleton.mp hb] at e; exact e ▸ ha)⟩
    have hperm := Gr.nodup_perm (hnd hm) (fun x hx => (hsame x).mp hx) (Gr.nodup_sub hnd2 fun x hx => (hsame x).mpr hx)
    have hlen : m.length = found.length + 1 := by rw [hperm.length_eq, List.length_append, List.length_singleton]
    have hn : nL (es en m) v = nL (es en found ++ [en.getD k (0, 0)]) v := by rw [← es_snoc]; exact nL_same (es_mem_same hsame) v
    rcases nL_step (E := es en found) (ho k hk).1 (ho k hk).2 with ⟨a1, a2⟩ | ⟨a1, a2⟩
    · refine .inr ⟨fun z => by have := hfi.mp z; omega, h.up, h.lt, hnum, fun i hi => ?_⟩
      by_cases q : i = k
      · subst q; exact a1
      · exact h.rch i (by omega)
    · refine .inl ⟨hfi.mpr (by omega), hm, hml, by omega, fun i hi => ?_⟩
      by_cases q : i = k
      · subst q; exact reach_edge (mem_es.mpr ⟨i, (hmem i).mpr (.inr rfl), rfl⟩)
      · exact (h.rch i (by omega)).mono fun e he => by
          obtain ⟨j, hj, rfl⟩ := mem_es.mp he
          exact mem_es.mpr ⟨j, (hmem j).mpr (.inl hj), rfl⟩
theorem Fw.done {en : List (Nat × Nat)} {v : Nat} {found : List Nat} (h : Fw en v en.length found) : nL (es en found) v = nL (es en (List.range en.length)) v := nL_congr (fun e he => by
    obtain ⟨i, hi, rfl⟩ := mem_es.mp he
    exact reach_edge (mem_es.mpr ⟨i, List.mem_range.mpr (h.lt i hi), rfl⟩)) (fun e he => by
    obtain ⟨i, hi, rfl⟩ := mem_es.mp he
    exact h.rch i (List.mem_range.mp hi)) v
end Wk
end

section
set_option Elab.async false
set_option linter.all false
set_option maxRecDepth 100000
set_option maxHeartbeats 400000
/-! K24y: steps told without the states; ring_of, walk, ring, is_forest. -/
namespace Em
open PySem
/-- a def's value, from its body -/
theorem fn_d {P : Prog} {n f : Nat} {d : Def} {us : List Val} {F F' : List Cell} {p : D} (hd : P.fn f = some d) (hl : us.length = d.npar) (h : ∃ σ' s', evSs ⟨evF P n, P.glob, P.fuel⟩ F.length d.body (start d us) ⟨F, []⟩ = .ok (.rt (.val (.d p)), σ') s' ∧ s'.F.take F.length = F') :
    evF P (n + 1) f us [] F = .ok (.d p) ⟨F', []⟩ := by
  obtain ⟨σ', s', e, h2⟩ := h
  rw [evF_step hd hl, e]
  simp only [R.bd_ok, finish, h2]
theorem fn_l {P : Prog} {n f : Nat} {d : Def} {us : List Val} {F F' : List Cell} {c : Cell} (hd : P.fn f = some d) (hl : us.length = d.npar) (h : ∃ σ' s', evSs ⟨evF P n, P.glob, P.fuel⟩ F.length d.body (start d us) ⟨F, []⟩ = .ok (.rt (.new c), σ') s' ∧ s'.F.take F.length = F') :
    evF P (n + 1) f us [] F = .ok (.fl F.length) ⟨F' ++ [c], []⟩ := by
  obtain ⟨σ', s', e, h2⟩ := h
  rw [evF_step hd hl, e]
  simp only [R.bd_ok, finish, h2]
theorem fn_n {P : Prog} {n f : Nat} {d : Def} {us : List Val} {F F' : List Cell} (hd : P.fn f = some d) (hl : us.length = d.npar) (h : ∃ σ' s', evSs ⟨evF P n, P.glob, P.fuel⟩ F.length d.body (start d us) ⟨F, []⟩ = .ok (.nx, σ') s' ∧ s'.F.take F.length = F') :
    evF P (n + 1) f us [] F = .ok (.d .none) ⟨F', []⟩ := by
  obtain ⟨σ', s', e, h2⟩ := h
  rw [evF_step hd hl, e]
  simp only [R.bd_ok, finish, h2]
section
variable {c : Ctx} {n0 : Nat} {σ σ' : Env} {s s1 s2 : Sto}
theorem s_asgP {tg : Tg} {e : E} {p : D} (h : evE c e σ s = .ok (.d p) s1) (hp : tg.put p σ = some σ') : evS c n0 (.asg tg e) σ s = .ok (.nx, σ') s1 := by
  have hp : putVal tg (.d p) σ = some σ' := hp
  simp only [es_asg, h, R.bd_ok, hp]
theorem x_opd {o : Op2} {m : Mode} {a b : E} {p q r : D} (ha : evE c a σ s = .ok (.d p) s1) (hb : evE c b σ s1 = .ok (.d q) s2) (h : op2 o m p q s2 = .ok (.d r) s2) : evE c (.op o m a b) σ s = .ok (.d r) s2 := by
  rw [x_op ha hb, op2S_dd, h]
theorem x_is {a : E} {p : D} (ha : evE c a σ s = .ok (.d p) s1) : tst (evE c (.op .is .fr a (.k .none)) σ s) = .ok (isNone p) s1 := by
  apply x_tst
  rw [x_op ha x_k, op2S_dd]; cases p <;> rfl
theorem x_isNot' {a : E} {p : D} (ha : evE c a σ s = .ok (.d p) s1) : evE c (.op .isNot .fr a (.k .none)) σ s = .ok (.d (.bool (!isNone p))) s1 := by
  rw [x_op ha x_k, op2S_dd]; cases p <;> rfl
theorem x_isNot {a : E} {p : D} (ha : evE c a σ s = .ok (.d p) s1) : tst (evE c (.op .isNot .fr a (.k .none)) σ s) = .ok (!isNone p) s1 := x_tst (x_isNot' ha)
theorem x_isNot_t {a : E} {p : D} (ha : evE c a σ s = .ok (.d p) s1) (h : isNone p = false) : tst (evE c (.op .isNot .fr a (.k .none)) σ s) = .ok true s1 := by rw [x_isNot ha, h]; rfl
theorem x_isNot_f {a : E} {p : D} (ha : evE c a σ s = .ok (.d p) s1) (h : isNone p = true) : tst (evE c (.op .isNot .fr a (.k .none)) σ s) = .ok false s1 := by rw [x_isNot ha, h]; rfl
theorem x_is_t {a : E} {p : D} (ha : evE c a σ s = .ok (.d p) s1) (h : isNone p = true) : tst (evE c (.op .is .fr a (.k .none)) σ s) = .ok true s1 := by rw [x_is ha, h]
theorem x_is_f {a : E} {p : D} (ha : evE c a σ s = .ok (.d p) s1) (h : isNone p = false) : tst (evE c (.op .is .fr a (.k .none)) σ s) = .ok false s1 := by rw [x_is ha, h]
theorem x_addI {a b : E} {i j : Int} (ha : evE c a σ s = .ok (.d (.int i)) s1) (hb : evE c b σ s1 = .ok (.d (.int j)) s2) : evE c (.op .add .fr a b) σ s = .ok (.d (.int (i + j))) s2 := by rw [x_op ha hb]; rfl
theorem x_sl0 {a b : E} {l : List D} {k : Nat} (ha : evE c a σ s = .ok (.d (.tuple l)) s1) (hb : evE c b σ s1 = .ok (.d (.int (k : Int))) s2) : evE c (.sl .fr a none (some b)) σ s = .ok (.d (.tuple (Em.cut l none (some (k : Int))))) s2 := by
  simp only [ev_sl, ha, hb, R.bd_ok, evo_none, evo_some, slV, part, Sto.snapF]
/-- a for loop, each turn of which goes on or returns -/
theorem s_forX {tg : Tg} {it : E} {body : List S} {v : Val} {l : List D} (he : evE c it σ s = .ok v s1) (hn : ∀ (s : Sto) (i : Nat), nth s v i = some ((l[i]?).map Val.d)) (hz : l.length < c.fuel) (I : Nat → Env → Sto → Prop) (Q : Rv → Env → Sto → Prop) (h0 : I 0 σ s1)
    (step : ∀ i x σ s, l[i]? = some x → I i σ s → ∃ σ2, tg.put x σ = some σ2 ∧ ((∃ σ' s', evSs c n0 body σ2 s = .ok (.nx, σ') s' ∧ I (i + 1) σ' s') ∨ ∃ w σ' s', evSs c n0 body σ2 s = .ok (.rt w, σ') s' ∧ Q w σ' s')) :
    (∃ σ' s', evS c n0 (.for_ tg it body) σ s = .ok (.nx, σ') s' ∧ I l.length σ' s') ∨ ∃ w σ' s', evS c n0 (.for_ tg it body) σ s = .ok (.rt w, σ') s' ∧ Q w σ' s' := by
  have key : ∀ (k fuel i : Nat) (σ : Env) (s : Sto), i + k = l.length → k < fuel → I i σ s → (∃ σ' s', loopS (fun σ1 x s2 => match putVal tg x σ1 with
      | some σ2 => evSs c n0 body σ2 s2
      | none => .bad) v fuel i σ s = .ok (.nx, σ') s' ∧ I l.length σ' s') ∨ ∃ w σ' s', loopS (fun σ1 x s2 => match putVal tg x σ1 with
      | some σ2 => evSs c n0 body σ2 s2
      | none => .bad) v fuel i σ s = .ok (.rt w, σ') s' ∧ Q w σ' s' := by
    intro k
    induction k with
    | zero =>
      intro fuel i σ s hk hf hI
      cases fuel with
      | zero => omega
      | succ fuel =>
        have e : l[i]? = none := List.getElem?_eq_none_iff.mpr (by omega)
        refine .inl ⟨σ, s, ?_, by rw [← hk]; exact hI⟩
        rw [loopS, hn, e]; rfl
    | succ k ih =>
      intro fuel i σ s hk hf hI
      cases fuel with
      | zero => omega
      | succ fuel =>
        have hi : i < l.length := by omega
        have e : l[i]? = some l[i] := List.getElem?_eq_getElem hi
        obtain ⟨σ2, pv, h⟩ := step i l[i] σ s e hI
        have pv : putVal tg (.d l[i]) σ = some σ2 := pv
        rcases h with ⟨σ', s', e2, hI'⟩ | ⟨w, σ', s', e2, hq⟩
        · rcases ih fuel (i + 1) σ' s' (by omega) (by omega) hI' with ⟨σ3, s3, e3, h3⟩ | ⟨w, σ3, s3, e3, h3⟩
          · refine .inl ⟨σ3, s3, ?_, h3⟩
            rw [loopS, hn, e]
            simp only [Option.map_some, pv, e2, R.bd_ok]
            exact e3
          · refine .inr ⟨w, σ3, s3, ?_, h3⟩
            rw [loopS, hn, e]
            simp only [Option.map_some, pv, e2, R.bd_ok]
            exact e3
        · refine .inr ⟨w, σ', s', ?_, hq⟩
          rw [loopS, hn, e]
          simp only [Option.map_some, pv, e2, R.bd_ok]
  rcases key l.length c.fuel 0 σ s1 (by omega) hz h0 with ⟨σ', s', e, h⟩ | ⟨w, σ', s', e, h⟩
  · exact .inl ⟨σ', s', by simp only [es_for, he, R.bd_ok]; exact e, h⟩
  · exact .inr ⟨w, σ', s', by simp only [es_for, he, R.bd_ok]; exact e, h⟩
end
end Em
namespace Wk
open PySem Em
abbrev cx (k : Nat) : Em.Ctx := ⟨evF prog k, prog.glob, prog.fuel⟩
/-- a call that hands back a new thing of the store, kept there -/
theorem x_callC {n f : Nat} {σ : Em.Env} {s s1 : Sto} {es : List E} {vs : List Val} {c : Cell} (h : evEs ⟨evF prog n, prog.glob, prog.fuel⟩ es σ s = .ok vs s1) (ha : vs.all argOk = true) (he : evF prog n f vs [] s1.F = .ok (.fl s1.F.length) ⟨s1.F ++ [c], []⟩) : evE ⟨evF prog n, prog.glob, prog.fuel⟩ (.call f .fl es []) σ s = .ok (.fl s1.F.length) ⟨s1.F ++ [c], s1.N⟩ := by
  rw [x_call h ha]; show called _ _ (evF prog n f vs [] s1.F) = _; rw [he]; simp [called]
theorem natD_take (l : List Nat) (k : Nat) : (natD l).take k = natD (l.take k) := by unfold natD; rw [List.map_take]
section
variable {v : Nat} {rs : List D} {en : List (Nat × Nat)}
/-- ring_of -/
theorem ev22 (hS : Sh v rs en) (n : Nat) (F : List Cell) (hv : v ≤ 40) (ns : List Nat) (hn : ∀ i ∈ ns, i < en.length) (hz : ns.length ≤ 1000) :
    ∃ p, ((p = .none ∧ NoRing en ns) ∨ ((∃ l, p = .list l) ∧ ¬ NoRing en ns)) ∧ evF prog (n + 4) 22 [.d (shD v rs), .d (.tuple (natD ns))] [] F = .ok (.d p) ⟨F, []⟩ := by
  have hsm : sizeMax = 16777216 := rfl
  have hf : prog.fuel = 1000000 := rfl
  have e0 := x_enum (c := cx (n + 3)) (σ := [some (.d (shD v rs)), some (.d (.tuple (natD ns))), none, none, none, none, none]) (s := ⟨F, []⟩) (e := .v 1) (x_v rfl)
  have key := s_forX (c := cx (n + 3)) (n0 := F.length) (tg := .tup [.slot 2, .slot 3]) (body := [.asg (.tup [.slot 5, .slot 6]) (.call 13 .fr [.v 0, .v 3] []), .asg (.slot 4) (.dgt (.call 20 .fl [.v 0, .sl .fr (.v 1) none (some (.v 2)), .v 6] []) (.v 5) (.k (.none))), .ite (.op .isNot .fr (.v 4) (.k (.none))) [.ret (.op .add .fr (.lst .fr [.tup [.v 3, .v 6]]) (.v 4))] []]) e0 (fun _ _ => rfl) (by rw [List.length_map, List.length_zipIdx, natD_len]; show _ < prog.fuel; omega)
    (fun i σ s => (∃ a b c d e : Option Val, σ = [some (.d (shD v rs)), some (.d (.tuple (natD ns))), a, b, c, d, e]) ∧ (∃ G, s = ⟨F ++ G, []⟩) ∧ ∀ j (h : j < ns.length), j < i → ¬ Gr.Reach (es en (ns.take j)) (en.getD ns[j] (0, 0)).1 (en.getD ns[j] (0, 0)).2)
    (fun w σ s => (∃ G, s = ⟨F ++ G, []⟩) ∧ (∃ l, w = .val (.d (.list l))) ∧ ¬ NoRing en ns) ⟨⟨_, _, _, _, _, rfl⟩, ⟨[], by simp⟩, fun j _ h => absurd h (by omega)⟩ fun i x σ s hx hI => by
      obtain ⟨⟨a, b, c, d, e, rfl⟩, ⟨G, rfl⟩, hN⟩ := hI
      have hi : i < ns.length := by
        have := (List.getElem?_eq_some_iff.mp hx).1
        rwa [List.length_map, List.length_zipIdx, natD_len] at this
      have hx : x = .tuple [.int (i : Int), .int (ns[i] : Int)] := by
        rw [List.getElem?_map, List.getElem?_zipIdx] at hx
        unfold natD at hx
        rw [List.getElem?_map, List.getElem?_eq_getElem hi] at hx
        simp at hx
        exact hx.symm
      subst hx
      refine ⟨[some (.d (shD v rs)), some (.d (.tuple (natD ns))), some (.d (.int (i : Int))), some (.d (.int (ns[i] : Int))), c, d, e], rfl, ?_⟩
      have hm := hn _ (List.getElem_mem hi)
      have he : en.getD ns[i] (0, 0) = en[ns[i]] := getD_en hm
      have ho := es_ok hS (ns := [ns[i]]) (fun j hj => by rw [List.mem_singleton.mp hj]; exact hm) en[ns[i]] (by unfold es; rw [List.map_singleton, he]; simp)
      obtain ⟨ps, hP, hk, hpl, e20⟩ := ev20 hS n (F ++ G) en[ns[i]].2 (by have := ho.2; omega) hv (ns.take i) (fun j hj => hn j (List.mem_of_mem_take hj)) (by rw [List.length_take]; omega)
      have f1 : ∀ R, evSs (cx (n + 3)) F.length (.asg (.tup [.slot 5, .slot 6]) (.call 13 .fr [.v 0, .v 3] []) :: R) [some (.d (shD v rs)), some (.d (.tuple (natD ns))), some (.d (.int (i : Int))), some (.d (.int (ns[i] : Int))), c, d, e] ⟨F ++ G, []⟩ = evSs (cx (n + 3)) F.length R [some (.d (shD v rs)), some (.d (.tuple (natD ns))), some (.d (.int (i : Int))), some (.d (.int (ns[i] : Int))), c, some (.d (.int (en[ns[i]].1 : Int))), some (.d (.int (en[ns[i]].2 : Int)))] ⟨F ++ G, []⟩ := fun R =>
        ss_nx (s_asgP (x_callD (es_cons' (x_v rfl) (es_cons' (x_v rfl) es_nil')) rfl (ev13 hS (n + 2) (F ++ G) hm)) rfl)
      have hsl : evE (cx (n + 3)) (.sl .fr (.v 1) none (some (.v 2))) [some (.d (shD v rs)), some (.d (.tuple (natD ns))), some (.d (.int (i : Int))), some (.d (.int (ns[i] : Int))), c, some (.d (.int (en[ns[i]].1 : Int))), some (.d (.int (en[ns[i]].2 : Int)))] ⟨F ++ G, []⟩ = .ok (.d (.tuple (natD (ns.take i)))) ⟨F ++ G, []⟩ := by
        have := x_sl0 (c := cx (n + 3)) (σ := [some (.d (shD v rs)), some (.d (.tuple (natD ns))), some (.d (.int (i : Int))), some (.d (.int (ns[i] : Int))), c, some (.d (.int (en[ns[i]].1 : Int))), some (.d (.int (en[ns[i]].2 : Int)))]) (s := ⟨F ++ G, []⟩) (a := .v 1) (b := .v 2) (l := natD ns) (k := i) (x_v rfl) (x_v rfl)
        rw [cut_lo _ _ (by rw [natD_len]; omega), natD_take] at this
        exact this
      have c20 := x_callC (n := n + 3) (f := 20) (σ := [some (.d (shD v rs)), some (.d (.tuple (natD ns))), some (.d (.int (i : Int))), some (.d (.int (ns[i] : Int))), c, some (.d (.int (en[ns[i]].1 : Int))), some (.d (.int (en[ns[i]].2 : Int)))]) (s := ⟨F ++ G, []⟩) (es := [.v 0, .sl .fr (.v 1) none (some (.v 2)), .v 6]) (es_cons' (x_v rfl) (es_cons' hsl (es_cons' (x_v rfl) es_nil'))) rfl e20
      have hg := x_dgt (b := .v 5) (z := .k .none) (x := en[ns[i]].1) (p := .none) (ps := ps) c20 (x_v rfl) x_k (by simp)
      have hgk : (F ++ G) ++ [Cell.di (mkP ps)] = F ++ (G ++ [Cell.di (mkP ps)]) := by simp
      have f2 := s_asg (n0 := F.length) (i := 4) hg (by simp)
      by_cases hr : en[ns[i]].1 ∈ keys ps
      · right
        obtain ⟨W, hW, hgw⟩ := find_mem hr
        rw [hgw] at f2
        have hwl := (hP _ hW).2
        refine ⟨_, _, ⟨F ++ G ++ [Cell.di (mkP ps)], []⟩, (f1 _).trans ((ss_nx f2).trans ((ss_rt ((s_ite_t (x_isNot_t (x_v rfl) rfl)).trans (ss_rt (s_ret (x_addL (x_lst (vs := [.tuple [.int (ns[i] : Int), .int (en[ns[i]].2 : Int)]]) (es_cons' (x_tup (vs := [.int (ns[i] : Int), .int (en[ns[i]].2 : Int)]) (es_cons' (x_v rfl) (es_cons' (x_v rfl) es_nil'))) es_nil')) (x_v (v := .d (.list (pathD W))) rfl) (by unfold pathD; rw [List.length_map]; simp only [List.length_singleton]; have h1 : W.length ≤ ps.length := hwl; omega)))))))), ⟨G ++ [Cell.di (mkP ps)], by rw [hgk]⟩, ⟨_, rfl⟩, fun z => z i hi ?_⟩
        rw [he]
        have := (Gr.mem_comp.mp ((hk _).mp hr)).2
        exact this.symm
      · left
        have hnone : getK (mkP ps) (.inl (en[ns[i]].1 : Int)) = none := by
          have := has_mk ps en[ns[i]].1
          cases hq : getK (mkP ps) (.inl (en[ns[i]].1 : Int)) with
          | none => rfl
          | some q => rw [hq] at this; exact absurd (List.contains_iff_mem.mp this.symm) hr
        rw [hnone] at f2
        refine ⟨_, ⟨F ++ G ++ [Cell.di (mkP ps)], []⟩, (f1 _).trans ((ss_nx f2).trans ((ss_nx ((s_ite_f (x_isNot_f (x_v rfl) rfl)).trans ss_nil)).trans ss_nil)), ⟨_, _, _, _, _, rfl⟩, ⟨G ++ [Cell.di (mkP ps)], by rw [hgk]⟩, fun j hj hji => ?_⟩
        by_cases q : j = i
        · subst q
          intro z
          rw [he] at z
          exact hr ((hk _).mpr (Gr.mem_comp.mpr ⟨by have := ho.1; omega, z.symm⟩))
        · exact hN j hj (by omega)
  rcases key with ⟨σ', s', e, ⟨⟨a, b, c, d, e', rfl⟩, ⟨G, rfl⟩, hN⟩⟩ | ⟨w, σ', s', e, ⟨G, rfl⟩, ⟨l, rfl⟩, hN⟩
  · refine ⟨.none, .inl ⟨rfl, fun j hj => hN j hj (by rw [List.length_map, List.length_zipIdx, natD_len]; exact hj)⟩, fn_d rfl rfl ⟨_, _, (ss_nx e).trans (ss_rt (s_ret x_k)), by simp⟩⟩
  · exact ⟨.list l, .inr ⟨⟨l, rfl⟩, hN⟩, fn_d rfl rfl ⟨_, _, ss_rt e, by simp⟩⟩
end
end Wk
end

section
set_option Elab.async false
set_option linter.all false
set_option maxRecDepth 100000
set_option maxHeartbeats 400000
/-! K24z: comprehensions over numbers; the defs of stage 1 that k24 calls. -/
namespace Wk
open PySem Em
theorem fm_nat (p : Nat → Bool) (f : Nat → D) : ∀ ns : List Nat, (natD ns).filterMap (fun x => match x with | .int i => if p i.toNat = true then some (f i.toNat) else none | _ => none) = (ns.filter p).map f
  | [] => rfl
  | a :: r => by
    have ih := fm_nat p f r
    unfold natD at ih ⊢
    rw [List.map_cons, List.filter_cons]
    cases h : p a with
    | false => rw [List.filterMap_cons_none (by simp [h])]; simpa using ih
    | true => rw [List.filterMap_cons_some (b := f a) (by simp [h])]; simpa using ih
section
variable {c : Em.Ctx} {σ : Em.Env} {s s1 s2 : Sto}
/-- a comprehension over numbers -/
theorem x_lcN {elt it t : E} {j : Nat} {v : Val} {ns : List Nat} (hi : evE c it σ s = .ok v s1) (hv : Items v (natD ns)) (hj : j < σ.length) (hz : ns.length ≤ 1000) (hc : 1000 < c.fuel) (p : Nat → Bool) (f : Nat → D)
    (ht : ∀ i ∈ ns, tst (evE c t (σ.set j (some (.d (.int (i : Int))))) s1) = .ok (p i) s1) (he : ∀ i ∈ ns, p i = true → evE c elt (σ.set j (some (.d (.int (i : Int))))) s1 = .ok (.d (f i)) s1) :
    evE c (.lc .fr elt (.slot j) it (some t) [j]) σ s = .ok (.d (.list ((ns.filter p).map f))) s1 := by
  have hsm : sizeMax = 16777216 := rfl
  have key := lc_pure (fuel := c.fuel) (f := lcF c elt (.slot j) (some t) [j] σ) hv (s := s1) (fun x => match x with | .int i => if p i.toNat = true then some (f i.toNat) else none | _ => none) (fun x hx => by
    unfold natD at hx
    obtain ⟨i, hi, rfl⟩ := List.mem_map.mp hx
    have hpv : putVal (.slot j) (.d (.int (i : Int))) (Em.wipe σ [j]) = some (σ.set j (some (.d (.int (i : Int))))) := by
      simp [Em.wipe, hj]
    simp only [Int.toNat_natCast]
    unfold lcF
    rw [hpv]
    simp only [ht i hi, R.bd_ok]
    cases hp : p i with
    | false => rfl
    | true =>
      simp only [if_true, he i hi hp, R.bd_ok]
      rfl) (by rw [natD_len]; omega) (by rw [natD_len]; omega)
  rw [x_lc hi key, mkV_fr, fm_nat]
theorem x_lcN0 {elt it : E} {j : Nat} {v : Val} {ns : List Nat} (hi : evE c it σ s = .ok v s1) (hv : Items v (natD ns)) (hj : j < σ.length) (hz : ns.length ≤ 1000) (hc : 1000 < c.fuel) (f : Nat → D)
    (he : ∀ i ∈ ns, evE c elt (σ.set j (some (.d (.int (i : Int))))) s1 = .ok (.d (f i)) s1) :
    evE c (.lc .fr elt (.slot j) it none [j]) σ s = .ok (.d (.list (ns.map f))) s1 := by
  have hsm : sizeMax = 16777216 := rfl
  have key := lc_pure (fuel := c.fuel) (f := lcF c elt (.slot j) none [j] σ) hv (s := s1) (fun x => match x with | .int i => if (fun _ => true) i.toNat = true then some (f i.toNat) else none | _ => none) (fun x hx => by
    unfold natD at hx
    obtain ⟨i, hi, rfl⟩ := List.mem_map.mp hx
    have hpv : putVal (.slot j) (.d (.int (i : Int))) (Em.wipe σ [j]) = some (σ.set j (some (.d (.int (i : Int))))) := by
      simp [Em.wipe, hj]
    simp only [Int.toNat_natCast]
    rw [lcF_none hpv (he i hi)]
    rfl) (by rw [natD_len]; omega) (by rw [natD_len]; omega)
  rw [x_lc hi key, mkV_fr]
  have h := fm_nat (fun _ => true) f ns
  rw [List.filter_eq_self.mpr (by simp)] at h
  exact congrArg (fun l => R.ok (Val.d (.list l)) s1) h
theorem t_not_f {a : E} (ha : tst (evE c a σ s) = .ok true s1) : tst (evE c (.not a) σ s) = .ok false s1 := x_tst (x_not ha)
theorem t_not_t {a : E} (ha : tst (evE c a σ s) = .ok false s1) : tst (evE c (.not a) σ s) = .ok true s1 := x_tst (x_not ha)
theorem x_sl0' {a b : E} {l r : List D} {k : Int} (ha : evE c a σ s = .ok (.d (.tuple l)) s1) (hb : evE c b σ s1 = .ok (.d (.int k)) s2) (h : Em.cut l none (some k) = r) : evE c (.sl .fr a none (some b)) σ s = .ok (.d (.tuple r)) s2 := by
  subst h
  simp only [ev_sl, ha, hb, R.bd_ok, evo_none, evo_some, slV, part, Sto.snapF]
theorem okEq_inT (x : Nat) (l : List Nat) : okEq (.int (x : Int)) (.tuple (natD l)) = true := by
  unfold okEq
  rw [shaped_tupN]; rfl
theorem x_notInT {a b : E} {x : Nat} {l : List Nat} (ha : evE c a σ s = .ok (.d (.int (x : Int))) s1) (hb : evE c b σ s1 = .ok (.d (.tuple (natD l))) s2) : evE c (.op .notIn .fr a b) σ s = .ok (.d (.bool (!l.contains x))) s2 := by
  rw [x_op ha hb, op2S_dd]
  have e : op2 .notIn .fr (.int (x : Int)) (.tuple (natD l)) s2 = (match (if okEq (.int (x : Int)) (.tuple (natD l)) = true then some (PyData.bool (!(natD l).any fun z => PyData.eqv z (.int (x : Int)))) else none) with | some p => R.ok (Val.d p) s2 | none => .bad) := rfl
  rw [e, if_pos (okEq_inT x l)]
  show R.ok (Val.d (.bool (!(natD l).any fun z => PyData.eqv z (.int (x : Int))))) s2 = _
  rw [in_natD]
theorem x_isInT {a b : E} {x : Nat} {l : List Nat} (ha : evE c a σ s = .ok (.d (.int (x : Int))) s1) (hb : evE c b σ s1 = .ok (.d (.tuple (natD l))) s2) : evE c (.op .isIn .fr a b) σ s = .ok (.d (.bool (l.contains x))) s2 := by
  rw [x_op ha hb, op2S_dd, op_inT, if_pos (okEq_inT x l), in_natD]
/-- sorted(set(t)) -/
theorem x_ssetT {e : E} {l m : List Nat} (h : evE c e σ s = .ok (.d (.tuple (natD l))) s1) (hz : l.length ≤ 60) (hs : m.Pairwise (· < ·)) (hm : ∀ i, i ∈ m ↔ i ∈ l) : evE c (.bi .sset .fr [e]) σ s = .ok (.d (.list (natD m))) s1 := by
  rw [x_bi (es_cons' h es_nil')]
  have hq : ssetI (l.map fun (i : Nat) => (i : Int)) = m.map fun (i : Nat) => (i : Int) := by
    refine sorted_unique (sset_sorted _) ?_ fun k => ?_
    · rw [List.pairwise_map]; exact hs.imp fun h => by omega
    · rw [sset_mem, List.mem_map, List.mem_map]
      exact ⟨fun ⟨i, a, b⟩ => ⟨i, (hm i).mpr a, b⟩, fun ⟨i, a, b⟩ => ⟨i, (hm i).mp a, b⟩⟩
  have e1 : biL1 .sset (.tuple (natD l)) = some (natD m) := by
    show (match intsOf (natD l) with | some ns => if ns.length ≤ 60 then some ((ssetI ns).map PyData.int) else none | none => none) = _
    rw [intsOf_natD]
    simp only [List.length_map, if_pos hz, hq]
    rw [← natD_ints]
  simp only [biS, stillB, snaps, Sto.see, Sto.capt, Sto.snapF, deepB, bi, biL, e1, mkL, Bool.false_eq_true, if_false]
theorem x_tupleA {m : Mode} {e : E} {l : List D} (h : evE c e σ s = .ok (.d (.list l)) s1) : evE c (.bi .tuple m [e]) σ s = .ok (.d (.tuple l)) s1 := x_tupleM h
theorem x_lenN {e : E} {l : List Nat} (h : evE c e σ s = .ok (.d (.tuple (natD l))) s1) : evE c (.bi .len .fr [e]) σ s = .ok (.d (.int (l.length : Int))) s1 := x_lenD h (.inr ⟨_, rfl, natD_len l⟩)
theorem x_eqI' {a b : E} {i j : Int} (ha : evE c a σ s = .ok (.d (.int i)) s1) (hb : evE c b σ s1 = .ok (.d (.int j)) s2) : evE c (.op .eq .fr a b) σ s = .ok (.d (.bool (i == j))) s2 := by
  rw [x_op ha hb, op2S_dd, op_eqD, if_pos (okEq_int i j), eqv_int]
theorem x_neI' {a b : E} {i j : Int} (ha : evE c a σ s = .ok (.d (.int i)) s1) (hb : evE c b σ s1 = .ok (.d (.int j)) s2) : evE c (.op .ne .fr a b) σ s = .ok (.d (.bool (!(i == j)))) s2 := by
  rw [x_op ha hb, op2S_dd, op_neD, if_pos (okEq_int i j), eqv_int]
theorem x_intB {m : Mode} {e : E} {b : Bool} (h : evE c e σ s = .ok (.d (.bool b)) s1) : evE c (.bi .int m [e]) σ s = .ok (.d (.int (if b = true then 1 else 0))) s1 := by
  rw [x_bi (es_cons' h es_nil')]; rfl
end
/-- a good shire -/
structure Gd (v : Nat) (rs : List D) (en : List (Nat × Nat)) : Prop where
  S : Sh v rs en
  hs : headOk (shD v rs) = true
  h : isShire (shD v rs) = true
  hv : v ≤ 10
  hz : en.length ≤ 30
section
variable {v : Nat} {rs : List D} {en : List (Nat × Nat)}
theorem Gd.w7 (g : Gd v rs en) {n : Nat} (F : List Cell) : evF prog (n + 5) 7 [.d (shD v rs)] [] F = .ok (.d .none) ⟨F, []⟩ := ev7' n F g.hs g.h
theorem up_len {ns : List Nat} {k : Nat} (hu : ns.Pairwise (· < ·)) (hn : ∀ i ∈ ns, i < k) : ns.length ≤ k := nodup_len k ns (hu.imp fun h => Nat.ne_of_lt h) hn
theorem Gd.w10 (g : Gd v rs en) {n : Nat} (F : List Cell) {ns : List Nat} (hu : ns.Pairwise (· < ·)) (hn : ∀ i ∈ ns, i < en.length) : evF prog (n + 4) 10 [.d (shD v rs), .d (.tuple (natD ns))] [] F = .ok (.d .none) ⟨F, []⟩ :=
  ev10' n F (szOk_natD (by have := up_len hu hn; have := g.hz; omega)) (lot_natD hu fun i hi => by rw [g.S.1]; exact hn i hi)
/-- want_village -/
theorem Gd.w9 (g : Gd v rs en) {n : Nat} (F : List Cell) {u : Nat} (hu : u < v) : evF prog (n + 4) 9 [.d (shD v rs), .d (.int (u : Int))] [] F = .ok (.d .none) ⟨F, []⟩ := by
  have hw : within (.int (u : Int)) 0 ((v : Int) - 1) = true := by
    unfold within
    simp only [isI, Bool.true_and]
    have h1 : ((0 : Int) ≤ (u : Int)) := by omega
    have h2 : ((u : Int) ≤ (v : Int) - 1) := by omega
    simp [h1, h2]
  have e8 : evF prog (n + 3) 8 [.d (shD v rs), .d (.int (u : Int))] [] F = .ok (.d (.bool true)) ⟨F, []⟩ := by
    have e1 := ev1 n (.int (u : Int)) 0 ((v : Int) - 1) F
    rw [hw] at e1
    exact fn_d rfl rfl ⟨_, _, ss_rt (s_ret (x_callD (m := .fl) (es_cons' (x_v rfl) (es_cons' x_k (es_cons' (x_subI (x_ix (x_v rfl) x_k rfl (p_v rs)) x_k) es_nil'))) rfl e1)), by simp⟩
  exact fn_n rfl rfl ⟨_, _, (ss_nx ((s_ite_f (t_not_f (x_tst (x_callD (es_cons' (x_v rfl) (es_cons' (x_v rfl) es_nil')) rfl e8)))).trans ss_nil)).trans ss_nil, by simp⟩
/-- walk: whether there is one -/
theorem Gd.walk (g : Gd v rs en) (n : Nat) (F : List Cell) {ns : List Nat} (hu : ns.Pairwise (· < ·)) (hn : ∀ i ∈ ns, i < en.length) {a b : Nat} (ha : a < v) (hb : b < v) :
    ∃ p, (isNone p = false ↔ Gr.Reach (es en ns) a b) ∧ evF prog (n + 6) 24 [.d (shD v rs), .d (.tuple (natD ns)), .d (.int (a : Int)), .d (.int (b : Int))] [] F = .ok (.d p) ⟨F, []⟩ := by
  have hl := up_len hu hn
  obtain ⟨ps, hP, hk, hpl, e20⟩ := ev20 g.S (n + 2) F a ha (by have := g.hv; omega) ns hn (by have := g.hz; omega)
  have e : evF prog (n + 6) 24 [.d (shD v rs), .d (.tuple (natD ns)), .d (.int (a : Int)), .d (.int (b : Int))] [] F = .ok (.d ((getK (mkP ps) (.inl (b : Int))).getD .none)) ⟨F, []⟩ :=
    fn_d rfl rfl ⟨_, ⟨F ++ [.di (mkP ps)], []⟩, (ss_nx (s_expr (x_callD (es_cons' (x_v rfl) es_nil') rfl (g.w7 F)))).trans ((ss_nx (s_expr (x_callD (es_cons' (x_v rfl) (es_cons' (x_v rfl) es_nil')) rfl (g.w10 (n := n + 1) F hu hn)))).trans
      ((ss_nx (s_expr (x_callD (es_cons' (x_v rfl) (es_cons' (x_v rfl) es_nil')) rfl (g.w9 (n := n + 1) F ha)))).trans ((ss_nx (s_expr (x_callD (es_cons' (x_v rfl) (es_cons' (x_v rfl) es_nil')) rfl (g.w9 (n := n + 1) F hb)))).trans
      (ss_rt (s_ret (x_dgt (x_callC (es_cons' (x_v rfl) (es_cons' (x_v rfl) (es_cons' (x_v rfl) es_nil'))) rfl e20) (x_v rfl) x_k (by simp))))))), by simp⟩
  refine ⟨_, ?_, e⟩
  have hm := has_mk ps b
  have hbk : b ∈ keys ps ↔ Gr.Reach (es en ns) a b := by rw [hk, Gr.mem_comp]; exact ⟨fun h => h.2, fun h => ⟨hb, h⟩⟩
  rw [← hbk]
  by_cases hb' : b ∈ keys ps
  · obtain ⟨w, hw, hg⟩ := find_mem hb'
    rw [hg]
    exact ⟨fun _ => hb', fun _ => rfl⟩
  · cases hq : getK (mkP ps) (.inl (b : Int)) with
    | none => exact ⟨fun h => absurd h (by simp [isNone]), fun h => absurd h hb'⟩
    | some q => rw [hq] at hm; exact absurd (List.contains_iff_mem.mp hm.symm) hb'
/-- ring -/
theorem Gd.ring (g : Gd v rs en) (n : Nat) (F : List Cell) {ns : List Nat} (hu : ns.Pairwise (· < ·)) (hn : ∀ i ∈ ns, i < en.length) :
    ∃ p, (isNone p = true ↔ NoRing en ns) ∧ evF prog (n + 6) 25 [.d (shD v rs), .d (.tuple (natD ns))] [] F = .ok (.d p) ⟨F, []⟩ := by
  have hl := up_len hu hn
  obtain ⟨p, hp, e22⟩ := ev22 g.S (n + 1) F (by have := g.hv; omega) ns hn (by have := g.hz; omega)
  refine ⟨p, ?_, fn_d rfl rfl ⟨_, ⟨F, []⟩, (ss_nx (s_expr (x_callD (es_cons' (x_v rfl) es_nil') rfl (g.w7 F)))).trans ((ss_nx (s_expr (x_callD (es_cons' (x_v rfl) (es_cons' (x_v rfl) es_nil')) rfl (g.w10 (n := n + 1) F hu hn)))).trans
    (ss_rt (s_ret (x_callD (es_cons' (x_v rfl) (es_cons' (x_v rfl) es_nil')) rfl e22)))), by simp⟩⟩
  rcases hp with ⟨rfl, h⟩ | ⟨⟨l, rfl⟩, h⟩
  · exact ⟨fun _ => h, fun _ => rfl⟩
  · exact ⟨fun z => Bool.noConfusion z, fun z => absurd z h⟩
/-- is_forest, of a rising lot -/
theorem Gd.isf (g : Gd v rs en) (n : Nat) (F : List Cell) {ns : List Nat} (hu : ns.Pairwise (· < ·)) (hn : ∀ i ∈ ns, i < en.length) (hf : ns.length + nL (es en ns) v = v) :
    evF prog (n + 7) 26 [.d (shD v rs), .d (.tuple (natD ns))] [] F = .ok (.d (.bool true)) ⟨F, []⟩ := by
  have hl := up_len hu hn
  have hz := g.hz
  have e18 := ev18 g.S n F (by have := g.hv; omega) ns hn (by omega)
  have e21 : evF prog (n + 6) 21 [.d (shD v rs), .d (.tuple (natD ns))] [] F = .ok (.d (.bool true)) ⟨F, []⟩ := by
    have ex := x_eqI' (x_callD (n := n + 5) (f := 18) (m := .fr) (σ := [some (.d (shD v rs)), some (.d (.tuple (natD ns)))]) (s := ⟨F, []⟩) (es := [.v 0, .v 1]) (es_cons' (x_v rfl) (es_cons' (x_v rfl) es_nil')) rfl e18) (x_lenN (e := .v 1) (x_v rfl))
    have hb : (((v : Int) - (nL (es en ns) v : Int)) == (ns.length : Int)) = true := by
      rw [beq_iff_eq]; omega
    rw [hb] at ex
    exact fn_d rfl rfl ⟨_, _, ss_rt (s_ret ex), by simp⟩
  have e4 := ev4 (n + 3) (.tuple (natD ns)) (rs.length : Int) F (szOk_natD (by omega))
  rw [lot_natD hu fun i hi => by rw [g.S.1]; exact hn i hi] at e4
  exact fn_d rfl rfl ⟨_, ⟨F, []⟩, (ss_nx (s_expr (x_callD (es_cons' (x_v rfl) es_nil') rfl (g.w7 (n := n + 1) F)))).trans
    (ss_rt (s_ret ((x_and_t (x_tst (x_callD (es_cons' (x_v rfl) (es_cons' (x_lenD (x_ix (x_v rfl) x_k rfl (p_r rs)) (.inr ⟨_, rfl, rfl⟩)) es_nil')) rfl e4))).trans (x_callD (es_cons' (x_v rfl) (es_cons' (x_v rfl) es_nil')) rfl e21)))), by simp⟩
/-- grown, the greedy forest -/
theorem Gd.grown (g : Gd v rs en) (n : Nat) (F : List Cell) {L : List Nat} (hu : L.Pairwise (· < ·)) (hn : ∀ i ∈ L, i < en.length) :
    evF prog (n + 6) 23 [.d (shD v rs), .d (.tuple (natD L))] [] F = .ok (.d (.tuple (natD (gr en v L)))) ⟨F, []⟩ := by
  have hl := up_len hu hn
  have hz := g.hz
  have hv := g.hv
  have hsm : sizeMax = 16777216 := rfl
  have hf : prog.fuel = 1000000 := rfl
  have ok : ∀ k, Gw en v (L.take k) (gr en v (L.take k)) := fun k => gr_ok (hu.sublist (List.take_sublist k L)) fun i hi => en_lt g.S (hn i (List.mem_of_mem_take hi))
  obtain ⟨σ', s', f2, r, rfl, rfl⟩ := s_forN (c := cx (n + 5)) (n0 := F.length) (tg := .slot 3) (body := bod29) (it := .v 1) (σ := [some (.d (shD v rs)), some (.d (.tuple (natD L))), some (.d (.tuple [])), none]) (s := ⟨F, []⟩) (x_v rfl) (items_tup (natD L)) (by show _ < prog.fuel; omega)
    (fun i σ s => ∃ r : Option Val, σ = [some (.d (shD v rs)), some (.d (.tuple (natD L))), some (.d (.tuple (natD (gr en v (L.take i))))), r] ∧ s = ⟨F, []⟩) ⟨none, rfl, rfl⟩ fun i hi σ s hI => by
      obtain ⟨r, rfl, rfl⟩ := hI
      have hk := ok i
      have hlen : (gr en v (L.take i)).length ≤ 30 := by
        have := up_len hk.up (fun j hj => hn j (List.mem_of_mem_take (hk.sub j hj)))
        omega
      have ht : L.take (i + 1) = L.take i ++ [L[i]] := by rw [List.take_succ_eq_append_getElem hi]
      have ea : ∀ s, evE (cx (n + 5)) (.op .add .fr (.v 2) (.tup [.v 3])) [some (.d (shD v rs)), some (.d (.tuple (natD L))), some (.d (.tuple (natD (gr en v (L.take i))))), some (.d (.int (L[i] : Int)))] s = .ok (.d (.tuple (natD (gr en v (L.take i) ++ [L[i]])))) s := fun s => by
        rw [← natD_snoc]
        exact x_addT (x_v rfl) (x_tup (vs := [.int (L[i] : Int)]) (es_cons' (x_v rfl) es_nil')) (by rw [natD_len]; simp only [List.length_singleton]; omega)
      have e18 := ev18 g.S n F (by omega) (gr en v (L.take i) ++ [L[i]]) (fun j hj => by
        rcases List.mem_append.mp hj with q | q
        · exact hn j (List.mem_of_mem_take (hk.sub j q))
        · rw [List.mem_singleton.mp q]; exact hn _ (List.getElem_mem hi)) (by rw [List.length_append]; simp only [List.length_singleton]; omega)
      have et := x_gtI (x_callD (n := n + 5) (f := 18) (m := .fr) (σ := [some (.d (shD v rs)), some (.d (.tuple (natD L))), some (.d (.tuple (natD (gr en v (L.take i))))), some (.d (.int (L[i] : Int)))]) (s := ⟨F, []⟩) (es := [.v 0, .op .add .fr (.v 2) (.tup [.v 3])]) (es_cons' (x_v rfl) (es_cons' (ea _) es_nil')) rfl e18) (x_lenN (e := .v 2) (l := gr en v (L.take i)) (x_v rfl))
      refine ⟨[some (.d (shD v rs)), some (.d (.tuple (natD L))), some (.d (.tuple (natD (gr en v (L.take i))))), some (.d (.int (L[i] : Int)))], ?_⟩
      by_cases q : nL (es en (gr en v (L.take i) ++ [L[i]])) v + (gr en v (L.take i)).length < v
      · rw [decide_eq_true (by omega)] at et
        refine ⟨_, _, rfl, (ss_nx ((s_ite_t et).trans ((ss_nx (s_asg (ea _) (by simp))).trans ss_nil))).trans ss_nil, some (.d (.int (L[i] : Int))), ?_, rfl⟩
        rw [ht, gr_snoc]
        unfold gstep
        rw [if_pos q]; rfl
      · rw [decide_eq_false (by omega)] at et
        refine ⟨_, _, rfl, (ss_nx ((s_ite_f et).trans ss_nil)).trans ss_nil, some (.d (.int (L[i] : Int))), ?_, rfl⟩
        rw [ht, gr_snoc]
        unfold gstep
        rw [if_neg q]
  rw [List.take_length] at f2
  have hk := ok L.length
  rw [List.take_length] at hk
  have hlen : (gr en v L).length ≤ 30 := by
    have := up_len hk.up (fun j hj => hn j (hk.sub j hj))
    omega
  have e3 := x_tuple (x_sorted (c := cx (n + 5)) (σ := [some (.d (shD v rs)), some (.d (.tuple (natD L))), some (.d (.tuple (natD (gr en v L)))), r]) (s := ⟨F, []⟩) (e := .v 2) (p := .tuple (natD (gr en v L))) (x_v rfl) rfl (sortOk_natD _ (by omega)))
  rw [isort_up hk.up] at e3
  exact fn_d rfl rfl ⟨_, _, (ss_nx (s_asg (x_tup (vs := []) es_nil') (by simp [Em.start, d23]))).trans ((ss_nx f2).trans (ss_rt (s_ret e3))), by simp⟩
/-- first_forest -/
theorem Gd.first (g : Gd v rs en) (n : Nat) (F : List Cell) : evF prog (n + 7) 27 [.d (shD v rs)] [] F = .ok (.d (.tuple (natD (gr en v (List.range en.length))))) ⟨F, []⟩ := by
  have e11 := ev11 (v := v) (rs := rs) (n + 5) F (by rw [g.S.1]; have := g.hz; omega)
  rw [g.S.1] at e11
  exact fn_d rfl rfl ⟨_, ⟨F, []⟩, (ss_nx (s_expr (x_callD (es_cons' (x_v rfl) es_nil') rfl (g.w7 (n := n + 1) F)))).trans (ss_rt (s_ret (x_callD (es_cons' (x_v rfl) (es_cons' (x_callD (es_cons' (x_v rfl) es_nil') rfl e11) es_nil')) rfl (g.grown n F List.pairwise_lt_range fun i hi => List.mem_range.mp hi)))), by simp⟩
/-- the roads at some places -/
def pickR (rs : List D) (ns : List Nat) : List D := ns.map fun i => rs.getD i .none
theorem pick_sh (hS : Sh v rs en) {ns : List Nat} (hn : ∀ i ∈ ns, i < en.length) : Sh v (pickR rs ns) (ns.map fun i => en.getD i (0, 0)) := by
  refine ⟨by unfold pickR; rw [List.length_map, List.length_map], fun i hi => ?_⟩
  rw [List.length_map] at hi
  have hm := hn _ (List.getElem_mem hi)
  obtain ⟨x, y, e, h1, h2⟩ := hS.2 _ hm
  refine ⟨x, y, ?_, ?_⟩
  · unfold pickR
    rw [List.getElem?_map, List.getElem?_eq_getElem hi, Option.map_some, List.getD_eq_getElem?_getD, e]
    simp only [List.getElem_map, getD_en hm]
    rfl
  · simp only [List.getElem_map, getD_en hm]
    exact ⟨h1, h2⟩
/-- without -/
theorem Gd.without (g : Gd v rs en) (n : Nat) (F : List Cell) {ns : List Nat} (hu : ns.Pairwise (· < ·)) (hn : ∀ i ∈ ns, i < en.length) :
    evF prog (n + 6) 30 [.d (shD v rs), .d (.tuple (natD ns))] [] F = .ok (.d (shD v (pickR rs ((List.range en.length).filter fun i => !ns.contains i)))) ⟨F, []⟩ := by
  have hz := g.hz
  have hf : prog.fuel = 1000000 := rfl
  have hsm : sizeMax = 16777216 := rfl
  have e11 := ev11 (v := v) (rs := rs) (n + 3) F (by rw [g.S.1]; omega)
  rw [g.S.1] at e11
  have hlc := x_lcN (c := cx (n + 4)) (σ := [some (.d (shD v rs)), some (.d (.tuple (natD ns))), none]) (s := ⟨F, []⟩) (it := .call 11 .fr [.v 0] []) (elt := .ix (.ix (.v 0) (.k (.int 2))) (.v 2)) (t := .op .notIn .fr (.v 2) (.v 1)) (j := 2) (ns := List.range en.length)
    (x_callD (es_cons' (x_v rfl) es_nil') rfl e11) (items_tup _) (by simp) (by rw [List.length_range]; omega) (by show _ < prog.fuel; omega) (fun i => !ns.contains i) (fun i => rs.getD i .none) (fun i _ => x_tst (x_notInT (x_v rfl) (x_v rfl))) (fun i hi _ => by
      have hi := List.mem_range.mp hi
      refine x_ix (x_ix (x_v rfl) x_k rfl (p_r rs)) (x_v rfl) rfl ?_
      rw [atD_nat rs i (by rw [g.S.1]; exact hi), List.getD_eq_getElem?_getD, List.getElem?_eq_getElem (by rw [g.S.1]; exact hi)]
      rfl)
  have e28 : evF prog (n + 4) 28 [.d (shD v rs), .d (.list (pickR rs ((List.range en.length).filter fun i => !ns.contains i)))] [] F = .ok (.d (shD v (pickR rs ((List.range en.length).filter fun i => !ns.contains i)))) ⟨F, []⟩ :=
    fn_d rfl rfl ⟨_, _, ss_rt (s_ret (x_addT (x := [.str shireS, .int (v : Int)]) (x_sl0' (x_v rfl) x_k rfl) (x_tup (vs := [.tuple _]) (es_cons' (x_tupleA (x_v rfl)) es_nil')) (by simp only [List.length_cons, List.length_nil]; omega))), by simp⟩
  have e29 : evF prog (n + 5) 29 [.d (shD v rs), .d (.tuple (natD ns))] [] F = .ok (.d (shD v (pickR rs ((List.range en.length).filter fun i => !ns.contains i)))) ⟨F, []⟩ :=
    fn_d rfl rfl ⟨_, _, ss_rt (s_ret (x_callD (es_cons' (x_v rfl) (es_cons' hlc es_nil')) rfl e28)), by simp⟩
  exact fn_d rfl rfl ⟨_, ⟨F, []⟩, (ss_nx (s_expr (x_callD (es_cons' (x_v rfl) es_nil') rfl (g.w7 F)))).trans ((ss_nx (s_expr (x_callD (es_cons' (x_v rfl) (es_cons' (x_v rfl) es_nil')) rfl (g.w10 (n := n + 1) F hu hn)))).trans
    (ss_rt (s_ret (x_callD (es_cons' (x_v rfl) (es_cons' (x_v rfl) es_nil')) rfl e29)))), by simp⟩
end
end Wk
end

section
set_option Elab.async false
set_option linter.all false
set_option maxRecDepth 100000
set_option maxHeartbeats 400000
/-! K24A: _law_right, the law. -/
namespace Wk
open PySem Em
/-- what l has, rising -/
def upOf (N : Nat) (l : List Nat) : List Nat := (List.range N).filter fun i => l.contains i
theorem upOf_up (N : Nat) (l : List Nat) : (upOf N l).Pairwise (· < ·) := List.pairwise_lt_range.filter _
theorem upOf_lt {N : Nat} {l : List Nat} : ∀ i ∈ upOf N l, i < N := fun i hi => List.mem_range.mp (List.mem_filter.mp hi).1
theorem mem_upOf {N : Nat} {l : List Nat} (h : ∀ i ∈ l, i < N) (i : Nat) : i ∈ upOf N l ↔ i ∈ l := by
  unfold upOf
  rw [List.mem_filter, List.mem_range, List.contains_iff_mem]
  exact ⟨fun h => h.2, fun q => ⟨h i q, q⟩⟩
def eR (j : Nat) (sh : D) (road both whole found rest near : Option Val) (every one other : List Nat) (late joined at_ : Option Val) : Em.Env :=
  [some (.fl j), some (.d sh), road, both, whole, found, rest, near, some (.d (.tuple (natD every))), some (.d (.tuple (natD one))), some (.d (.tuple (natD other))), late, joined, at_]
def bodA : List S := [.asg (.slot 11) (.bi .tuple .fr [.bi .sset .fr [.op .add .fr (.v 9) (.tup [.v 2])]]), .asg (.slot 12) (.op .isNot .fr (.call 24 .fr [.v 1, .v 9, .ix (.ix (.ix (.v 1) (.k (.int 2))) (.v 2)) (.k (.int 0)), .ix (.ix (.ix (.v 1) (.k (.int 2))) (.v 2)) (.k (.int 1))] []) (.k (.none))), .ite (.op .ne .fr (.call 35 .fr [.v 1, .v 11] []) (.op .add .fr (.call 35 .fr [.v 1, .v 9] []) (.bi .int .fr [.not (.v 12)]))) [.ret (.k (.bool false))] []]
def bodC : List S := [.ite (.op .is .fr (.call 25 .fr [.v 1, .bi .tuple .fr [.bi .sorted .fr [.op .add .fr (.v 5) (.tup [.v 2])]]] []) (.k (.none))) [.asg (.slot 5) (.op .add .fr (.v 5) (.tup [.v 2]))] []]
def bodD : List S := [.ite (.op .is .fr (.call 25 .fr [.v 1, .bi .tuple .fr [.bi .sset .fr [.op .add .fr (.v 5) (.tup [.v 2])]]] []) (.k (.none))) [.asg (.slot 5) (.bi .tuple .fr [.bi .sset .fr [.op .add .fr (.v 5) (.tup [.v 2])]])] []]
section
variable {v : Nat} {rs : List D} {en : List (Nat × Nat)}
theorem Gd.rank (g : Gd v rs en) (n : Nat) (F : List Cell) {ns : List Nat} (hu : ns.Pairwise (· < ·)) (hn : ∀ i ∈ ns, i < en.length) :
    evF prog (n + 7) 35 [.d (shD v rs), .d (.tuple (natD ns))] [] F = .ok (.d (.int ((v : Int) - (nL (es en ns) v : Int)))) ⟨F, []⟩ :=
  ev35 g.S g.hs g.h n F (by have := g.hv; omega) ns hn hu (by have := up_len hu hn; have := g.hz; omega)
theorem Gd.along (g : Gd v rs en) (n : Nat) (F : List Cell) {ns : List Nat} (hu : ns.Pairwise (· < ·)) (hn : ∀ i ∈ ns, i < en.length) :
    evF prog (n + 6) 19 [.d (shD v rs), .d (.tuple (natD ns))] [] F = .ok (.fl F.length) ⟨F ++ [.li ((Gr.pieces (es en ns) v).map tupN)], []⟩ :=
  ev19 g.S g.hs g.h n F (by have := g.hv; omega) ns hn hu (by have := up_len hu hn; have := g.hz; omega)
theorem Gd.ends (g : Gd v rs en) {i : Nat} (hi : i < en.length) : (en.getD i (0, 0)).1 < v ∧ (en.getD i (0, 0)).2 < v := en_lt g.S hi
theorem x_addN {c : Em.Ctx} {σ : Em.Env} {s : Sto} {a b : E} {l : List Nat} {i : Nat} (ha : evE c a σ s = .ok (.d (.tuple (natD l))) s) (hb : evE c b σ s = .ok (.d (.int (i : Int))) s) (hz : l.length ≤ 1000) : evE c (.op .add .fr a (.tup [b])) σ s = .ok (.d (.tuple (natD (l ++ [i])))) s := by
  have hsm : sizeMax = 16777216 := rfl
  rw [← natD_snoc]
  exact x_addT ha (x_tup (vs := [.int (i : Int)]) (es_cons' hb es_nil')) (by rw [natD_len]; simp only [List.length_singleton]; omega)
/-- a road more -/
theorem loopA (g : Gd v rs en) (n n0 j : Nat) {one other : List Nat} (hu : one.Pairwise (· < ·)) (hn : ∀ i ∈ one, i < en.length) (s : Sto) :
    ∃ r l q, evS (cx (n + 8)) n0 (.for_ (.slot 2) (.v 8) bodA) (eR j (shD v rs) none none none none none none (List.range en.length) one other none none none) s = .ok (.nx, eR j (shD v rs) r none none none none none (List.range en.length) one other l q none) s := by
  have hz := g.hz
  have hf : prog.fuel = 1000000 := rfl
  have hl := up_len hu hn
  obtain ⟨σ', s', f, r, l, q, rfl, rfl⟩ := s_forN (c := cx (n + 8)) (n0 := n0) (tg := .slot 2) (body := bodA) (it := .v 8) (σ := eR j (shD v rs) none none none none none none (List.range en.length) one other none none none) (s := s) (x_v rfl) (items_tup (natD (List.range en.length))) (by rw [List.length_range]; show _ < prog.fuel; omega)
    (fun i σ s' => ∃ r l q, σ = eR j (shD v rs) r none none none none none (List.range en.length) one other l q none ∧ s' = s) ⟨none, none, none, rfl, rfl⟩ fun i hi σ s' hI => by
      obtain ⟨r, l, q, rfl, rfl⟩ := hI
      rw [List.length_range] at hi
      rw [List.getElem_range]
      have hall : ∀ k ∈ one ++ [i], k < en.length := fun k hk => by
        rcases List.mem_append.mp hk with q | q
        · exact hn k q
        · rw [List.mem_singleton.mp q]; exact hi
      have hm := mem_upOf hall
      have he := g.ends hi
      obtain ⟨x, y, er, _⟩ := g.S.2 i hi
      have hrl : i < rs.length := by rw [g.S.1]; exact hi
      have hat : atD rs (i : Int) = some (.tuple [.int (en[i].1 : Int), .int (en[i].2 : Int), .int x, .int y]) := by
        rw [atD_nat rs i hrl]; rw [List.getElem?_eq_getElem hrl] at er; exact er
      have e1 : ∀ σ, σ[9]? = some (some (.d (.tuple (natD one)))) → σ[2]? = some (some (.d (.int (i : Int)))) → evE (cx (n + 8)) (.bi .tuple .fr [.bi .sset .fr [.op .add .fr (.v 9) (.tup [.v 2])]]) σ s' = .ok (.d (.tuple (natD (upOf en.length (one ++ [i]))))) s' := fun σ h1 h2 =>
        x_tupleA (x_ssetT (x_addN (x_v h1) (x_v h2) (by omega)) (by rw [List.length_append, List.length_singleton]; omega) (upOf_up _ _) hm)
      have en1 : en.getD i (0, 0) = en[i] := getD_en hi
      obtain ⟨p, hp, ew⟩ := g.walk (n + 2) s'.F hu hn (a := en[i].1) (b := en[i].2) (by rw [← en1]; exact he.1) (by rw [← en1]; exact he.2)
      have e2 : ∀ σ : Em.Env, σ[1]? = some (some (.d (shD v rs))) → σ[9]? = some (some (.d (.tuple (natD one)))) → σ[2]? = some (some (.d (.int (i : Int)))) → evE (cx (n + 8)) (.op .isNot .fr (.call 24 .fr [.v 1, .v 9, .ix (.ix (.ix (.v 1) (.k (.int 2))) (.v 2)) (.k (.int 0)), .ix (.ix (.ix (.v 1) (.k (.int 2))) (.v 2)) (.k (.int 1))] []) (.k (.none))) σ s' = .ok (.d (.bool (!isNone p))) s' := fun σ h1 h9 h2 =>
        x_isNot' (x_callD (es_cons' (x_v h1) (es_cons' (x_v h9) (es_cons' (x_ix (x_ix (x_ix (x_v h1) x_k rfl (p_r rs)) (x_v h2) rfl hat) x_k rfl rfl) (es_cons' (x_ix (x_ix (x_ix (x_v h1) x_k rfl (p_r rs)) (x_v h2) rfl hat) x_k rfl rfl) es_nil')))) rfl ew)
      have r1 := g.rank (n + 1) s'.F (upOf_up en.length (one ++ [i])) upOf_lt
      have r2 := g.rank (n + 1) s'.F hu hn
      have hst := nL_step (E := es en one) (e := en.getD i (0, 0)) (v := v) he.1 he.2
      rw [← es_snoc, nL_same (E := es en (one ++ [i])) (E' := es en (upOf en.length (one ++ [i]))) (es_mem_same fun k => (hm k).symm) v] at hst
      have hnum : ((v : Int) - (nL (es en (upOf en.length (one ++ [i]))) v : Int)) = ((v : Int) - (nL (es en one) v : Int)) + (if (!(!isNone p)) = true then 1 else 0) := by
        rw [en1] at hst
        rcases hst with ⟨a, b⟩ | ⟨a, b⟩
        · rw [hp.mpr a, b]; simp
        · have : isNone p = true := by
            cases h : isNone p with
            | true => rfl
            | false => exact absurd (hp.mp h) a
          rw [this]; simp; omega
      exact ⟨eR j (shD v rs) (some (.d (.int (i : Int)))) none none none none none (List.range en.length) one other l q none, eR j (shD v rs) (some (.d (.int (i : Int)))) none none none none none (List.range en.length) one other (some (.d (.tuple (natD (upOf en.length (one ++ [i])))))) (some (.d (.bool (!isNone p)))) none, s', rfl,
        (ss_nx (s_asg (e1 _ rfl rfl) (by simp [eR]))).trans ((ss_nx (s_asg (e2 _ rfl rfl rfl) (by simp [eR]))).trans ((ss_nx ((s_ite_f (x_neI_same (x_callD (es_cons' (x_v rfl) (es_cons' (x_v rfl) es_nil')) rfl r1) (x_addI (x_callD (es_cons' (x_v rfl) (es_cons' (x_v rfl) es_nil')) rfl r2) (x_intB (x_not (x_tst (x_v rfl))))) hnum)).trans ss_nil)).trans ss_nil)), _, _, _, rfl, rfl⟩
  exact ⟨r, l, q, f⟩
theorem Gd.noring (g : Gd v rs en) {ns : List Nat} (hn : ∀ i ∈ ns, i < en.length) : NoRing en ns ↔ ns.length + nL (es en ns) v = v := forest_iff fun i hi => g.ends (hn i hi)
/-- a forest within a lot -/
theorem loopC (g : Gd v rs en) (n n0 j : Nat) {one other : List Nat} (hu : one.Pairwise (· < ·)) (hn : ∀ i ∈ one, i < en.length) (s : Sto) (r0 both whole l0 q0 : Option Val) :
    ∃ r, evS (cx (n + 8)) n0 (.for_ (.slot 2) (.v 9) bodC) (eR j (shD v rs) r0 both whole (some (.d (.tuple []))) none none (List.range en.length) one other l0 q0 none) s = .ok (.nx, eR j (shD v rs) r both whole (some (.d (.tuple (natD (gr en v one))))) none none (List.range en.length) one other l0 q0 none) s := by
  have hz := g.hz
  have hf : prog.fuel = 1000000 := rfl
  have hl := up_len hu hn
  have ok : ∀ k, Gw en v (one.take k) (gr en v (one.take k)) := fun k => gr_ok (hu.sublist (List.take_sublist k one)) fun i hi => g.ends (hn i (List.mem_of_mem_take hi))
  obtain ⟨σ', s', f, r, rfl, rfl⟩ := s_forN (c := cx (n + 8)) (n0 := n0) (tg := .slot 2) (body := bodC) (it := .v 9) (σ := eR j (shD v rs) r0 both whole (some (.d (.tuple []))) none none (List.range en.length) one other l0 q0 none) (s := s) (x_v rfl) (items_tup (natD one)) (by show _ < prog.fuel; omega)
    (fun i σ s' => ∃ r, σ = eR j (shD v rs) r both whole (some (.d (.tuple (natD (gr en v (one.take i)))))) none none (List.range en.length) one other l0 q0 none ∧ s' = s) ⟨r0, rfl, rfl⟩ fun i hi σ s' hI => by
      obtain ⟨r, rfl, rfl⟩ := hI
      have hk := ok i
      have hin := hn _ (List.getElem_mem hi)
      have he := g.ends hin
      have hsub : ∀ k ∈ gr en v (one.take i), k < one[i] := fun k hk' => by
        obtain ⟨m, hm, rfl⟩ := List.mem_iff_getElem.mp (hk.sub k hk')
        rw [List.length_take] at hm
        rw [List.getElem_take]
        exact List.pairwise_iff_getElem.mp hu m i (by omega) hi (by omega)
      have hup : (gr en v (one.take i) ++ [one[i]]).Pairwise (· < ·) := List.pairwise_append.mpr ⟨hk.up, List.pairwise_singleton _ _, fun a ha b hb => by rw [List.mem_singleton.mp hb]; exact hsub a ha⟩
      have hall : ∀ k ∈ gr en v (one.take i) ++ [one[i]], k < en.length := fun k hk' => by
        rcases List.mem_append.mp hk' with q | q
        · have := hsub k q; omega
        · rw [List.mem_singleton.mp q]; exact hin
      have hlen := up_len hup hall
      obtain ⟨p, hp, er⟩ := g.ring (n + 2) s'.F hup hall
      rw [g.noring hall] at hp
      have hst := nL_step (E := es en (gr en v (one.take i))) (e := en.getD one[i] (0, 0)) (v := v) he.1 he.2
      rw [← es_snoc] at hst
      have hnum := hk.num
      rw [List.length_append, List.length_singleton] at hp hlen
      have ea : ∀ σ : Em.Env, σ[5]? = some (some (.d (.tuple (natD (gr en v (one.take i)))))) → σ[2]? = some (some (.d (.int (one[i] : Int)))) → evE (cx (n + 8)) (.op .add .fr (.v 5) (.tup [.v 2])) σ s' = .ok (.d (.tuple (natD (gr en v (one.take i) ++ [one[i]])))) s' := fun σ h5 h2 => x_addN (x_v h5) (x_v h2) (by omega)
      have es2 : ∀ σ : Em.Env, σ[5]? = some (some (.d (.tuple (natD (gr en v (one.take i)))))) → σ[2]? = some (some (.d (.int (one[i] : Int)))) → evE (cx (n + 8)) (.bi .tuple .fr [.bi .sorted .fr [.op .add .fr (.v 5) (.tup [.v 2])]]) σ s' = .ok (.d (.tuple (natD (gr en v (one.take i) ++ [one[i]])))) s' := fun σ h5 h2 => by
        have := x_sorted (ea σ h5 h2) rfl (sortOk_natD _ (by rw [List.length_append, List.length_singleton]; omega))
        rw [isort_up hup] at this
        exact x_tupleA this
      have ht : one.take (i + 1) = one.take i ++ [one[i]] := by rw [List.take_succ_eq_append_getElem hi]
      have hg : gr en v (one.take (i + 1)) = gstep en v (gr en v (one.take i)) one[i] := by rw [ht, gr_snoc]
      have hc := x_callD (n := n + 8) (f := 25) (m := .fr) (σ := eR j (shD v rs) (some (.d (.int (one[i] : Int)))) both whole (some (.d (.tuple (natD (gr en v (one.take i)))))) none none (List.range en.length) one other l0 q0 none) (s := s') (es := [.v 1, .bi .tuple .fr [.bi .sorted .fr [.op .add .fr (.v 5) (.tup [.v 2])]]]) (es_cons' (x_v rfl) (es_cons' (es2 _ rfl rfl) es_nil')) rfl er
      refine ⟨eR j (shD v rs) (some (.d (.int (one[i] : Int)))) both whole (some (.d (.tuple (natD (gr en v (one.take i)))))) none none (List.range en.length) one other l0 q0 none, ?_⟩
      by_cases q : isNone p = true
      · have := hp.mp q
        refine ⟨_, _, rfl, (ss_nx ((s_ite_t (x_is_t hc q)).trans ((ss_nx (s_asg (ea _ rfl rfl) (by simp [eR]))).trans ss_nil))).trans ss_nil, some (.d (.int (one[i] : Int))), ?_, rfl⟩
        rw [hg]
        unfold gstep
        rw [if_pos (by omega)]; rfl
      · refine ⟨_, _, rfl, (ss_nx ((s_ite_f (x_is_f hc (by simpa using q))).trans ss_nil)).trans ss_nil, some (.d (.int (one[i] : Int))), ?_, rfl⟩
        rw [hg]
        unfold gstep
        rw [if_neg fun z => q (hp.mpr (by rcases hst with ⟨_, b⟩ | ⟨_, b⟩ <;> omega))]
  rw [List.take_length] at f
  exact ⟨r, f⟩
/-- led on to all roads -/
theorem loopD (g : Gd v rs en) (n n0 j : Nat) {one other fd : List Nat} (h0 : Fw en v 0 fd) (s : Sto) (r0 both whole rest near l0 q0 : Option Val) :
    ∃ r fd', Fw en v en.length fd' ∧ evS (cx (n + 8)) n0 (.for_ (.slot 2) (.v 8) bodD) (eR j (shD v rs) r0 both whole (some (.d (.tuple (natD fd)))) rest near (List.range en.length) one other l0 q0 none) s = .ok (.nx, eR j (shD v rs) r both whole (some (.d (.tuple (natD fd')))) rest near (List.range en.length) one other l0 q0 none) s := by
  have hz := g.hz
  have hf : prog.fuel = 1000000 := rfl
  obtain ⟨σ', s', f, r, fd', hw, rfl, rfl⟩ := s_forN (c := cx (n + 8)) (n0 := n0) (tg := .slot 2) (body := bodD) (it := .v 8) (σ := eR j (shD v rs) r0 both whole (some (.d (.tuple (natD fd)))) rest near (List.range en.length) one other l0 q0 none) (s := s) (x_v rfl) (items_tup (natD (List.range en.length))) (by rw [List.length_range]; show _ < prog.fuel; omega)
    (fun i σ s' => ∃ r fd', Fw en v i fd' ∧ σ = eR j (shD v rs) r both whole (some (.d (.tuple (natD fd')))) rest near (List.range en.length) one other l0 q0 none ∧ s' = s) ⟨r0, fd, h0, rfl, rfl⟩ fun i hi σ s' hI => by
      obtain ⟨r, fd, hw, rfl, rfl⟩ := hI
      rw [List.length_range] at hi
      rw [List.getElem_range]
      have hl := up_len hw.up hw.lt
      have hall : ∀ k ∈ fd ++ [i], k < en.length := fun k hk => by
        rcases List.mem_append.mp hk with q | q
        · exact hw.lt k q
        · rw [List.mem_singleton.mp q]; exact hi
      have hm := mem_upOf hall
      have hmem : ∀ k, k ∈ upOf en.length (fd ++ [i]) ↔ k ∈ fd ∨ k = i := fun k => by rw [hm, List.mem_append, List.mem_singleton]
      have es2 : ∀ σ : Em.Env, σ[5]? = some (some (.d (.tuple (natD fd)))) → σ[2]? = some (some (.d (.int (i : Int)))) → evE (cx (n + 8)) (.bi .tuple .fr [.bi .sset .fr [.op .add .fr (.v 5) (.tup [.v 2])]]) σ s' = .ok (.d (.tuple (natD (upOf en.length (fd ++ [i]))))) s' := fun σ h5 h2 =>
        x_tupleA (x_ssetT (x_addN (x_v h5) (x_v h2) (by omega)) (by rw [List.length_append, List.length_singleton]; omega) (upOf_up _ _) hm)
      obtain ⟨p, hp, er⟩ := g.ring (n + 2) s'.F (upOf_up en.length (fd ++ [i])) upOf_lt
      have hc := x_callD (n := n + 8) (f := 25) (m := .fr) (σ := eR j (shD v rs) (some (.d (.int (i : Int)))) both whole (some (.d (.tuple (natD fd)))) rest near (List.range en.length) one other l0 q0 none) (s := s') (es := [.v 1, .bi .tuple .fr [.bi .sset .fr [.op .add .fr (.v 5) (.tup [.v 2])]]]) (es_cons' (x_v rfl) (es_cons' (es2 _ rfl rfl) es_nil')) rfl er
      refine ⟨eR j (shD v rs) (some (.d (.int (i : Int)))) both whole (some (.d (.tuple (natD fd)))) rest near (List.range en.length) one other l0 q0 none, ?_⟩
      rcases hw.step hi (fun k hk => g.ends hk) (upOf_up en.length (fd ++ [i])) hmem with ⟨a, b⟩ | ⟨a, b⟩
      · exact ⟨_, _, rfl, (ss_nx ((s_ite_t (x_is_t hc (hp.mpr a))).trans ((ss_nx (s_asg (es2 _ rfl rfl) (by simp [eR]))).trans ss_nil))).trans ss_nil, some (.d (.int (i : Int))), _, b, rfl, rfl⟩
      · have q : isNone p = false := by
          cases h : isNone p with
          | false => rfl
          | true => exact absurd (hp.mp h) a
        exact ⟨_, _, rfl, (ss_nx ((s_ite_f (x_is_f hc q)).trans ss_nil)).trans ss_nil, some (.d (.int (i : Int))), _, b, rfl, rfl⟩
  rw [List.length_range] at hw
  exact ⟨r, fd', hw, f⟩
end
end Wk
end

section
set_option Elab.async false
set_option linter.all false
set_option maxRecDepth 100000
set_option maxHeartbeats 400000
/-! K24B: _law_right, the law. -/
namespace Wk
open PySem Em
theorem dsh_mono {v r r' : Nat} {p : D} (h : DShire v r p) (hr : r ≤ r') : DShire v r' p := by
  obtain ⟨m, rs, e, h1, h2, h3, h4⟩ := h
  exact ⟨m, rs, e, h1, h2, by omega, h4⟩
/-- what is drawn is good -/
theorem gd_of {v : Nat} {rs : List D} {en : List (Nat × Nat)} (h : DShire 10 30 (shD v rs)) (hS : Sh v rs en) (hr : rs.length ≤ 30) : Gd v rs en := by
  refine ⟨hS, dshire_head h, dshire_is (Nat.le_refl _) (Nat.le_refl _) h, ?_, by rw [← hS.1]; exact hr⟩
  obtain ⟨m, rs', e, h1, h2, h3, h4⟩ := h
  unfold shD at e
  injection e with e
  injection e with _ e
  injection e with e _
  injection e with e
  omega
theorem sorted_nat {l m : List Nat} (hl : l.Pairwise (· < ·)) (hm : m.Pairwise (· < ·)) (h : ∀ i, i ∈ l ↔ i ∈ m) : l = m := by
  have e := Em.sorted_unique (l := l.map fun (i : Nat) => (i : Int)) (m := m.map fun (i : Nat) => (i : Int)) (List.pairwise_map.mpr (hl.imp fun {a b} h => by omega)) (List.pairwise_map.mpr (hm.imp fun {a b} h => by omega)) fun k => by
    rw [List.mem_map, List.mem_map]
    exact ⟨fun ⟨i, a, b⟩ => ⟨i, (h i).mp a, b⟩, fun ⟨i, a, b⟩ => ⟨i, (h i).mpr a, b⟩⟩
  have := congrArg (List.map Int.toNat) e
  rw [List.map_map, List.map_map] at this
  have q : (Int.toNat ∘ fun (i : Nat) => (i : Int)) = id := funext fun i => rfl
  rw [q, List.map_id, List.map_id] at this
  exact this
section
variable {v : Nat} {rs : List D} {en : List (Nat × Nat)}
theorem map_get (one : List Nat) : (List.range one.length).map (fun i => one.getD i 0) = one := by
  apply List.ext_getElem
  · simp
  · intro i h1 h2
    simp [List.getElem?_eq_getElem h2]
/-- the looks behind a drawn shire and two lots -/
theorem rest36 (g : Gd v rs en) (hD : ∀ q ∈ rs, DRoad (v : Int) q) (hv1 : 1 ≤ v) (n n0 j : Nat) {one other : List Nat} (hu : one.Pairwise (· < ·)) (hn : ∀ i ∈ one, i < en.length) (hu' : other.Pairwise (· < ·)) (hn' : ∀ i ∈ other, i < en.length) (s : Sto) :
    ∃ σ', evSs (cx (n + 8)) n0 (d36.body.drop 2) (eR j (shD v rs) none none none none none none (List.range en.length) one other none none none) s = .ok (.rt (.val (.d (.bool true))), σ') s := by
  have hz := g.hz
  have hf : prog.fuel = 1000000 := rfl
  have hsm : sizeMax = 16777216 := rfl
  have hl := up_len hu hn
  have hl' := up_len hu' hn'
  obtain ⟨r, l, q, fA⟩ := loopA g n n0 j (other := other) hu hn s
  -- both, whole
  have fB : ∀ σ : Em.Env, σ.length = 14 → σ[9]? = some (some (.d (.tuple (natD one)))) → σ[10]? = some (some (.d (.tuple (natD other)))) → evE (cx (n + 8)) (.bi .tuple .fr [.lc .fr (.v 2) (.slot 2) (.v 9) (some (.op .isIn .fr (.v 2) (.v 10))) [2]]) σ s = .ok (.d (.tuple (natD (one.filter fun i => other.contains i)))) s := fun σ hs h9 h10 => by
    have h2 : ∀ x, (σ.set 2 x)[2]? = some x := fun x => List.getElem?_set_self (by rw [hs]; omega)
    have h10' : ∀ x, (σ.set 2 x)[10]? = some (some (.d (.tuple (natD other)))) := fun x => by rw [List.getElem?_set_ne (by omega)]; exact h10
    have := x_lcN (c := cx (n + 8)) (σ := σ) (s := s) (elt := .v 2) (it := .v 9) (t := .op .isIn .fr (.v 2) (.v 10)) (j := 2) (x_v h9) (items_tup _) (by rw [hs]; omega) (by omega) (by show _ < prog.fuel; omega) (fun i => other.contains i) (fun i => .int (i : Int)) (fun i _ => x_tst (x_isInT (x_v (h2 _)) (x_v (h10' _)))) (fun i _ _ => x_v (h2 _))
    exact x_tupleA this
  have hallW : ∀ k ∈ one ++ other, k < en.length := fun k hk => (List.mem_append.mp hk).elim (hn k) (hn' k)
  have fW : ∀ σ : Em.Env, σ[9]? = some (some (.d (.tuple (natD one)))) → σ[10]? = some (some (.d (.tuple (natD other)))) → evE (cx (n + 8)) (.bi .tuple .fr [.bi .sset .fr [.op .add .fr (.v 9) (.v 10)]]) σ s = .ok (.d (.tuple (natD (upOf en.length (one ++ other))))) s := fun σ h9 h10 => by
    have h := x_addT (c := cx (n + 8)) (m := .fr) (x_v h9) (x_v (s := s) h10) (by rw [natD_len, natD_len]; omega)
    have e : natD one ++ natD other = natD (one ++ other) := by unfold natD; rw [List.map_append]
    rw [e] at h
    exact x_tupleA (x_ssetT h (by rw [List.length_append]; omega) (upOf_up _ _) (mem_upOf hallW))
  have hub : (one.filter fun i => other.contains i).Pairwise (· < ·) := hu.filter _
  have hnb : ∀ i ∈ one.filter (fun i => other.contains i), i < en.length := fun i hi => hn i (List.mem_filter.mp hi).1
  have rW := g.rank (n + 1) s.F (upOf_up en.length (one ++ other)) upOf_lt
  have rB := g.rank (n + 1) s.F hub hnb
  have r1 := g.rank (n + 1) s.F hu hn
  have r2 := g.rank (n + 1) s.F hu' hn'
  have hsub := nL_sub (A := es en (one.filter fun i => other.contains i)) (B := es en one) (L := es en other) (v := v) (fun e he => by
    obtain ⟨i, hi, rfl⟩ := mem_es.mp he
    exact mem_es.mpr ⟨i, (List.mem_filter.mp hi).1, rfl⟩) (es_ok g.S hn')
  have ea : ∀ a b : List Nat, es en a ++ es en b = es en (a ++ b) := fun a b => by unfold es; rw [List.map_append]
  rw [ea, ea, nL_same (es_mem_same (l := (one.filter fun i => other.contains i) ++ other) (m := other) fun i => by
    rw [List.mem_append, List.mem_filter]
    exact ⟨fun h => h.elim (fun h => List.contains_iff_mem.mp h.2) id, .inr⟩) v, nL_same (es_mem_same (l := one ++ other) (m := upOf en.length (one ++ other)) fun i => (mem_upOf hallW i).symm) v] at hsub
  have hcmp : decide (((v : Int) - (nL (es en one) v : Int)) + ((v : Int) - (nL (es en other) v : Int)) < ((v : Int) - (nL (es en (upOf en.length (one ++ other))) v : Int)) + ((v : Int) - (nL (es en (one.filter fun i => other.contains i)) v : Int))) = false := decide_eq_false (by omega)
  -- the forest within
  obtain ⟨rC, fC⟩ := loopC g n n0 j (other := other) hu hn s r (some (.d (.tuple (natD (one.filter fun i => other.contains i))))) (some (.d (.tuple (natD (upOf en.length (one ++ other)))))) l q
  have hG := gr_ok (en := en) (v := v) hu fun i hi => g.ends (hn i hi)
  have hgn : ∀ i ∈ gr en v one, i < en.length := fun i hi => hn i (hG.sub i hi)
  have hgl := up_len hG.up hgn
  have hnG := hG.nL_eq
  have hnum := hG.num
  have fI := g.isf (n + 1) s.F hG.up hgn hG.num
  have a1 := g.along (n + 2) s.F hu hn
  have a2 := g.along (n + 2) s.F hG.up hgn
  have hpc : Gr.pieces (es en (gr en v one)) v = Gr.pieces (es en one) v := by
    unfold Gr.pieces
    rw [Gr.leads_congr hG.reach v]
    refine List.map_congr_left fun r _ => ?_
    apply List.filter_congr
    intro w _
    exact decide_eq_decide.mpr (hG.reach r w)
  rw [hpc] at a2
  have hshp : SeqAt.shaped (.list ((Gr.pieces (es en one) v).map tupN)) = true := by
    have := shaped_tups ((Gr.pieces (es en one) v).map fun l => l.map fun (i : Nat) => (i : Int)) false
    unfold seqOf at this
    rw [List.map_map] at this
    have e : (Gr.pieces (es en one) v).map (Nd.tupI ∘ fun l => l.map fun (i : Nat) => (i : Int)) = (Gr.pieces (es en one) v).map tupN := List.map_congr_left fun l _ => by
      unfold tupN
      rw [natD_ints]; rfl
    rw [e] at this
    exact this
  -- the rest left out
  have hrest : (List.range en.length).filter (fun i => !((List.range en.length).filter fun i => !one.contains i).contains i) = one := by
    have hp : ((List.range en.length).filter fun i => !((List.range en.length).filter fun i => !one.contains i).contains i) = upOf en.length one := by
      unfold upOf
      apply List.filter_congr
      intro i hi
      cases h : one.contains i with
      | true =>
        have : ((List.range en.length).filter fun i => !one.contains i).contains i = false := by
          rw [← Bool.not_eq_true, List.contains_iff_mem, List.mem_filter, h]
          simp
        rw [this]; rfl
      | false =>
        have : ((List.range en.length).filter fun i => !one.contains i).contains i = true := by
          rw [List.contains_iff_mem, List.mem_filter, h]
          exact ⟨hi, rfl⟩
        rw [this]; rfl
    rw [hp]
    exact sorted_nat (upOf_up _ _) hu (mem_upOf hn)
  have fR : ∀ σ : Em.Env, σ.length = 14 → σ[8]? = some (some (.d (.tuple (natD (List.range en.length))))) → σ[9]? = some (some (.d (.tuple (natD one)))) → evE (cx (n + 8)) (.bi .tuple .fr [.lc .fr (.v 2) (.slot 2) (.v 8) (some (.op .notIn .fr (.v 2) (.v 9))) [2]]) σ s = .ok (.d (.tuple (natD ((List.range en.length).filter fun i => !one.contains i)))) s := fun σ hs h8 h9 => by
    have h2 : ∀ x, (σ.set 2 x)[2]? = some x := fun x => List.getElem?_set_self (by rw [hs]; omega)
    have h9' : ∀ x, (σ.set 2 x)[9]? = some (some (.d (.tuple (natD one)))) := fun x => by rw [List.getElem?_set_ne (by omega)]; exact h9
    have := x_lcN (c := cx (n + 8)) (σ := σ) (s := s) (elt := .v 2) (it := .v 8) (t := .op .notIn .fr (.v 2) (.v 9)) (j := 2) (x_v h8) (items_tup _) (by rw [hs]; omega) (by rw [List.length_range]; omega) (by show _ < prog.fuel; omega) (fun i => !one.contains i) (fun i => .int (i : Int)) (fun i _ => x_tst (x_notInT (x_v (h2 _)) (x_v (h9' _)))) (fun i _ _ => x_v (h2 _))
    exact x_tupleA this
  have wo := g.without (n + 2) s.F (ns := (List.range en.length).filter fun i => !one.contains i) (List.pairwise_lt_range.filter _) fun i hi => List.mem_range.mp (List.mem_filter.mp hi).1
  rw [hrest] at wo
  have hS' := pick_sh g.S hn
  have hpl : (pickR rs one).length = one.length := by unfold pickR; rw [List.length_map]
  have g' : Gd v (pickR rs one) (one.map fun i => en.getD i (0, 0)) := gd_of ⟨(v : Int), pickR rs one, rfl, by omega, by have := g.hv; omega, by omega, fun q hq => by
    obtain ⟨i, hi, rfl⟩ := List.mem_map.mp hq
    have hi := hn i hi
    rw [List.getD_eq_getElem?_getD, List.getElem?_eq_getElem (by rw [g.S.1]; exact hi)]
    exact hD _ (List.getElem_mem _)⟩ hS' (by omega)
  have ff := g'.first (n + 1) s.F
  rw [List.length_map] at ff
  obtain ⟨hmap, hlt⟩ := gr_map (en := en) (en' := one.map fun i => en.getD i (0, 0)) (v := v) (f := fun i => one.getD i 0) (k := one.length) (fun i hi => by
    rw [List.getD_eq_getElem?_getD, List.getElem?_map, List.getElem?_eq_getElem hi, List.getD_eq_getElem?_getD (l := one), List.getElem?_eq_getElem hi]
    rfl) (L := List.range one.length) fun i hi => List.mem_range.mp hi
  rw [map_get] at hmap
  have hnl : (gr (one.map fun i => en.getD i (0, 0)) v (List.range one.length)).length ≤ 30 := by
    have := congrArg List.length hmap
    rw [List.length_map] at this
    omega
  have fN : ∀ σ : Em.Env, σ.length = 14 → σ[7]? = some (some (.d (.tuple (natD (gr (one.map fun i => en.getD i (0, 0)) v (List.range one.length)))))) → σ[9]? = some (some (.d (.tuple (natD one)))) → evE (cx (n + 8)) (.bi .tuple .fr [.lc .fr (.ix (.v 9) (.v 13)) (.slot 13) (.v 7) none [13]]) σ s = .ok (.d (.tuple (natD (gr en v one)))) s := fun σ hs h7 h9 => by
    have h2 : ∀ x, (σ.set 13 x)[13]? = some x := fun x => List.getElem?_set_self (by rw [hs]; omega)
    have h9' : ∀ x, (σ.set 13 x)[9]? = some (some (.d (.tuple (natD one)))) := fun x => by rw [List.getElem?_set_ne (by omega)]; exact h9
    have := x_lcN0 (c := cx (n + 8)) (σ := σ) (s := s) (elt := .ix (.v 9) (.v 13)) (it := .v 7) (j := 13) (x_v h7) (items_tup _) (by rw [hs]; omega) (by omega) (by show _ < prog.fuel; omega) (fun i => .int ((one.getD i 0 : Nat) : Int)) (fun i hi => by
      have hi := hlt i hi
      refine x_ix (x_v (h9' _)) (x_v (h2 _)) rfl ?_
      rw [atD_natD hi, List.getD_eq_getElem?_getD, List.getElem?_eq_getElem hi]; rfl)
    have e : (gr (one.map fun i => en.getD i (0, 0)) v (List.range one.length)).map (fun i => PyData.int ((one.getD i 0 : Nat) : Int)) = natD (gr en v one) := by
      rw [← hmap]
      unfold natD
      rw [List.map_map]; rfl
    rw [e] at this
    exact x_tupleA this
  obtain ⟨rD, fd', hFw, fD⟩ := loopD g n n0 j (one := one) (other := other) (fd := gr en v one) ⟨hG.up, hgn, hG.num, fun i hi => absurd hi (by omega)⟩ s rC (some (.d (.tuple (natD (one.filter fun i => other.contains i))))) (some (.d (.tuple (natD (upOf en.length (one ++ other)))))) (some (.d (.tuple (natD ((List.range en.length).filter fun i => !one.contains i))))) (some (.d (.tuple (natD (gr (one.map fun i => en.getD i (0, 0)) v (List.range one.length)))))) l q
  have hrng : ∀ i ∈ List.range en.length, i < en.length := fun i hi => List.mem_range.mp hi
  have rE := g.rank (n + 1) s.F (List.pairwise_lt_range (n := en.length)) hrng
  have fI2 := g.isf (n + 1) s.F hFw.up hFw.lt hFw.num
  have hdone := hFw.done
  have hnum2 := hFw.num
  refine ⟨eR j (shD v rs) rD (some (.d (.tuple (natD (one.filter fun i => other.contains i))))) (some (.d (.tuple (natD (upOf en.length (one ++ other)))))) (some (.d (.tuple (natD fd')))) (some (.d (.tuple (natD ((List.range en.length).filter fun i => !one.contains i))))) (some (.d (.tuple (natD (gr (one.map fun i => en.getD i (0, 0)) v (List.range one.length)))))) (List.range en.length) one other l q none, ?_⟩
  refine (ss_nx fA).trans ?_
  refine (ss_nx (s_asg (fB _ rfl rfl rfl) (by simp [eR]))).trans ?_
  refine (ss_nx (s_asg (fW _ rfl rfl) (by simp [eR]))).trans ?_
  refine (ss_nx ((s_ite_f ((x_gtI (x_addI (x_callD (es_cons' (x_v rfl) (es_cons' (x_v rfl) es_nil')) rfl rW) (x_callD (es_cons' (x_v rfl) (es_cons' (x_v rfl) es_nil')) rfl rB)) (x_addI (x_callD (es_cons' (x_v rfl) (es_cons' (x_v rfl) es_nil')) rfl r1) (x_callD (es_cons' (x_v rfl) (es_cons' (x_v rfl) es_nil')) rfl r2))).trans (by rw [hcmp]))).trans ss_nil)).trans ?_
  refine (ss_nx (s_asg (x_tup (vs := []) es_nil') (by simp [eR]))).trans ?_
  refine (ss_nx fC).trans ?_
  refine (ss_nx ((s_ite_f (x_or_ff (x_neI_same (x_lenN (x_v rfl)) (x_callD (es_cons' (x_v rfl) (es_cons' (x_v rfl) es_nil')) rfl r1) (by omega)) (x_or_ff (t_not_f (x_tst (x_callD (es_cons' (x_v rfl) (es_cons' (x_v rfl) es_nil')) rfl fI))) (x_ne_self (x_callL (es_cons' (x_v rfl) (es_cons' (x_v rfl) es_nil')) rfl a2) (x_callL (es_cons' (x_v rfl) (es_cons' (x_v rfl) es_nil')) rfl a1) hshp)))).trans ss_nil)).trans ?_
  refine (ss_nx (s_asg (fR _ rfl rfl rfl) (by simp [eR]))).trans ?_
  refine (ss_nx (s_asg (x_callD (es_cons' (x_callD (es_cons' (x_v rfl) (es_cons' (x_v rfl) es_nil')) rfl wo) es_nil') rfl ff) (by simp [eR]))).trans ?_
  refine (ss_nx ((s_ite_f (x_ne_self (fN _ rfl rfl rfl) (x_v rfl) (shaped_tupN _))).trans ss_nil)).trans ?_
  refine (ss_nx fD).trans ?_
  exact ss_rt (s_ret ((x_and_t ((x_eqI (x_lenN (x_v rfl)) (x_callD (es_cons' (x_v rfl) (es_cons' (x_v rfl) es_nil')) rfl rE)).trans (by
    have : ((fd'.length : Int) == ((v : Int) - (nL (es en (List.range en.length)) v : Int))) = true := by rw [beq_iff_eq]; omega
    rw [this]))).trans (x_callD (es_cons' (x_v rfl) (es_cons' (x_v rfl) es_nil')) rfl fI2)))
end
end Wk
end

section
set_option Elab.async false
set_option linter.all false
set_option maxRecDepth 100000
set_option maxHeartbeats 400000
/-! K24C: _law_right, the law. -/
namespace Wk
open PySem Em
theorem dlot_up {k : Nat} {p : D} (h : DLot k p) : ∃ ns : List Nat, p = .tuple (natD ns) ∧ ns.Pairwise (· < ·) ∧ ∀ i ∈ ns, i < k := by
  obtain ⟨ns, rfl, hs⟩ := h
  refine ⟨ns, by unfold natD; simp, List.pairwise_lt_range.sublist hs, fun i hi => List.mem_range.mp (hs.subset hi)⟩
theorem ev36 (n j : Nat) {c : Cell} {F : List Cell} (hj : F[j]? = some c) (hp : Pot c) : ∃ c' F', Pot c' ∧ F'[j]? = some c' ∧ evF prog (n + 9) 36 [.fl j] [] F = .ok (.d (.bool true)) ⟨F', []⟩ := by
  have hjl := (List.getElem?_eq_some_iff.mp hj).1
  obtain ⟨c1, sh, p1, hd, e⟩ := ev33 (n + 6) j hj hp 7 11 (by omega) (by omega) (by omega)
  have hd12 : DShire 10 30 sh := by
    obtain ⟨m, rs, e, h1, h2, h3, h4⟩ := hd
    exact ⟨m, rs, e, h1, by omega, by omega, h4⟩
  obtain ⟨m, rs, rfl, m1, m2, hr, hroads⟩ := hd
  obtain ⟨v, rfl⟩ : ∃ v : Nat, m = (v : Int) := ⟨m.toNat, by omega⟩
  obtain ⟨en, hS⟩ := sh_of hroads
  have g : Gd v rs en := gd_of hd12 hS (by omega)
  have hz : rs.length ≤ 1000 := by omega
  obtain ⟨c2, p2, hp2, hl2, e2⟩ := ev34 (n + 6) j (F := F.set j c1) (List.getElem?_set_self hjl) p1 (.str shireS) (.int (v : Int)) rs hz
  obtain ⟨one, rfl, hu, hn⟩ := dlot_up hl2
  rw [List.set_set] at e2
  obtain ⟨c3, p3, hp3, hl3, e3⟩ := ev34 (n + 6) j (F := F.set j c2) (List.getElem?_set_self hjl) hp2 (.str shireS) (.int (v : Int)) rs hz
  obtain ⟨other, rfl, hu', hn'⟩ := dlot_up hl3
  rw [List.set_set] at e3
  rw [hS.1] at hn hn'
  obtain ⟨σ', er⟩ := rest36 g hroads (by omega) n F.length j hu hn hu' hn' ⟨F.set j c3, []⟩
  have s0 : Em.start d36 [.fl j] = [some (.fl j), none, none, none, none, none, none, none, none, none, none, none, none, none] := rfl
  have body : d36.body = .asg (.slot 1) (.call 33 .fr [.v 0, .k (.int 7), .k (.int 11)] []) :: .asg (.tup [.slot 8, .slot 9, .slot 10]) (.tup [.bi .tuple .fr [.bi .range1 .fr [.bi .len .fr [.ix (.v 1) (.k (.int 2))]]], .call 34 .fr [.v 0, .v 1] [], .call 34 .fr [.v 0, .v 1] []]) :: d36.body.drop 2 := rfl
  refine ⟨c3, (F.set j c3).take F.length, hp3, by rw [List.getElem?_take_of_lt hjl]; exact List.getElem?_set_self hjl, fn_d rfl rfl ⟨σ', ⟨F.set j c3, []⟩, ?_, rfl⟩⟩
  rw [body, s0]
  refine (ss_nx (s_asg (x_callP (es_cons' (x_v rfl) (es_cons' x_k (es_cons' x_k es_nil'))) rfl e) (by simp))).trans ?_
  have er' := x_range (c := cx (n + 8)) (σ := [some (.fl j), some (.d (shD v rs)), none, none, none, none, none, none, none, none, none, none, none, none]) (s := ⟨F.set j c1, []⟩) (k := rs.length) hz (x_lenD (x_ix (x_v (i := 1) rfl) x_k rfl (p_r rs)) (.inr ⟨_, rfl, rfl⟩))
  rw [hS.1] at er'
  refine (ss_nx (s_asgP (x_tup (vs := [.tuple (natD (List.range en.length)), .tuple (natD one), .tuple (natD other)]) (es_cons' (x_tupleA er') (es_cons' (x_callP (es_cons' (x_v rfl) (es_cons' (x_v rfl) es_nil')) rfl e2) (es_cons' (x_callP (es_cons' (x_v rfl) (es_cons' (x_v rfl) es_nil')) rfl e3) es_nil')))) rfl)).trans ?_
  exact er
/-- three turns of the look -/
theorem turns37 (n j : Nat) (σ : Em.Env) (hj2 : σ[2]? = some (some (.fl j))) (hσ : σ.length = 4) {c : Cell} {F : List Cell} (hj : F[j]? = some c) (hp : Pot c) :
    ∃ c' F', Pot c' ∧ F'[j]? = some c' ∧ evE ⟨evF prog (n + 9), prog.glob, prog.fuel⟩ (.bi .all .fr [.lc .fr (.call 36 .fr [.v 2] []) (.slot 3) (.bi .range1 .fr [.k (.int 2)]) none [3]]) σ ⟨F, []⟩ = .ok (.d (.bool true)) ⟨F', []⟩ := by
  have hf : prog.fuel = 1000000 := rfl
  have er : evE ⟨evF prog (n + 9), prog.glob, prog.fuel⟩ (.bi .range1 .fr [.k (.int 2)]) σ ⟨F, []⟩ = .ok (.d (.list (natD (List.range 2)))) ⟨F, []⟩ := x_range (k := 2) (by omega) x_k
  obtain ⟨s', vs, e2, hI⟩ := loopC_inv (items_list (natD (List.range 2))) (f := lcF ⟨evF prog (n + 9), prog.glob, prog.fuel⟩ (.call 36 .fr [.v 2] []) (.slot 3) none [3] σ)
    (fun i s acc => i ≤ 2 ∧ (∃ c F, Pot c ∧ F[j]? = some c ∧ s = (⟨F, []⟩ : Sto)) ∧ acc = (List.replicate i (Val.d (.bool true)))) (fun i x s acc hx hI => by
      obtain ⟨_, ⟨c, F, hp, hj, rfl⟩, rfl⟩ := hI
      have hil := (List.getElem?_eq_some_iff.mp hx).1
      rw [natD_len, List.length_range] at hil
      obtain ⟨c', F', hp', hj', e⟩ := ev36 n j hj hp
      refine ⟨some (.d (.bool true)), ⟨F', []⟩, ?_, by rw [List.length_replicate]; have hsm : sizeMax = 16777216 := rfl; omega, hil, ⟨c', F', hp', hj', rfl⟩, by rw [List.replicate_succ']⟩
      have hpv : putVal (.slot 3) (.d x) (Em.wipe σ [3]) = some ((Em.wipe σ [3]).set 3 (some (.d x))) := by
        have : 3 < (Em.wipe σ [3]).length := by rw [wipe_len, hσ]; omega
        simp [Em.wipe, hσ]
      have hv2 : ((Em.wipe σ [3]).set 3 (some (.d x)))[2]? = some (some (.fl j)) := by
        simp [Em.wipe, hj2]
      exact lcF_none hpv (x_callP (es_cons' (x_v hv2) es_nil') rfl e)) 2 prog.fuel 0 ⟨F, []⟩ [] (by rw [natD_len, List.length_range]) (by rw [hf]; omega) ⟨by omega, ⟨c, F, hp, hj, rfl⟩, rfl⟩
  rw [natD_len, List.length_range] at hI
  obtain ⟨_, ⟨c', F', hp', hj', rfl⟩, rfl⟩ := hI
  have eb : (List.replicate 2 (Val.d (.bool true))) = ((List.replicate 2 true).map PyData.bool).map Val.d := by simp
  have mv : mkV .fr (List.replicate 2 (Val.d (.bool true))) (⟨F', []⟩ : Sto) = .ok (.d (.list ((List.replicate 2 true).map PyData.bool))) ⟨F', []⟩ := by rw [eb]; exact mkV_fr _ _
  have ha : allB (List.replicate 2 true) = true := rfl
  have ea := x_all ((x_lc er e2).trans mv)
  rw [ha] at ea
  exact ⟨c', F', hp', hj', ea⟩
def bod37 : List S := [.asg (.slot 2) (.call 31 .fl [.v 0, .v 1] []), .ite (.not (.bi .all .fr [.lc .fr (.call 36 .fr [.v 2] []) (.slot 3) (.bi .range1 .fr [.k (.int 2)]) none [3]])) [.ret (.k (.bool false))] []]
/-- the law -/
theorem ev37 (n : Nat) (ns : List Int) (hl : ns.length ≤ 63) : ∃ s', evF prog (n + 10) 37 [.sc ns] [] [] = .ok (.d (.bool true)) s' := by
  have hf : prog.fuel = 1000000 := rfl
  have body : d37.body = [.for_ (.slot 1) (.bi .range1 .fr [.bi .max2 .fr [.k (.int 1), .bi .min2 .fr [.k (.int 3), .bi .len .fr [.v 0]]]]) bod37, .ret (.k (.bool true))] := rfl
  obtain ⟨k, hk3, er⟩ : ∃ k : Nat, k ≤ 3 ∧ ∀ s, evE ⟨evF prog (n + 9), prog.glob, prog.fuel⟩ (.bi .range1 .fr [.bi .max2 .fr [.k (.int 1), .bi .min2 .fr [.k (.int 3), .bi .len .fr [.v 0]]]]) [some (.sc ns), none, none, none] s = .ok (.d (.list (natD (List.range k)))) s := by
    refine ⟨(if (if (ns.length : Int) < 3 then (ns.length : Int) else 3) > 1 then (if (ns.length : Int) < 3 then (ns.length : Int) else 3) else 1).toNat, by split <;> split <;> omega, fun s => ?_⟩
    rw [← range_natD]
    refine range_evI (by split <;> split <;> omega) (by split <;> split <;> omega) ?_
    have el : evE ⟨evF prog (n + 9), prog.glob, prog.fuel⟩ (.bi .len .fr [.v 0]) [some (.sc ns), none, none, none] s = .ok (.d (.int ns.length)) s := by
      rw [x_bi (es_cons' (x_v rfl) es_nil')]
      simp [bi, biL, biV, biL1]
    have em : evE ⟨evF prog (n + 9), prog.glob, prog.fuel⟩ (.bi .min2 .fr [.k (.int 3), .bi .len .fr [.v 0]]) [some (.sc ns), none, none, none] s = .ok (.d (.int (if (ns.length : Int) < 3 then (ns.length : Int) else 3))) s := by
      rw [x_bi (es_cons' x_k (es_cons' el es_nil'))]; rfl
    rw [x_bi (es_cons' x_k (es_cons' em es_nil'))]; rfl
  obtain ⟨σ', s', f, F', p', q', rfl, rfl⟩ := s_forN (n0 := 0) (tg := .slot 1) (body := bod37) (er ⟨[], []⟩) (items_list (natD (List.range k))) (by rw [List.length_range]; show _ < prog.fuel; rw [hf]; omega)
    (fun i σ s => ∃ (F : List Cell) (p q : Option Val), σ = [some (.sc ns), p, q, none] ∧ s = (⟨F, []⟩ : Sto)) ⟨[], none, none, rfl, rfl⟩ fun i hi σ s hI => by
      obtain ⟨F, p, q, rfl, rfl⟩ := hI
      rw [List.length_range] at hi
      rw [List.getElem_range]
      obtain ⟨c, hp, e31⟩ := ev31 (n + 8) ns i F
      have c31 : evE ⟨evF prog (n + 9), prog.glob, prog.fuel⟩ (.call 31 .fl [.v 0, .v 1] []) [some (.sc ns), some (.d (.int (i : Int))), q, none] ⟨F, []⟩ = .ok (.fl F.length) ⟨F ++ [c], []⟩ := by
        rw [x_call (es_cons' (x_v rfl) (es_cons' (x_v rfl) es_nil')) rfl]
        show called .fl _ (evF prog (n + 8 + 1) 31 [.sc ns, .d (.int i)] [] F) = _
        rw [e31]
        simp [called]
      have f1 : evS ⟨evF prog (n + 9), prog.glob, prog.fuel⟩ 0 (.asg (.slot 2) (.call 31 .fl [.v 0, .v 1] [])) [some (.sc ns), some (.d (.int (i : Int))), q, none] ⟨F, []⟩ = .ok (.nx, [some (.sc ns), some (.d (.int (i : Int))), some (.fl F.length), none]) ⟨F ++ [c], []⟩ := s_asg c31 (by simp)
      obtain ⟨c', F', hp', hj', ea⟩ := turns37 n F.length [some (.sc ns), some (.d (.int (i : Int))), some (.fl F.length), none] rfl rfl (F := F ++ [c]) (by rw [List.getElem?_append_right (Nat.le_refl _)]; simp) hp
      have tn := x_tst (x_not (x_tst ea))
      exact ⟨[some (.sc ns), some (.d (.int (i : Int))), q, none], [some (.sc ns), some (.d (.int (i : Int))), some (.fl F.length), none], ⟨F', []⟩, rfl, (ss_nx f1).trans ((ss_nx ((s_ite_f tn).trans ss_nil)).trans ss_nil), F', _, _, rfl, rfl⟩
  refine ⟨⟨F'.take 0, []⟩, ?_⟩
  rw [evF_step (d := d37) rfl rfl, body]
  have s0 : Em.start d37 [.sc ns] = [some (.sc ns), none, none, none] := rfl
  rw [s0]
  show (evSs ⟨evF prog (n + 9), prog.glob, prog.fuel⟩ 0 _ _ _).bd _ = _
  rw [ss_nx f, ss_rt (s_ret (x_k (p := .bool true)))]
  simp only [R.bd_ok, Em.finish]
  rfl
end Wk
end

section
set_option Elab.async false
set_option linter.all false
set_option maxRecDepth 100000
set_option maxHeartbeats 0
namespace Wk
open PySem PySem.Spec PyProof.Rows L2 Em
theorem law_eval : ∀ ns : List Int, ns.length ≤ 63 → ∃ s', evF prog 40 37 [.sc ns] [] [] = .ok (.d (.bool true)) s' := fun ns h => ev37 30 ns h
/-! the head: own hook, with the place of sys.modules -/
def sysOk (K : PySem.W.Frag) : Bool := match K.lookup sysModules with
  | some ⟨.type c, _, _, _⟩ => decide (c = "dict")
  | _ => false
theorem sys_ok {K : PySem.W.Frag} (h : sysOk K = true) : ∃ o, K.lookup sysModules = some o ∧ o.cls = .type "dict" := by
  unfold sysOk at h
  split at h
  · rename_i c a b d e
    exact ⟨_, e, by rw [of_decide_eq_true h]⟩
  · cases h
def obsS (n : Nat) (fa : List He.Fa) (fn : List He.DefD) (g : Addr → Option Obj) : Bool × He.AlD := (sysOk (He.frG g (sysModules :: He.asD g n)), He.obsD fa fn (He.frG g (sysModules :: He.asD g n)))
def hookS (n : Nat) (fa : List He.Fa) (fn : List He.DefD) : PySem.W.Hook where
  α := Bool × He.AlD
  obs := fun s => obsS n fa fn s.heap.get?
  val := fun _ => (true, He.valD fn)
  says := fun _ h => ∃ K : PySem.W.Frag, K.In h ∧ sysOk K = true ∧ He.SaysD fa fn K
  of := fun _ _ e => ⟨_, He.frG_in, congrArg Prod.fst e, congrArg Prod.snd e⟩
  keeps := fun _ _ _ ⟨K, hK, c⟩ k => ⟨K, PySem.W.Frag.In.keeps hK k, c⟩
theorem obsS_eq {n : Nat} {fa : List He.Fa} {fn : List He.DefD} {g : Addr → Option Obj} {s : Shared} (h : ∀ a, g a = s.heap.get? a) : obsS n fa fn g = (hookS n fa fn).obs s := by
  have e : g = s.heap.get? := funext h
  subst e
  rfl
def mkD (x : Str) (i : Nat) : He.DefD := ⟨(x, none), x, x, defArgs (top i), defBody (top i), defScope (top i), [], []⟩
def fn0 : List He.DefD := [mkD "is_integer" 1, mkD "is_within" 2, mkD "is_tuple" 3, mkD "are_rising" 4, mkD "is_lot_of" 5, mkD "is_road_value" 16, mkD "is_shire_value" 17, mkD "want_shire" 18, mkD "is_village_of" 19, mkD "want_village" 20, mkD "want_lot" 21, mkD "all_roads" 22, mkD "all_villages" 23, mkD "ends_of" 24, mkD "other_end" 25, mkD "roads_at" 26, mkD "reached_by" 27, mkD "pieces_by" 28, mkD "rank_of" 29, mkD "pieces_along" 30, mkD "walks_from" 32, mkD "is_forest_of" 33, mkD "ring_of" 34, mkD "grown" 35, mkD "walk" 36]
def fn1 : List He.DefD := [mkD "ring" 37, mkD "is_forest" 38, mkD "first_forest" 39, mkD "with_roads" 41, mkD "left_out" 42, mkD "without" 43, mkD "_law_pot" 45, mkD "_law_draw" 46, mkD "_law_shire" 47, mkD "_law_lot" 48, mkD "_law_rank" 49, mkD "_law_right" 50, mkD "law" 51]
def fn : List He.DefD := fn0 ++ fn1
def fa0 : List He.Fa := [.glo "is_integer", .glo "is_within", .glo "is_tuple", .glo "are_rising", .glo "is_lot_of", .glo "is_road_value", .glo "is_shire_value", .glo "want_shire", .glo "is_village_of", .glo "want_village", .glo "want_lot", .glo "all_roads", .glo "all_villages", .glo "ends_of", .glo "other_end", .glo "roads_at", .glo "reached_by", .glo "pieces_by", .glo "rank_of", .glo "pieces_along", .glo "walks_from", .glo "is_forest_of", .glo "ring_of", .glo "grown", .glo "walk"]
def fa1 : List He.Fa := [.glo "ring", .glo "is_forest", .glo "first_forest", .glo "with_roads", .glo "left_out", .glo "without", .glo "_law_pot", .glo "_law_draw", .glo "_law_shire", .glo "_law_lot", .glo "_law_rank", .glo "_law_right", .glo "law", .int "MOST_COST" 99, .int "MOST_ROADS" 30, .int "MOST_ROOM" 9, .int "MOST_VILLAGES" 10, .free "abs", .free "all", .free "bool", .free "divmod", .free "enumerate", .free "int", .free "isinstance", .free "len"]
def fa2 : List He.Fa := [.free "list", .free "max", .free "min", .free "range", .free "set", .free "sorted", .free "str", .free "tuple", .free "zip"]
def fa : List He.Fa := fa0 ++ fa1 ++ fa2
def nms0 : List Str := ["is_integer", "is_within", "is_tuple", "are_rising", "is_lot_of", "is_road_value", "is_shire_value", "want_shire", "is_village_of", "want_village", "want_lot", "all_roads", "all_villages", "ends_of", "other_end", "roads_at", "reached_by", "pieces_by", "rank_of", "pieces_along", "walks_from", "is_forest_of", "ring_of", "grown", "walk", "ring", "is_forest", "first_forest", "with_roads", "left_out"]
def nms1 : List Str := ["without", "_law_pot", "_law_draw", "_law_shire", "_law_lot", "_law_rank", "_law_right", "law"]
def nms : List Str := nms0 ++ nms1
abbrev Rw : PySem.W.OpenRow := PySem.W.OpenLaw.row PySem.Challenge.rw_roadkeepers_k24_whole_ranks_of_lots
abbrev hk : PySem.W.Hook := hookS 4 fa fn
def ob (s : PySem.W.SharedT) : Bool × He.AlD := obsS 4 fa fn (HandSHeadRun.getT s)
theorem ob_eq (s : PySem.W.SharedT) : ob s = hk.obs s.abs := obsS_eq (HandSHeadRun.getT_eq s)
def loose0 : List Str := ["is_integer", "is_within", "is_tuple", "are_rising", "is_lot_of", "ShireError", "InvalidShire", "InvalidVillage", "InvalidLot", "MOST_VILLAGES", "MOST_ROADS", "MOST_COST", "MOST_ROOM", "is_road_value", "is_shire_value", "want_shire", "is_village_of", "want_village", "want_lot", "all_roads", "all_villages", "ends_of", "other_end", "roads_at", "reached_by", "pieces_by", "rank_of", "pieces_along", "walks_from", "is_forest_of"]
def loose1 : List Str := ["ring_of", "grown", "walk", "ring", "is_forest", "first_forest", "with_roads", "left_out", "without", "_law_pot", "_law_draw", "_law_shire", "_law_lot", "_law_rank", "_law_right"]
def loose : List Str := loose0 ++ loose1
theorem run (w : World) : HandSHeadRun.RunEq Rw (PySem.W.view Rw.prog [51]) hk ob 3000 loose w := by
  intro os
  kernel_rfl
theorem tb {K : PySem.W.Frag} {h : Heap} {mg : Str → Option Value} (X : K.In h) (G : h.Ns mainGlobals mg) (hs : sysOk K = true) (c : He.SaysD fa fn K) : ∃ fd : Nat → FuncData, Tb K mg (fun j => He.ga K (nms.getD j "")) fd := by
  obtain ⟨fd0, F0⟩ := c.def_ 0 (d := mkD "is_integer" 1) rfl
  obtain ⟨fd1, F1⟩ := c.def_ 1 (d := mkD "is_within" 2) rfl
  obtain ⟨fd2, F2⟩ := c.def_ 2 (d := mkD "is_tuple" 3) rfl
  obtain ⟨fd3, F3⟩ := c.def_ 3 (d := mkD "are_rising" 4) rfl
  obtain ⟨fd4, F4⟩ := c.def_ 4 (d := mkD "is_lot_of" 5) rfl
  obtain ⟨fd5, F5⟩ := c.def_ 5 (d := mkD "is_road_value" 16) rfl
  obtain ⟨fd6, F6⟩ := c.def_ 6 (d := mkD "is_shire_value" 17) rfl
  obtain ⟨fd7, F7⟩ := c.def_ 7 (d := mkD "want_shire" 18) rfl
  obtain ⟨fd8, F8⟩ := c.def_ 8 (d := mkD "is_village_of" 19) rfl
  obtain ⟨fd9, F9⟩ := c.def_ 9 (d := mkD "want_village" 20) rfl
  obtain ⟨fd10, F10⟩ := c.def_ 10 (d := mkD "want_lot" 21) rfl
  obtain ⟨fd11, F11⟩ := c.def_ 11 (d := mkD "all_roads" 22) rfl
  obtain ⟨fd12, F12⟩ := c.def_ 12 (d := mkD "all_villages" 23) rfl
  obtain ⟨fd13, F13⟩ := c.def_ 13 (d := mkD "ends_of" 24) rfl
  obtain ⟨fd14, F14⟩ := c.def_ 14 (d := mkD "other_end" 25) rfl
  obtain ⟨fd15, F15⟩ := c.def_ 15 (d := mkD "roads_at" 26) rfl
  obtain ⟨fd16, F16⟩ := c.def_ 16 (d := mkD "reached_by" 27) rfl
  obtain ⟨fd17, F17⟩ := c.def_ 17 (d := mkD "pieces_by" 28) rfl
  obtain ⟨fd18, F18⟩ := c.def_ 18 (d := mkD "rank_of" 29) rfl
  obtain ⟨fd19, F19⟩ := c.def_ 19 (d := mkD "pieces_along" 30) rfl
  obtain ⟨fd20, F20⟩ := c.def_ 20 (d := mkD "walks_from" 32) rfl
  obtain ⟨fd21, F21⟩ := c.def_ 21 (d := mkD "is_forest_of" 33) rfl
  obtain ⟨fd22, F22⟩ := c.def_ 22 (d := mkD "ring_of" 34) rfl
  obtain ⟨fd23, F23⟩ := c.def_ 23 (d := mkD "grown" 35) rfl
  obtain ⟨fd24, F24⟩ := c.def_ 24 (d := mkD "walk" 36) rfl
  obtain ⟨fd25, F25⟩ := c.def_ 25 (d := mkD "ring" 37) rfl
  obtain ⟨fd26, F26⟩ := c.def_ 26 (d := mkD "is_forest" 38) rfl
  obtain ⟨fd27, F27⟩ := c.def_ 27 (d := mkD "first_forest" 39) rfl
  obtain ⟨fd28, F28⟩ := c.def_ 28 (d := mkD "with_roads" 41) rfl
  obtain ⟨fd29, F29⟩ := c.def_ 29 (d := mkD "left_out" 42) rfl
  obtain ⟨fd30, F30⟩ := c.def_ 30 (d := mkD "without" 43) rfl
  obtain ⟨fd31, F31⟩ := c.def_ 31 (d := mkD "_law_pot" 45) rfl
  obtain ⟨fd32, F32⟩ := c.def_ 32 (d := mkD "_law_draw" 46) rfl
  obtain ⟨fd33, F33⟩ := c.def_ 33 (d := mkD "_law_shire" 47) rfl
  obtain ⟨fd34, F34⟩ := c.def_ 34 (d := mkD "_law_lot" 48) rfl
  obtain ⟨fd35, F35⟩ := c.def_ 35 (d := mkD "_law_rank" 49) rfl
  obtain ⟨fd36, F36⟩ := c.def_ 36 (d := mkD "_law_right" 50) rfl
  obtain ⟨fd37, F37⟩ := c.def_ 37 (d := mkD "law" 51) rfl
  refine ⟨fun j => (([fd0, fd1, fd2, fd3, fd4, fd5, fd6, fd7, fd8, fd9, fd10, fd11, fd12, fd13, fd14, fd15, fd16, fd17, fd18, fd19, fd20, fd21, fd22, fd23, fd24] : List FuncData) ++ ([fd25, fd26, fd27, fd28, fd29, fd30, fd31, fd32, fd33, fd34, fd35, fd36, fd37] : List FuncData)).getD j fd0, {
    sysd := sys_ok hs
    n_abs := He.free_ok X G (c.fact 42 (f := .free "abs") rfl)
    n_all := He.free_ok X G (c.fact 43 (f := .free "all") rfl)
    n_bool := He.free_ok X G (c.fact 44 (f := .free "bool") rfl)
    n_divmod := He.free_ok X G (c.fact 45 (f := .free "divmod") rfl)
    n_enumerate := He.free_ok X G (c.fact 46 (f := .free "enumerate") rfl)
    n_int := He.free_ok X G (c.fact 47 (f := .free "int") rfl)
    n_isinstance := He.free_ok X G (c.fact 48 (f := .free "isinstance") rfl)
    n_len := He.free_ok X G (c.fact 49 (f := .free "len") rfl)
    n_list := He.free_ok X G (c.fact 50 (f := .free "list") rfl)
    n_max := He.free_ok X G (c.fact 51 (f := .free "max") rfl)
    n_min := He.free_ok X G (c.fact 52 (f := .free "min") rfl)
    n_range := He.free_ok X G (c.fact 53 (f := .free "range") rfl)
    n_set := He.free_ok X G (c.fact 54 (f := .free "set") rfl)
    n_sorted := He.free_ok X G (c.fact 55 (f := .free "sorted") rfl)
    n_str := He.free_ok X G (c.fact 56 (f := .free "str") rfl)
    n_tuple := He.free_ok X G (c.fact 57 (f := .free "tuple") rfl)
    n_zip := He.free_ok X G (c.fact 58 (f := .free "zip") rfl)
    g_MOST_COST := He.int_ok X G (c.fact 38 (f := .int "MOST_COST" 99) rfl)
    g_MOST_ROADS := He.int_ok X G (c.fact 39 (f := .int "MOST_ROADS" 30) rfl)
    g_MOST_ROOM := He.int_ok X G (c.fact 40 (f := .int "MOST_ROOM" 9) rfl)
    g_MOST_VILLAGES := He.int_ok X G (c.fact 41 (f := .int "MOST_VILLAGES" 10) rfl)
    m_0 := He.glo_ok X G (c.fact 0 (f := .glo "is_integer") rfl)
    F_0 := F0
    m_1 := He.glo_ok X G (c.fact 1 (f := .glo "is_within") rfl)
    F_1 := F1
    m_2 := He.glo_ok X G (c.fact 2 (f := .glo "is_tuple") rfl)
    F_2 := F2
    m_3 := He.glo_ok X G (c.fact 3 (f := .glo "are_rising") rfl)
    F_3 := F3
    m_4 := He.glo_ok X G (c.fact 4 (f := .glo "is_lot_of") rfl)
    F_4 := F4
    m_5 := He.glo_ok X G (c.fact 5 (f := .glo "is_road_value") rfl)
    F_5 := F5
    m_6 := He.glo_ok X G (c.fact 6 (f := .glo "is_shire_value") rfl)
    F_6 := F6
    m_7 := He.glo_ok X G (c.fact 7 (f := .glo "want_shire") rfl)
    F_7 := F7
    m_8 := He.glo_ok X G (c.fact 8 (f := .glo "is_village_of") rfl)
    F_8 := F8
    m_9 := He.glo_ok X G (c.fact 9 (f := .glo "want_village") rfl)
    F_9 := F9
    m_10 := He.glo_ok X G (c.fact 10 (f := .glo "want_lot") rfl)
    F_10 := F10
    m_11 := He.glo_ok X G (c.fact 11 (f := .glo "all_roads") rfl)
    F_11 := F11
    m_12 := He.glo_ok X G (c.fact 12 (f := .glo "all_villages") rfl)
    F_12 := F12
    m_13 := He.glo_ok X G (c.fact 13 (f := .glo "ends_of") rfl)
    F_13 := F13
    m_14 := He.glo_ok X G (c.fact 14 (f := .glo "other_end") rfl)
    F_14 := F14
    m_15 := He.glo_ok X G (c.fact 15 (f := .glo "roads_at") rfl)
    F_15 := F15
    m_16 := He.glo_ok X G (c.fact 16 (f := .glo "reached_by") rfl)
    F_16 := F16
    m_17 := He.glo_ok X G (c.fact 17 (f := .glo "pieces_by") rfl)
    F_17 := F17
    m_18 := He.glo_ok X G (c.fact 18 (f := .glo "rank_of") rfl)
    F_18 := F18
    m_19 := He.glo_ok X G (c.fact 19 (f := .glo "pieces_along") rfl)
    F_19 := F19
    m_20 := He.glo_ok X G (c.fact 20 (f := .glo "walks_from") rfl)
    F_20 := F20
    m_21 := He.glo_ok X G (c.fact 21 (f := .glo "is_forest_of") rfl)
    F_21 := F21
    m_22 := He.glo_ok X G (c.fact 22 (f := .glo "ring_of") rfl)
    F_22 := F22
    m_23 := He.glo_ok X G (c.fact 23 (f := .glo "grown") rfl)
    F_23 := F23
    m_24 := He.glo_ok X G (c.fact 24 (f := .glo "walk") rfl)
    F_24 := F24
    m_25 := He.glo_ok X G (c.fact 25 (f := .glo "ring") rfl)
    F_25 := F25
    m_26 := He.glo_ok X G (c.fact 26 (f := .glo "is_forest") rfl)
    F_26 := F26
    m_27 := He.glo_ok X G (c.fact 27 (f := .glo "first_forest") rfl)
    F_27 := F27
    m_28 := He.glo_ok X G (c.fact 28 (f := .glo "with_roads") rfl)
    F_28 := F28
    m_29 := He.glo_ok X G (c.fact 29 (f := .glo "left_out") rfl)
    F_29 := F29
    m_30 := He.glo_ok X G (c.fact 30 (f := .glo "without") rfl)
    F_30 := F30
    m_31 := He.glo_ok X G (c.fact 31 (f := .glo "_law_pot") rfl)
    F_31 := F31
    m_32 := He.glo_ok X G (c.fact 32 (f := .glo "_law_draw") rfl)
    F_32 := F32
    m_33 := He.glo_ok X G (c.fact 33 (f := .glo "_law_shire") rfl)
    F_33 := F33
    m_34 := He.glo_ok X G (c.fact 34 (f := .glo "_law_lot") rfl)
    F_34 := F34
    m_35 := He.glo_ok X G (c.fact 35 (f := .glo "_law_rank") rfl)
    F_35 := F35
    m_36 := He.glo_ok X G (c.fact 36 (f := .glo "_law_right") rfl)
    F_36 := F36
    m_37 := He.glo_ok X G (c.fact 37 (f := .glo "law") rfl)
    F_37 := F37 }⟩
end Wk
open PySem PySem.W PySem.Calls PyProof.Rows
theorem PySem.Challenge.cw_roadkeepers_k24_whole_ranks_of_lots_holds : PySem.Challenge.rw_roadkeepers_k24_whole_ranks_of_lots.Holds := by
  w_on; o_law
  refine HandSHeadRun.head_any (r := OpenLaw.row PySem.Challenge.rw_roadkeepers_k24_whole_ranks_of_lots) (q := view (OpenLaw.row PySem.Challenge.rw_roadkeepers_k24_whole_ranks_of_lots).prog [51]) (H := Wk.hk) (ob := Wk.ob) (M := 3000) (loose := Wk.loose) (d := HandSHeadRun.topDef (OpenLaw.row PySem.Challenge.rw_roadkeepers_k24_whole_ranks_of_lots).prog 51) (kwd := []) Wk.ob_eq
    (by kernel_rfl) (fun s => by kernel_rfl) Wk.run (by kernel_rfl) (by kernel_rfl) (by kernel_rfl) (by rfl) (by first | assumption | decide +kernel) (by decide +kernel) ⟨rfl, rfl, rfl, rfl, rfl, by decide +kernel⟩ ?hw ?hc
  case hw => w_witness2
  case hc =>
    refine Em.walk_ofG (l := PySem.Challenge.rw_roadkeepers_k24_whole_ranks_of_lots) (n := 63) (k := 40) (x := "script") (Pg := Wk.prog) (i := 37) rfl (by decide) (by kernel_rfl) ⟨rfl, by decide, by decide⟩ Wk.law_eval ?F
    intro w mg fa h Y G hmg0
    obtain ⟨K, KX, hs, c⟩ := Y
    have hmg : mg ("law" : PySem.Str) = some (.ref fa) := by
      have e : (HandSHeadRun.topDef (OpenLaw.row PySem.Challenge.rw_roadkeepers_k24_whole_ranks_of_lots).prog 51).name = ("law" : PySem.Str) := by kernel_rfl
      rw [← e]
      exact hmg0
    obtain ⟨fd, T⟩ := Wk.tb KX G hs c
    have e := hmg.symm.trans T.m_37
    cases e
    exact ⟨K, fd 37, KX, fun s u => L2.FunD.bindsA (ps := ["script"]) T.F_37 (fun _ _ _ _ _ _ us hl => match us, hl with | [_], _ => rfl) s [u] rfl, fun base _ _ => (Wk.all_lv T 40).L_37⟩
end

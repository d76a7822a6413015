import PyProof.Rows.All
import Wide.All
import OpenK.AllK
import Wide.FinOn
import HandS.ForMost
import HandS.ForExc
import HandS.IsInst
import HandS.TupAny
import HandS.Zip
import HandS.Wide
import HandS.Star
import HandS.Walk
import HandS.NoneIn
import HandS.Flow
import HandS.Style
import HandS.EndBits
import HandS.Codes
import PySem.Challenge.RW_numbertypes_k02_integers_names_and_share
set_option linter.all false
namespace NT
open PySem

/-- abstract values: tuples, lists, finished objects by value; what is mutated by its place in the heap -/
inductive AV where
  | non | bl (b : Bool) | int (i : Int) | str (s : Str) | ty (n : String)
  | tup (xs : List AV) | lst (xs : List AV) | obj (c : Nat) (ks : List Nat) (vs : List AV)
  | ref (n : Nat) | cls (c : Nat) | fn (f : Nat)
  deriving Inhabited

inductive AObj where
  | dead | lst (xs : List AV) | ins (c : Nat) (ks : List Nat) (vs : List AV)
  deriving Inhabited
abbrev AHeap := List AObj
abbrev Loc := List (Option AV)

/-- what a piece of code comes to -/
inductive Out (α : Type) where
  | ok (a : α) (h : AHeap) | exc (c : Nat) (ks : List Nat) (vs : List AV) (h : AHeap) | bad
abbrev M (α : Type) := AHeap → Out α
def M.bind {α β : Type} (m : M α) (f : α → M β) : M β := fun h => match m h with
  | .ok a h' => f a h'
  | .exc c ks vs h' => .exc c ks vs h'
  | .bad => .bad
def M.pure {α : Type} (a : α) : M α := fun h => .ok a h
def M.bad {α : Type} : M α := fun _ => .bad
instance : Monad M where
  pure := M.pure
  bind := M.bind
def M.guard (b : Bool) : M Unit := fun h => if b = true then .ok () h else .bad
def M.of {α : Type} : Option α → M α
  | some a => M.pure a
  | none => M.bad

/-- built-in functions and classes that are called -/
inductive B where
  | len | abs | int | bool | str | isinstance | all | any | sum | max | min | list | tuple | sorted | repr | type
  deriving DecidableEq, Inhabited
/-- methods of built-in classes -/
inductive BM where
  | join | append | index | get | split | partition | isdigit | startswith | rjust | pop | clear | insert | replace | items | values | count
  deriving DecidableEq, Inhabited

inductive E where
  | cst (v : AV) | var (i : Nat)
  | bin (op : Operator) (a b : E) | neg (a : E)
  | cmp (op : CmpOp) (a b : E) | chn (op op' : CmpOp) (a b c : E)
  | and (a b : E) | or (a b : E) | not (a : E) | notv (a : E) | ifx (t a b : E)
  | nil | cons (a r : E) | star (a r : E)
  | tup (es : E) | lst (es : E)
  | sub (a i : E) | slc (a lo hi : E) | slcL (a lo : E) | slcH (a hi : E) | attr (a : E) (f : Nat)
  | call (f : Nat) (es : E) | meth (o : E) (m : Nat) (es : E) | new (c : Nat) (es : E) | blt (b : B) (es : E) | bm (m : BM) (o es : E)
  | rng (a b : E) | zip (a b : E) | enm (a : E)
  | lc (tg : List Nat) (vs : List Nat) (it cond elt : E)
  | mlst (es : E) | tv (a : E) | itv (a : E)
  deriving Inhabited
inductive S where
  | skip | seq (a b : S) | expr (e : E) | ret (e : E) | asg (i : Nat) (e : E) | unp (is : List Nat) (e : E) | par (is : List Nat) (es : E)
  | setSub (o i v : E) | setFld (o : E) (f : Nat) (v : E) | aug (i : Nat) (op : Operator) (e : E)
  | ife (t : E) (a b : S) | for_ (tg : List Nat) (it : E) (b : S) | whl (t : E) (b : S) | brk | cnt
  deriving Inhabited

end NT
set_option linter.all false
namespace NT
open PySem

def line : Nat := 16777216
/-! ### arithmetic: what the model's rules let -/
def mulOk (i j : Int) : Bool := decide (i.natAbs < 2 ^ 64) || decide (j.natAbs < 2 ^ 64) || decide (i.natAbs.log2 + j.natAbs.log2 < 1000000)
def divOk (j : Int) : Bool := decide (j ≠ 0) && (decide (j.natAbs < 1073741824) || (decide (0 < j) && decide (j.natAbs.log2 < 9000)))
def powOk (i j : Int) : Bool := decide (0 ≤ j) && decide (j ≤ 1000000) && decide (i.natAbs < 2 ^ 64)
def rngOk (i j : Int) : Bool := decide (-(2 ^ 62) ≤ i) && decide (i < 2 ^ 62) && decide (-(2 ^ 62) ≤ j) && decide (j < 2 ^ 62)

/-! ### data -/
mutual
def toD : AV → Option PyData
  | .non => some .none
  | .bl b => some (.bool b)
  | .int i => some (.int i)
  | .str s => some (.str s)
  | .tup xs => (toDs xs).map .tuple
  | .lst xs => (toDs xs).map .list
  | _ => none
def toDs : List AV → Option (List PyData)
  | [] => some []
  | x :: xs => match toD x, toDs xs with
    | some d, some ds => some (d :: ds)
    | _, _ => none
end
def flat : AV → Bool
  | .non => true | .bl _ => true | .int _ => true | .str _ => true | _ => false
def eqF : AV → AV → Bool
  | .non, .non => true
  | .bl a, .bl b => a == b
  | .bl a, .int j => (if a then 1 else 0) == j
  | .int i, .bl b => i == (if b then 1 else 0)
  | .int i, .int j => i == j
  | .str x, .str y => x == y
  | _, _ => false
/-- == of data -/
def eqA (a b : AV) : Option Bool :=
  if flat a && flat b then some (eqF a b) else
  match toD a, toD b with
  | some d, some e => if SeqAt.shaped d && SeqAt.shaped e then some (PyData.eqv d e) else none
  | _, _ => none

def ok1 {α : Type} (b : Bool) (a : α) : M α := fun h => if b = true then .ok a h else .bad

def binV : Operator → AV → AV → M AV
  | .Add, .int i, .int j => M.pure (.int (i + j))
  | .Add, .str x, .str y => ok1 (decide (x.length + y.length ≤ line)) (.str (x ++ y))
  | .Add, .lst xs, .lst ys => ok1 (decide (xs.length + ys.length ≤ line)) (.lst (xs ++ ys))
  | .Add, .tup xs, .tup ys => ok1 (decide (xs.length + ys.length ≤ line)) (.tup (xs ++ ys))
  | .Sub, .int i, .int j => M.pure (.int (i - j))
  | .Mult, .int i, .int j => ok1 (mulOk i j) (.int (i * j))
  | .FloorDiv, .int i, .int j => ok1 (divOk j) (.int (i.fdiv j))
  | .Mod, .int i, .int j => ok1 (decide (j ≠ 0)) (.int (i.fmod j))
  | .Pow, .int i, .int j => ok1 (powOk i j) (.int (i ^ j.toNat))
  | .LShift, .int i, .int j => ok1 (powOk i j) (.int (i * 2 ^ j.toNat))
  | .BitAnd, .int i, .int j => M.pure (.int (Builtin.bitAnd i j))
  | .BitOr, .int i, .int j => M.pure (.int (Builtin.bitOr i j))
  | .BitXor, .int i, .int j => M.pure (.int (Builtin.bitXor i j))
  | _, _, _ => M.bad
def negV : AV → M AV
  | .int i => M.pure (.int (-i))
  | _ => M.bad
def inF (x : AV) (ys : List AV) : Bool := ys.any fun y => eqF y x
def cmpV : CmpOp → AV → AV → M AV
  | .Eq, a, b => M.of ((eqA a b).map .bl)
  | .NotEq, a, b => M.of ((eqA a b).map fun r => .bl (!r))
  | .Lt, .int i, .int j => M.pure (.bl (decide (i < j)))
  | .LtE, .int i, .int j => M.pure (.bl (decide (i ≤ j)))
  | .Gt, .int i, .int j => M.pure (.bl (decide (j < i)))
  | .GtE, .int i, .int j => M.pure (.bl (decide (j ≤ i)))
  | .Lt, .str x, .str y => M.pure (.bl (decide (x.cps.toList < y.cps.toList)))
  | .Is, a, .non => M.pure (.bl (match a with | .non => true | _ => false))
  | .IsNot, a, .non => M.pure (.bl (match a with | .non => false | _ => true))
  | .In, .str x, .str y => M.pure (.bl (!(Builtin.Str.occurrences y x 0 y.length 1).isEmpty))
  | .NotIn, .str x, .str y => M.pure (.bl (Builtin.Str.occurrences y x 0 y.length 1).isEmpty)
  | .In, x, .lst ys => ok1 (flat x && ys.all flat) (.bl (inF x ys))
  | .In, x, .tup ys => ok1 (flat x && ys.all flat) (.bl (inF x ys))
  | .NotIn, x, .lst ys => ok1 (flat x && ys.all flat) (.bl (!inF x ys))
  | .NotIn, x, .tup ys => ok1 (flat x && ys.all flat) (.bl (!inF x ys))
  | _, _, _ => M.bad
/-- a op= b -/
def augV : Operator → AV → AV → M AV
  | .Add, .int i, .int j => M.pure (.int (i + j))
  | .Sub, .int i, .int j => M.pure (.int (i - j))
  | .Mult, .int i, .int j => ok1 (decide (i.natAbs < 2 ^ 64) || decide (j.natAbs < 2 ^ 64)) (.int (i * j))
  | .FloorDiv, .int i, .int j => ok1 (decide (0 < j) && decide (j < 1073741824)) (.int (i / j))
  | .Add, .str x, .str y => ok1 (decide (x.length + y.length ≤ line)) (.str (x ++ y))
  | _, _, _ => M.bad
/-- truth; a list of the heap too -/
def truV : AV → M Bool
  | .non => M.pure false
  | .bl b => M.pure b
  | .int i => M.pure (i != 0)
  | .str s => ok1 (decide (s.length ≤ line)) ((s.length : Int) != 0)
  | .tup xs => M.pure (!xs.isEmpty)
  | .lst xs => M.pure (!xs.isEmpty)
  | _ => M.bad
def asB : AV → M Bool
  | .bl b => M.pure b
  | _ => M.bad
def chr1 (c : Nat) : AV := .str ⟨#[c]⟩
def lstAt (h : AHeap) (n : Nat) : Option (List AV) := match h[n]? with
  | some (.lst xs) => some xs
  | _ => none
def subV : AV → AV → M AV
  | .lst xs, .int i => M.of (L2.atI xs i)
  | .tup xs, .int i => M.of (L2.atI xs i)
  | .str s, .int i => if s.length ≤ line then M.of ((L2.atI s.cps.toList i).map chr1) else M.bad
  | .ref n, .int i => fun h => match lstAt h n with
    | some xs => M.of (L2.atI xs i) h
    | none => .bad
  | _, _ => M.bad
def asI : AV → M Int
  | .int i => M.pure i
  | _ => M.bad
def cut {α : Type} (xs : List α) (lo hi : Option Int) : List α := (xs.drop (HT.sIx xs.length 0 lo)).take (HT.sIx xs.length xs.length hi - HT.sIx xs.length 0 lo)
def slcV (a : AV) (l u : Option Int) : M AV := match a with
  | .lst xs => M.pure (.lst (cut xs l u))
  | .tup xs => M.pure (.tup (cut xs l u))
  | .str s => ok1 (decide (s.length ≤ line)) (.str (L2.cutS s l u))
  | _ => M.bad
def setSubV : AV → AV → AV → M Unit
  | .ref n, .int i, v => fun h => match lstAt h n with
    | some xs => (match L2.ixN xs.length i with
      | some j => .ok () (h.set n (.lst (xs.set j v)))
      | none => .bad)
    | none => .bad
  | _, _, _ => M.bad

/-! ### built-ins -/
def tyN : AV → Option String
  | .non => some "NoneType" | .bl _ => some "bool" | .int _ => some "int" | .str _ => some "str" | .tup _ => some "tuple" | .lst _ => some "list"
  | _ => none
/-- isinstance of a built-in class, told for the few that are asked -/
def isTy (a : AV) (T : String) : Option Bool := match tyN a with
  | some n => if T = "int" ∨ T = "bool" ∨ T = "str" ∨ T = "list" ∨ T = "tuple" then some (decide (n = T) || (decide (n = "bool") && decide (T = "int"))) else none
  | none => none
def allB : List AV → Option (List Bool)
  | [] => some []
  | .bl b :: r => (allB r).map (b :: ·)
  | _ => none
def allI : List AV → Option (List Int)
  | [] => some []
  | .int b :: r => (allI r).map (b :: ·)
  | _ => none
def allS : List AV → Option (List Str)
  | [] => some []
  | .str b :: r => (allS r).map (b :: ·)
  | _ => none
def bltV : B → List AV → M AV
  | .len, [.lst xs] => M.pure (.int xs.length)
  | .len, [.tup xs] => M.pure (.int xs.length)
  | .len, [.str s] => ok1 (decide (s.length ≤ line)) (.int s.length)
  | .len, [.ref n] => fun h => match lstAt h n with
    | some xs => .ok (.int xs.length) h
    | none => .bad
  | .abs, [.int i] => M.pure (.int (if i < 0 then -i else i))
  | .int, [.int i] => M.pure (.int i)
  | .int, [.bl b] => M.pure (.int (if b then 1 else 0))
  | .bool, [.int i] => M.pure (.bl (i != 0))
  | .bool, [.bl b] => M.pure (.bl b)
  | .str, [.int i] => ok1 (decide (i.natAbs.log2 < 1920)) (.str (Str.ofString (toString i)))
  | .isinstance, [a, .ty T] => M.of ((isTy a T).map .bl)
  | .all, [.lst xs] => M.of ((allB xs).map fun bs => .bl (bs.all id))
  | .any, [.lst xs] => M.of ((allB xs).map fun bs => .bl (bs.any id))
  | .sum, [.lst xs] => M.of ((allI xs).map fun ns => .int ns.sum)
  | .max, [.int i, .int j] => M.pure (.int (if j > i then j else i))
  | .min, [.int i, .int j] => M.pure (.int (if j < i then j else i))
  | .list, [.lst xs] => M.pure (.lst xs)
  | .list, [.tup xs] => M.pure (.lst xs)
  | .tuple, [.lst xs] => M.pure (.tup xs)
  | .tuple, [.tup xs] => M.pure (.tup xs)
  | _, _ => M.bad
def joinV (sep : Str) (ss : Option (List Str)) : M AV := match ss with
  | some ss => ok1 (decide ((ss.map (·.length)).sum + ss.length * sep.length ≤ line)) (.str (Txt.join sep ss))
  | none => M.bad
/-- the receiver is of the method's own class -/
def bmTy : BM → AV → Bool
  | .join, .str _ => true
  | _, _ => false
def bmV : BM → AV → List AV → M AV
  | .join, .str sep, [.lst xs] => joinV sep (allS xs)
  | _, _, _ => M.bad

/-! ### what is walked -/
def rngL (a b : Int) : List AV := (List.range (b - a).toNat).map fun i => .int (a + (i : Nat))
def items : AV → Option (List AV)
  | .lst xs => some xs
  | .tup xs => some xs
  | .str s => some (s.cps.toList.map chr1)
  | _ => none
def zipV : AV → AV → Option (List AV)
  | .lst xs, .lst ys => some (List.zipWith (fun x y => .tup [x, y]) xs ys)
  | .tup xs, .tup ys => some (List.zipWith (fun x y => .tup [x, y]) xs ys)
  | _, _ => none
def enmL (xs : List AV) : List AV := (List.range xs.length).zipWith (fun i x => .tup [.int (i : Nat), x]) xs
def lget (σ : Loc) (i : Nat) : M AV := M.of (σ[i]?.getD none)
def wipeL (σ : Loc) : List Nat → Loc
  | [] => σ
  | v :: vs => (wipeL σ vs).set v none
def setAll : List Nat → List AV → Loc → Option Loc
  | [], [], σ => some σ
  | i :: is, x :: xs, σ => setAll is xs (σ.set i (some x))
  | _, _, _ => none
/-- one place: a name; several: a tuple (or a list) of names -/
def bindT (is : List Nat) (x : AV) (σ : Loc) : M Loc := match is with
  | [i] => M.pure (σ.set i (some x))
  | _ => match x with
    | .tup xs => M.of (setAll is xs σ)
    | _ => M.bad
def consO : Option AV → List AV → List AV
  | some y, r => y :: r
  | none, r => r
def lcL (f : AV → M (Option AV)) : List AV → M (List AV)
  | [] => M.pure []
  | x :: xs => M.bind (f x) fun o => M.bind (lcL f xs) fun r => M.pure (consO o r)

/-- no exception leaves -/
def noexc {α : Type} (m : M α) : M α := fun h => match m h with
  | .ok a h' => .ok a h'
  | _ => .bad

/-! ### a program's table -/
inductive Flow where
  | nx (σ : Loc) | rt (v : AV) | bk (σ : Loc) | ct (σ : Loc)
structure FD where
  np : Nat          -- parameters (without the star)
  star : Bool
  nl : Nat          -- all places
  body : S
structure Tab where
  fns : List FD
  meth : List (Nat × Nat × Nat)
  prop : List (Nat × Nat × Nat)
  init : List (Nat × Nat)
  sub : List (Nat × Nat)
abbrev Orc := Nat → List AV → M AV

section
variable (C : Orc)
mutual
def ev (σ : Loc) : E → M AV
  | .cst v => M.pure v
  | .var i => lget σ i
  | .bin op a b => M.bind (ev σ a) fun x => M.bind (ev σ b) fun y => binV op x y
  | .neg a => M.bind (ev σ a) negV
  | .cmp op a b => M.bind (ev σ a) fun x => M.bind (ev σ b) fun y => cmpV op x y
  | .chn op op' a b c => M.bind (ev σ a) fun x => M.bind (ev σ b) fun y => M.bind (cmpV op x y) fun r => M.bind (asB r) fun k =>
      if k = true then M.bind (ev σ c) fun z => cmpV op' y z else M.pure (.bl false)
  | .and a b => M.bind (ev σ a) fun x => M.bind (asB x) fun k => if k = true then ev σ b else M.pure (.bl false)
  | .or a b => M.bind (ev σ a) fun x => M.bind (asB x) fun k => if k = true then M.pure (.bl true) else ev σ b
  | .notv a => M.bind (ev σ a) fun x => M.bind (asB x) fun k => M.pure (.bl (!k))
  | .ifx t a b => M.bind (evT σ t) fun k => if k = true then ev σ a else ev σ b
  | .tup es => M.bind (evs σ es) fun xs => ok1 (decide (xs.length ≤ line)) (.tup xs)
  | .lst es => M.bind (evs σ es) fun xs => ok1 (decide (xs.length ≤ line)) (.lst xs)
  | .mlst es => M.bind (evs σ es) fun xs => if xs.length ≤ line then fun h => .ok (.ref h.length) (h ++ [.lst xs]) else M.bad
  | .sub a i => M.bind (ev σ a) fun x => M.bind (ev σ i) fun y => subV x y
  | .slc a lo hi => M.bind (ev σ a) fun x => M.bind (ev σ lo) fun l => M.bind (asI l) fun l => M.bind (ev σ hi) fun u => M.bind (asI u) fun u => slcV x (some l) (some u)
  | .slcL a lo => M.bind (ev σ a) fun x => M.bind (ev σ lo) fun l => M.bind (asI l) fun l => slcV x (some l) none
  | .slcH a hi => M.bind (ev σ a) fun x => M.bind (ev σ hi) fun u => M.bind (asI u) fun u => slcV x none (some u)
  | .call f es => M.bind (evs σ es) fun xs => C f xs
  | .blt b es => M.bind (evs σ es) fun xs => bltV b xs
  | .bm m o es => M.bind (ev σ o) fun x => M.bind (M.guard (bmTy m x)) fun _ => M.bind (evs σ es) fun xs => bmV m x xs
  | .lc tg vs it cond elt => M.bind (evI σ it) fun xs => M.bind (lcL (fun x => noexc (M.bind (bindT tg x (wipeL σ vs)) fun σ2 => M.bind (evT σ2 cond) fun k =>
      if k = true then M.bind (ev σ2 elt) fun y => M.pure (some y) else M.pure none)) xs) fun ys => ok1 (decide (ys.length ≤ line)) (.lst ys)
  | _ => M.bad
def evT (σ : Loc) : E → M Bool
  | .and a b => M.bind (evT σ a) fun k => if k = true then evT σ b else M.pure false
  | .or a b => M.bind (evT σ a) fun k => if k = true then M.pure true else evT σ b
  | .not a => M.bind (evT σ a) fun k => M.pure (!k)
  | .cmp op a b => M.bind (ev σ a) fun x => M.bind (ev σ b) fun y => M.bind (cmpV op x y) asB
  | .chn op op' a b c => M.bind (ev σ a) fun x => M.bind (ev σ b) fun y => M.bind (cmpV op x y) fun r => M.bind (asB r) fun k =>
      if k = true then M.bind (ev σ c) fun z => M.bind (cmpV op' y z) asB else M.pure false
  | .tv a => M.bind (ev σ a) truV
  | _ => M.bad
def evs (σ : Loc) : E → M (List AV)
  | .nil => M.pure []
  | .cons a r => M.bind (ev σ a) fun x => M.bind (evs σ r) fun xs => M.pure (x :: xs)
  | .star a r => M.bind (ev σ a) fun x => (match x with
    | .lst ys => M.bind (evs σ r) fun xs => M.pure (ys ++ xs)
    | .tup ys => M.bind (evs σ r) fun xs => M.pure (ys ++ xs)
    | _ => M.bad)
  | _ => M.bad
def evI (σ : Loc) : E → M (List AV)
  | .rng a b => M.bind (ev σ a) fun x => M.bind (ev σ b) fun y => (match x, y with
    | .int i, .int j => ok1 (rngOk i j) (rngL i j)
    | _, _ => M.bad)
  | .zip a b => M.bind (ev σ a) fun x => M.bind (ev σ b) fun y => M.of (zipV x y)
  | .enm a => M.bind (ev σ a) fun x => (match x with
    | .lst xs => M.pure (enmL xs)
    | _ => M.bad)
  | .itv a => M.bind (ev σ a) fun x => M.of (items x)
  | _ => M.bad
end

def forL (body : AV → Loc → M Flow) : List AV → Loc → M Flow
  | [], σ => M.pure (.nx σ)
  | x :: xs, σ => M.bind (body x σ) fun f => match f with
    | .nx σ' => forL body xs σ'
    | .ct σ' => forL body xs σ'
    | .bk σ' => M.pure (.nx σ')
    | .rt v => M.pure (.rt v)
end

/-! ### loops -/
def Out.map {α β : Type} (f : α → β) : Out α → Out β
  | .ok a h => .ok (f a) h
  | .exc c ks vs h => .exc c ks vs h
  | .bad => .bad
/-- n turns of a while at most: none, where they don't suffice -/
def whlN (t : Loc → M Bool) (body : Loc → M Flow) : Nat → Loc → AHeap → Option (Out Flow)
  | 0, _, _ => none
  | n + 1, σ, h => match t σ h with
    | .ok true h1 => (match body σ h1 with
      | .ok (.nx σ') h2 => whlN t body n σ' h2
      | .ok (.ct σ') h2 => whlN t body n σ' h2
      | .ok (.bk σ') h2 => some (.ok (.nx σ') h2)
      | .ok (.rt v) h2 => some (.ok (.rt v) h2)
      | .exc c ks vs h2 => some (.exc c ks vs h2)
      | .bad => some .bad)
    | .ok false h1 => some (.ok (.nx σ) h1)
    | .exc c ks vs h1 => some (.exc c ks vs h1)
    | .bad => some .bad
open Classical in
noncomputable def whl (t : Loc → M Bool) (body : Loc → M Flow) (σ : Loc) : M Flow := fun h =>
  if e : ∃ n, (whlN t body n σ h).isSome = true then (whlN t body (Classical.choose e) σ h).getD .bad else .bad
theorem whlN_mono {t : Loc → M Bool} {body : Loc → M Flow} : ∀ {n m : Nat} {σ : Loc} {h : AHeap} {r : Out Flow}, whlN t body n σ h = some r → n ≤ m → whlN t body m σ h = some r
  | 0, _, _, _, _, e, _ => by cases e
  | n + 1, 0, _, _, _, _, l => by omega
  | n + 1, m + 1, σ, h, r, e, l => by
    unfold whlN at e ⊢
    split at e
    · rename_i h1 e1
      split at e
      · exact whlN_mono e (by omega)
      · exact whlN_mono e (by omega)
      all_goals exact e
    all_goals exact e
theorem whl_of {t : Loc → M Bool} {body : Loc → M Flow} {n : Nat} {σ : Loc} {h : AHeap} {r : Out Flow} (e : whlN t body n σ h = some r) : whl t body σ h = r := by
  have ex : ∃ n, (whlN t body n σ h).isSome = true := ⟨n, by rw [e]; rfl⟩
  unfold whl
  rw [dif_pos ex]
  have hc := Classical.choose_spec ex
  cases q : whlN t body (Classical.choose ex) σ h with
  | none => rw [q] at hc; cases hc
  | some r' =>
    have a := whlN_mono e (Nat.le_max_left n (Classical.choose ex))
    have b := whlN_mono q (Nat.le_max_right n (Classical.choose ex))
    rw [a] at b
    cases b
    rfl
/-- a while that comes to something comes to it in some turns -/
theorem whl_some {t : Loc → M Bool} {body : Loc → M Flow} {σ : Loc} {h : AHeap} {r : Out Flow} (e : whl t body σ h = r) (hr : r ≠ .bad) : ∃ n, whlN t body n σ h = some r := by
  unfold whl at e
  split at e
  · rename_i ex
    have hc := Classical.choose_spec ex
    cases q : whlN t body (Classical.choose ex) σ h with
    | none => rw [q] at hc; cases hc
    | some r' => rw [q] at e; exact ⟨_, by rw [q]; exact congrArg some e⟩
  · exact absurd e.symm hr

section
variable (C : Orc)
noncomputable def xec : S → Loc → M Flow
  | .skip, σ => M.pure (.nx σ)
  | .seq a b, σ => M.bind (xec a σ) fun f => (match f with
    | .nx σ' => xec b σ'
    | .rt v => M.pure (.rt v)
    | .bk σ' => M.pure (.bk σ')
    | .ct σ' => M.pure (.ct σ'))
  | .expr e, σ => M.bind (ev C σ e) fun _ => M.pure (.nx σ)
  | .ret e, σ => M.bind (ev C σ e) fun v => M.pure (.rt v)
  | .asg i e, σ => M.bind (ev C σ e) fun v => M.pure (.nx (σ.set i (some v)))
  | .unp is e, σ => M.bind (ev C σ e) fun v => M.bind (bindT is v σ) fun σ' => M.pure (.nx σ')
  | .par is es, σ => M.bind (evs C σ es) fun xs => M.bind (M.of (setAll is xs σ)) fun σ' => M.pure (.nx σ')
  | .setSub o i v, σ => M.bind (ev C σ v) fun x => M.bind (ev C σ o) fun y => M.bind (ev C σ i) fun z => M.bind (setSubV y z x) fun _ => M.pure (.nx σ)
  | .aug i op e, σ => M.bind (lget σ i) fun x => M.bind (ev C σ e) fun y => M.bind (augV op x y) fun z => M.pure (.nx (σ.set i (some z)))
  | .ife t a b, σ => M.bind (evT C σ t) fun k => if k = true then xec a σ else xec b σ
  | .for_ tg it b, σ => M.bind (evI C σ it) fun xs => forL (fun x σ' => M.bind (bindT tg x σ') fun σ2 => xec b σ2) xs σ
  | .whl t b, σ => whl (fun σ' => evT C σ' t) (fun σ' => xec b σ') σ
  | .brk, σ => M.pure (.bk σ)
  | .cnt, σ => M.pure (.ct σ)
  | _, _ => M.bad
end
def startL (fd : FD) (args : List AV) : Option Loc :=
  if fd.star = true then (if fd.np ≤ args.length ∧ args.length - fd.np ≤ line then some ((args.take fd.np).map some ++ (some (.tup (args.drop fd.np)) :: List.replicate (fd.nl - fd.np - 1) none)) else none)
  else (if args.length = fd.np then some (args.map some ++ List.replicate (fd.nl - fd.np) none) else none)
def flowV : Flow → M AV
  | .nx _ => M.pure .non
  | .rt v => M.pure v
  | _ => M.bad
noncomputable def run (T : Tab) : Nat → Orc
  | 0, _, _ => M.bad
  | n + 1, f, args => match T.fns[f]? with
    | some fd => (match startL fd args with
      | some σ => M.bind (xec (run T n) fd.body σ) flowV
      | none => M.bad)
    | none => M.bad
end NT
namespace NT
example (C : Orc) (σ : Loc) (a b : E) : ev C σ (.bin .Add a b) = M.bind (ev C σ a) fun x => M.bind (ev C σ b) fun y => binV .Add x y := rfl
end NT
set_option linter.all false
set_option maxRecDepth 100000
set_option autoImplicit false
namespace NT
open PySem PySem.Spec PyProof.Rows L2

/-! ### the concrete side -/
structure Wd where
  P : Program
  w : World
  K : PySem.W.Frag
  mg : Str → Option Value
  base : Heap
  clsA : Nat → Addr
  fnA : Nat → Addr
  nm : Nat → Str
structure Cf where
  ρ : List Addr
  h : AHeap
  H : Hp
  /-- lists that comprehensions are filling -/
  x : List Addr
def HLive (c : Cf) (p : Addr) : Prop := ∃ (n : Nat) (o : AObj), c.ρ[n]? = some p ∧ c.h[n]? = some o ∧ o ≠ .dead
def Live (c : Cf) (p : Addr) : Prop := p ∈ c.x ∨ HLive c p

def KT (K : PySem.W.Frag) (a : Addr) (xs : List V) : Prop := ∃ (o : Obj) (its : Array Value) (n : Nat), K.lookup a = some o ∧ o.cls = .type "tuple" ∧ o.data = .seq its n ∧ its.size ≤ sizeLine ∧ Vals xs its.toList
def KL (K : PySem.W.Frag) (a : Addr) (xs : List V) : Prop := ∃ (o : Obj) (its : Array Value) (n : Nat), K.lookup a = some o ∧ o.cls = .type "list" ∧ o.dict = none ∧ o.data = .seq its n ∧ its.size ≤ sizeLine ∧ Vals xs its.toList
def FzT (K : PySem.W.Frag) (c : Cf) (p : Addr) (xs : List V) : Prop := (¬ Live c p ∧ Rd c.H p (.tup xs)) ∨ KT K p xs
def FzL (K : PySem.W.Frag) (c : Cf) (p : Addr) (xs : List V) : Prop := (¬ Live c p ∧ Rd c.H p (.lst xs)) ∨ KL K p xs
theorem FzT.sq {K : PySem.W.Frag} {c : Cf} {p : Addr} {xs : List V} (h : FzT K c p xs) : SqT K c.H p xs := by
  rcases h with ⟨_, h⟩ | h
  · exact .inl h
  · exact .inr h
theorem FzL.sq {K : PySem.W.Frag} {c : Cf} {p : Addr} {xs : List V} (h : FzL K c p xs) : SqL K c.H p xs := by
  rcases h with ⟨_, h⟩ | h
  · exact .inl h
  · exact .inr h

mutual
inductive Rep (W : Wd) (c : Cf) : V → AV → Prop
  | non : Rep W c .non .non
  | bl (b : Bool) : Rep W c (.bl b) (.bl b)
  | int (i : Int) : Rep W c (.int i) (.int i)
  | str (x : Str) : Rep W c (.str x) (.str x)
  | ty (n : String) : Rep W c (.ty n) (.ty n)
  | tup {p : Addr} {vs : List V} {xs : List AV} : FzT W.K c p vs → Reps W c vs xs → Rep W c (.ref p) (.tup xs)
  | lst {p : Addr} {vs : List V} {xs : List AV} : FzL W.K c p vs → Reps W c vs xs → Rep W c (.ref p) (.lst xs)
  | obj {p dx : Addr} {k : Nat} {ks : List Nat} {fs : List (Str × V)} {xs : List AV} : ¬ Live c p → c.H p = some (.ins (W.clsA k) dx fs) → fs.map (·.1) = ks.map W.nm → Reps W c (fs.map (·.2)) xs → Rep W c (.ref p) (.obj k ks xs)
  | ref {p : Addr} {n : Nat} : c.ρ[n]? = some p → Rep W c (.ref p) (.ref n)
  | cls (k : Nat) : Rep W c (.ref (W.clsA k)) (.cls k)
inductive Reps (W : Wd) (c : Cf) : List V → List AV → Prop
  | nil : Reps W c [] []
  | cons {v : V} {a : AV} {vs : List V} {as : List AV} : Rep W c v a → Reps W c vs as → Reps W c (v :: vs) (a :: as)
end

structure Ex0 (c c' : Cf) : Prop where
  pre : ∀ (n : Nat) (p : Addr), c.ρ[n]? = some p → c'.ρ[n]? = some p
  keep : ∀ p o, c.H p = some o → ¬ Live c p → c'.H p = some o
  nl : ∀ p, c.H p ≠ none → ¬ Live c p → ¬ Live c' p
structure Ext (c c' : Cf) : Prop extends Ex0 c c' where
  bx : c'.x = c.x
  busy : ∀ p ∈ c.x, c'.H p = c.H p
theorem Ex0.refl (c : Cf) : Ex0 c c := ⟨fun _ _ h => h, fun _ _ h _ => h, fun _ _ h => h⟩
theorem Ex0.trans {c c1 c2 : Cf} (a : Ex0 c c1) (b : Ex0 c1 c2) : Ex0 c c2 where
  pre := fun n p h => b.pre n p (a.pre n p h)
  keep := fun p o h n => b.keep p o (a.keep p o h n) (a.nl p (by rw [h]; simp) n)
  nl := fun p h n => b.nl p (by
    obtain ⟨o, e⟩ := Option.ne_none_iff_exists'.mp h
    rw [a.keep p o e n]; simp) (a.nl p h n)
theorem Ext.refl (c : Cf) : Ext c c := ⟨Ex0.refl c, rfl, fun _ _ => rfl⟩
theorem Ext.trans {c c1 c2 : Cf} (a : Ext c c1) (b : Ext c1 c2) : Ext c c2 :=
  ⟨a.toEx0.trans b.toEx0, b.bx.trans a.bx, fun p hp => (b.busy p (by rw [a.bx]; exact hp)).trans (a.busy p hp)⟩
theorem Ex0.rd {c c' : Cf} (x : Ex0 c c') {p : Addr} {u : HO} (n : ¬ Live c p) (h : Rd c.H p u) : ¬ Live c' p ∧ Rd c'.H p u := by
  rcases h with h | ⟨o, h⟩
  · exact ⟨x.nl p (by rw [h]; simp) n, .inl (x.keep _ _ h n)⟩
  · exact ⟨x.nl p (by rw [h]; simp) n, .inr ⟨o, x.keep _ _ h n⟩⟩
theorem FzT.ext {K : PySem.W.Frag} {c c' : Cf} {p : Addr} {xs : List V} (x : Ex0 c c') (h : FzT K c p xs) : FzT K c' p xs := by
  rcases h with ⟨n, h⟩ | h
  · exact .inl (x.rd n h)
  · exact .inr h
theorem FzL.ext {K : PySem.W.Frag} {c c' : Cf} {p : Addr} {xs : List V} (x : Ex0 c c') (h : FzL K c p xs) : FzL K c' p xs := by
  rcases h with ⟨n, h⟩ | h
  · exact .inl (x.rd n h)
  · exact .inr h
mutual
theorem Rep.ext {W : Wd} {c c' : Cf} (x : Ex0 c c') : ∀ (a : AV) (v : V), Rep W c v a → Rep W c' v a
  | .non, _, h => by cases h; exact .non
  | .bl b, _, h => by cases h; exact .bl b
  | .int i, _, h => by cases h; exact .int i
  | .str s, _, h => by cases h; exact .str s
  | .ty n, _, h => by cases h; exact .ty n
  | .tup xs, _, h => by
    cases h with
    | tup h1 h2 => exact .tup (h1.ext x) (Reps.ext x xs _ h2)
  | .lst xs, _, h => by
    cases h with
    | lst h1 h2 => exact .lst (h1.ext x) (Reps.ext x xs _ h2)
  | .obj k ks xs, _, h => by
    cases h with
    | obj h1 h2 h3 h4 => exact .obj (x.nl _ (by rw [h2]; simp) h1) (x.keep _ _ h2 h1) h3 (Reps.ext x xs _ h4)
  | .ref n, _, h => by
    cases h with
    | ref h1 => exact .ref (x.pre _ _ h1)
  | .cls k, _, h => by cases h; exact .cls k
  | .fn f, _, h => by cases h
theorem Reps.ext {W : Wd} {c c' : Cf} (x : Ex0 c c') : ∀ (as : List AV) (vs : List V), Reps W c vs as → Reps W c' vs as
  | [], _, h => by cases h; exact .nil
  | a :: as, _, h => by
    cases h with
    | cons h1 h2 => exact .cons (Rep.ext x a _ h1) (Reps.ext x as _ h2)
end
theorem Rep.to0 {W : Wd} {c c' : Cf} {a : AV} {v : V} (h : Rep W c v a) (x : Ex0 c c') : Rep W c' v a := Rep.ext x a v h
theorem Reps.to0 {W : Wd} {c c' : Cf} {a : List AV} {v : List V} (h : Reps W c v a) (x : Ex0 c c') : Reps W c' v a := Reps.ext x a v h
theorem Rep.to {W : Wd} {c c' : Cf} {a : AV} {v : V} (h : Rep W c v a) (x : Ext c c') : Rep W c' v a := Rep.ext x.toEx0 a v h
theorem Reps.to {W : Wd} {c c' : Cf} {a : List AV} {v : List V} (h : Reps W c v a) (x : Ext c c') : Reps W c' v a := Reps.ext x.toEx0 a v h
theorem Reps.length {W : Wd} {c : Cf} : ∀ {vs : List V} {as : List AV}, Reps W c vs as → vs.length = as.length
  | _, _, .nil => rfl
  | _, _, .cons _ r => by simp [Reps.length r]
theorem Reps.append {W : Wd} {c : Cf} : ∀ {vs ws : List V} {as bs : List AV}, Reps W c vs as → Reps W c ws bs → Reps W c (vs ++ ws) (as ++ bs)
  | _, _, _, _, .nil, s => s
  | _, _, _, _, .cons r t, s => .cons r (Reps.append t s)
theorem Reps.take {W : Wd} {c : Cf} : ∀ {vs : List V} {as : List AV} (n : Nat), Reps W c vs as → Reps W c (vs.take n) (as.take n)
  | _, _, 0, _ => .nil
  | _, _, _ + 1, .nil => .nil
  | _, _, n + 1, .cons r t => .cons r (Reps.take n t)
theorem Reps.drop {W : Wd} {c : Cf} : ∀ {vs : List V} {as : List AV} (n : Nat), Reps W c vs as → Reps W c (vs.drop n) (as.drop n)
  | _, _, 0, r => r
  | _, _, _ + 1, .nil => .nil
  | _, _, n + 1, .cons _ t => Reps.drop n t
theorem Reps.set {W : Wd} {c : Cf} {v : V} {a : AV} (r : Rep W c v a) : ∀ {vs : List V} {as : List AV} (i : Nat), Reps W c vs as → Reps W c (vs.set i v) (as.set i a)
  | _, _, _, .nil => .nil
  | _, _, 0, .cons _ t => .cons r t
  | _, _, i + 1, .cons q t => .cons q (Reps.set r i t)
theorem Reps.get {W : Wd} {c : Cf} : ∀ {vs : List V} {as : List AV} {i : Nat} {a : AV}, Reps W c vs as → as[i]? = some a → ∃ v, vs[i]? = some v ∧ Rep W c v a
  | _, _, _, _, .nil, e => by simp at e
  | _, _, 0, _, .cons r _, e => by simp at e; subst e; exact ⟨_, rfl, r⟩
  | _, _, i + 1, a, .cons _ t, e => by
    obtain ⟨u, h1, h2⟩ := Reps.get (i := i) (a := a) t (by simpa using e)
    exact ⟨u, by simpa using h1, h2⟩
theorem Reps.ints {W : Wd} {c : Cf} : ∀ {vs : List V} {as : List AV} {ns : List Int}, Reps W c vs as → allI as = some ns → vs = ns.map V.int
  | _, _, _, .nil, e => by simp [allI] at e; subst e; rfl
  | _, _, _, .cons (as := as) r t, e => by
    cases r <;> simp only [allI] at e
    all_goals first | cases e; done | skip
    rename_i i
    cases q : allI as with
    | none => rw [q] at e; cases e
    | some ms =>
      rw [q] at e
      cases e
      rw [Reps.ints t q]; rfl
theorem Reps.bools {W : Wd} {c : Cf} : ∀ {vs : List V} {as : List AV} {ns : List Bool}, Reps W c vs as → allB as = some ns → vs = ns.map V.bl
  | _, _, _, .nil, e => by simp [allB] at e; subst e; rfl
  | _, _, _, .cons (as := as) r t, e => by
    cases r <;> simp only [allB] at e
    all_goals first | cases e; done | skip
    rename_i i
    cases q : allB as with
    | none => rw [q] at e; cases e
    | some ms =>
      rw [q] at e
      cases e
      rw [Reps.bools t q]; rfl
theorem Reps.strs {W : Wd} {c : Cf} : ∀ {vs : List V} {as : List AV} {ns : List Str}, Reps W c vs as → allS as = some ns → vs = ns.map V.str
  | _, _, _, .nil, e => by simp [allS] at e; subst e; rfl
  | _, _, _, .cons (as := as) r t, e => by
    cases r <;> simp only [allS] at e
    all_goals first | cases e; done | skip
    rename_i i
    cases q : allS as with
    | none => rw [q] at e; cases e
    | some ms =>
      rw [q] at e
      cases e
      rw [Reps.strs t q]; rfl

/-! ### the heap -/
def ORep (W : Wd) (c : Cf) (p : Addr) : AObj → Prop
  | .dead => True
  | .lst xs => ∃ vs, c.H p = some (.lst vs) ∧ Reps W c vs xs
  | .ins k ks xs => ∃ dx fs, c.H p = some (.ins (W.clsA k) dx fs) ∧ fs.map (·.1) = ks.map W.nm ∧ Reps W c (fs.map (·.2)) xs
structure Sim (W : Wd) (c : Cf) : Prop where
  len : c.ρ.length = c.h.length
  inj : ∀ (i j : Nat) (p : Addr) (o o' : AObj), c.ρ[i]? = some p → c.ρ[j]? = some p → c.h[i]? = some o → c.h[j]? = some o' → o ≠ .dead → o' ≠ .dead → i = j
  obj : ∀ (n : Nat) (o : AObj) (p : Addr), c.h[n]? = some o → c.ρ[n]? = some p → ORep W c p o
  bz : ∀ p ∈ c.x, c.H p ≠ none ∧ ¬ HLive c p
theorem Sim.htracked {W : Wd} {c : Cf} (s : Sim W c) {p : Addr} (l : HLive c p) : c.H p ≠ none := by
  obtain ⟨n, o, h1, h2, h3⟩ := l
  have q := s.obj n o p h2 h1
  cases o with
  | dead => exact absurd rfl h3
  | lst xs => obtain ⟨vs, e, _⟩ := q; rw [e]; simp
  | ins k ks xs => obtain ⟨dx, fs, e, _⟩ := q; rw [e]; simp
theorem Sim.tracked {W : Wd} {c : Cf} (s : Sim W c) {p : Addr} (l : Live c p) : c.H p ≠ none := by
  rcases l with l | l
  · exact (s.bz p l).1
  · exact s.htracked l
theorem Sim.fresh {W : Wd} {c : Cf} (s : Sim W c) {p : Addr} (n : c.H p = none) : ¬ Live c p := fun l => s.tracked l n
/-- a new object that the abstract heap does not know -/
theorem Ex0.new {c : Cf} {p : Addr} {o : HO} (n : c.H p = none) : Ex0 c { c with H := upd c.H p o } where
  pre := fun _ _ h => h
  keep := fun q u h _ => by
    show upd c.H p o q = some u
    rw [upd_ne (ne_of_none h n)]; exact h
  nl := fun _ _ h => h
theorem Ext.new {W : Wd} {c : Cf} (s : Sim W c) {p : Addr} {o : HO} (n : c.H p = none) : Ext c { c with H := upd c.H p o } :=
  ⟨Ex0.new n, rfl, fun q hq => upd_ne (fun z => (s.bz q hq).1 (by rw [z]; exact n))⟩
theorem ORep.ext {W : Wd} {c c' : Cf} (x : Ex0 c c') {p : Addr} {o : AObj} (h : ORep W c p o) (e : c'.H p = c.H p) : ORep W c' p o := by
  cases o with
  | dead => trivial
  | lst xs => obtain ⟨vs, h1, h2⟩ := h; exact ⟨vs, e.trans h1, h2.to0 x⟩
  | ins k ks xs => obtain ⟨dx, fs, h1, h2, h3⟩ := h; exact ⟨dx, fs, e.trans h1, h2, h3.to0 x⟩
theorem Sim.new {W : Wd} {c : Cf} (s : Sim W c) {p : Addr} {o : HO} (n : c.H p = none) : Sim W { c with H := upd c.H p o } where
  len := s.len
  inj := s.inj
  obj := fun k ob q h1 h2 => by
    by_cases hd : ob = .dead
    · subst hd; trivial
    · exact (s.obj k ob q h1 h2).ext (Ex0.new n) (upd_ne (fun z => s.htracked (p := q) ⟨k, ob, h2, h1, hd⟩ (by rw [z]; exact n)))
  bz := fun q hq => ⟨by
    show upd c.H p o q ≠ none
    rw [upd_ne (fun z => (s.bz q hq).1 (by rw [z]; exact n))]; exact (s.bz q hq).1, (s.bz q hq).2⟩

/-! ### exact readings -/
section
variable (X : Cx)
def wE (e : Expr) : TE := fun σ H Q => ∀ (pins : List (Addr × Obj)) (s : Shared), Inv X pins σ H s → wpAny (model X.prog X.w) X.A (eval e X.env) (EP X pins σ Q) X.xe s
def wT (e : Expr) : TT := fun σ H Q => ∀ (pins : List (Addr × Obj)) (s : Shared), Inv X pins σ H s → wpAny (model X.prog X.w) X.A (isTrue e X.env (eval e X.env)) (TP X pins σ Q) X.xe s
def wA (es : List Expr) : TA := fun σ H Q => ∀ (pos : Pos) (pins : List (Addr × Obj)) (s : Shared), Inv X pins σ H s → wpAny (model X.prog X.w) X.A (spliced (backTo pos (starEach es X.env))) (AP X pins σ Q) X.xe s
def wS (st : Stmt) : TS := fun D σ H => ∀ (pins : List (Addr × Obj)) (s : Shared), Inv X pins σ H s → wpAny (model X.prog X.w) X.A (exec st X.env) (SP X pins D) X.xe s
def wSs (st : List Stmt) : TS := fun D σ H => ∀ (pins : List (Addr × Obj)) (s : Shared), Inv X pins σ H s → wpAny (model X.prog X.w) X.A (execs st X.env) (SP X pins D) X.xe s
end
section
variable {X : Cx}
theorem pe_w {e : Expr} : PE X e (wE X e) := ⟨fun pins s σ H Q I h => h pins s I⟩
theorem pt_w {e : Expr} : PT X e (wT X e) := ⟨fun pins s σ H Q I h => h pins s I⟩
theorem pa_w {es : List Expr} : PA X es (wA X es) := ⟨fun pos pins s σ H Q I h => h pos pins s I⟩
theorem ps_w {st : Stmt} : PS X st (wS X st) := ⟨fun pins s σ H D I h => h pins s I⟩
theorem pss_w {st : List Stmt} : PSs X st (wSs X st) := ⟨fun pins s σ H D I h => h pins s I⟩
theorem wE_of {e : Expr} {t : TE} {σ : L2.St} {H : Hp} {Q : VK} (h : PE X e t) (q : t σ H Q) : wE X e σ H Q := fun pins s I => h.run pins s σ H Q I q
theorem wT_of {e : Expr} {t : TT} {σ : L2.St} {H : Hp} {Q : Bool → Hp → Prop} (h : PT X e t) (q : t σ H Q) : wT X e σ H Q := fun pins s I => h.run pins s σ H Q I q
theorem wA_of {e : List Expr} {t : TA} {σ : L2.St} {H : Hp} {Q : List V → Hp → Prop} (h : PA X e t) (q : t σ H Q) : wA X e σ H Q := fun pos pins s I => h.run pos pins s σ H Q I q
theorem wS_of {st : Stmt} {t : TS} {σ : L2.St} {H : Hp} {D : Ends} (h : PS X st t) (q : t D σ H) : wS X st D σ H := fun pins s I => h.run pins s σ H D I q
theorem wSs_of {st : List Stmt} {t : TS} {σ : L2.St} {H : Hp} {D : Ends} (h : PSs X st t) (q : t D σ H) : wSs X st D σ H := fun pins s I => h.run pins s σ H D I q
end

/-! ### the ends -/
def End {α β : Type} (W : Wd) (Wx : WX) (S : L2.St) (c : Cf) (R : Cf → β → α → Prop) (Q : β → Hp → Prop) : Out α → Prop
  | .ok a h' => ∀ (ρ' : List Addr) (H' : Hp) (b : β), Sim W ⟨ρ', h', H', c.x⟩ → Ext c ⟨ρ', h', H', c.x⟩ → R ⟨ρ', h', H', c.x⟩ b a → Q b H'
  | .exc k ks xs h' => ∀ (ρ' : List Addr) (H' : Hp) (d : Addr) (fs : List (Str × V)), Sim W ⟨ρ', h', H', c.x⟩ → Ext c ⟨ρ', h', H', c.x⟩ → ¬ Live ⟨ρ', h', H', c.x⟩ d → H' d = some (.xd fs) →
      fs.map (·.1) = ks.map W.nm → Reps W ⟨ρ', h', H', c.x⟩ (fs.map (·.2)) xs → Wx (.ref (W.clsA k)) (some d) S H'
  | .bad => False
section
variable {α β γ δ : Type} {W : Wd} {Wx : WX} {S : L2.St} {c c1 : Cf} {R : Cf → β → α → Prop} {Q Q' : β → Hp → Prop} {R2 : Cf → δ → γ → Prop} {Q2 : δ → Hp → Prop}
theorem End.after {o : Out α} (x : Ext c c1) (h : End W Wx S c R Q o) : End W Wx S c1 R Q o := by
  have e := x.bx
  cases o with
  | ok a h' =>
    show ∀ (ρ' : List Addr) (H' : Hp) (b : β), Sim W ⟨ρ', h', H', c1.x⟩ → Ext c1 ⟨ρ', h', H', c1.x⟩ → R ⟨ρ', h', H', c1.x⟩ b a → Q b H'
    rw [e]
    exact fun ρ' H' b s x' r => h ρ' H' b s (x.trans x') r
  | exc k ks xs h' =>
    show ∀ (ρ' : List Addr) (H' : Hp) (d : Addr) (fs : List (Str × V)), Sim W ⟨ρ', h', H', c1.x⟩ → Ext c1 ⟨ρ', h', H', c1.x⟩ → ¬ Live ⟨ρ', h', H', c1.x⟩ d → H' d = some (.xd fs) → fs.map (·.1) = ks.map W.nm → Reps W ⟨ρ', h', H', c1.x⟩ (fs.map (·.2)) xs → Wx (.ref (W.clsA k)) (some d) S H'
    rw [e]
    exact fun ρ' H' d fs s x' => h ρ' H' d fs s (x.trans x')
  | bad => exact h
theorem End.bind {m : M α} {f : α → M γ} (h : End W Wx S c R2 Q2 (M.bind m f c.h))
    (k : ∀ a (c1 : Cf) b, m c.h = .ok a c1.h → Sim W c1 → Ext c c1 → R c1 b a → End W Wx S c1 R2 Q2 (f a c1.h) → Q b c1.H) : End W Wx S c R Q (m c.h) := by
  unfold M.bind at h
  cases e : m c.h with
  | ok a h1 =>
    rw [e] at h
    exact fun ρ1 H1 b s x r => k a ⟨ρ1, h1, H1, c.x⟩ b e s x r (End.after (c1 := ⟨ρ1, h1, H1, c.x⟩) x h)
  | exc q ks xs h1 => rw [e] at h; exact h
  | bad => rw [e] at h; exact h
/-- the state as it is -/
theorem End.here {a : α} {b : β} (h : End W Wx S c R Q (.ok a c.h)) (s : Sim W c) (r : R c b a) : Q b c.H := h c.ρ c.H b s (Ext.refl c) r
/-- a new object that the abstract heap does not know -/
theorem End.new {a : α} {b : β} {p : Addr} {o : HO} (h : End W Wx S c R Q (.ok a c.h)) (s : Sim W c) (n : c.H p = none) (r : R { c with H := upd c.H p o } b a) : Q b (upd c.H p o) :=
  h c.ρ (upd c.H p o) b (s.new n) (Ext.new s n) r
theorem End.ok1 {k : Bool} {a : α} (h : End W Wx S c R Q (NT.ok1 k a c.h)) : k = true ∧ End W Wx S c R Q (.ok a c.h) := by
  unfold NT.ok1 at h
  cases k with
  | true => exact ⟨rfl, h⟩
  | false => exact h.elim
theorem End.of {o : Option α} (h : End W Wx S c R Q (M.of o c.h)) : ∃ a, o = some a ∧ End W Wx S c R Q (.ok a c.h) := by
  cases o with
  | some a => exact ⟨a, rfl, h⟩
  | none => exact h.elim
end
end NT
set_option linter.all false
set_option maxRecDepth 100000
set_option autoImplicit false
namespace NT
open PySem PySem.Spec PyProof.Rows L2
theorem line_eq : (sizeLine : Nat) = line := by rw [sizeLine_eq]; rfl
/-- what a two-place operation of values wants -/
def v2 (W : Wd) (g : AV → AV → M AV) : R2 := fun x y H Q => ∃ (c : Cf) (a b : AV) (Wx : WX) (S : L2.St), c.H = H ∧ Sim W c ∧ Rep W c x a ∧ Rep W c y b ∧ End W Wx S c (Rep W) Q (g a b c.h)
section
variable {X : Cx} {W : Wd}
def rCatL (K : PySem.W.Frag) : R2 := fun x y H Q => ∃ l b xs zs, x = .ref l ∧ y = .ref b ∧ SqL K H l xs ∧ SqL K H b zs ∧ xs.length + zs.length ≤ sizeLine ∧ ∀ p, H p = none → Q (.ref p) (upd H p (.lst (xs ++ zs)))
theorem op_catL : OpR X (binaryOp .Add) (rCatL X.K) := by
  intro pins s σ H x y v u Q I rx ry h
  obtain ⟨l, b, xs, zs, rfl, rfl, hH, hB, hz, q⟩ := h
  cases rx
  cases ry
  obtain ⟨its, r, ⟨⟨cls, dd, data, sl⟩, n, ho, hc, hd0, hd⟩, _⟩ := I.list hH
  obtain ⟨its2, r2, ⟨⟨cls2, dd2, data2, sl2⟩, n2, ho2, hc2, hd02, hd2⟩, _⟩ := I.list hB
  simp only at hc hd hc2 hd2
  subst hc hd hc2 hd2
  have l1 := r.length
  have l2 := r2.length
  have ea : its.toArray ++ its2.toArray = (its ++ its2).toArray := by simp
  refine concat_meets ⟨_, ho, rfl⟩ ⟨_, ho2, rfl⟩ noFill_list_add seq_list_add PySem.F.slot_list_add PySem.F.entry_list_add (PySem.F.args_list_add_2 _ _) (list_addW l b its.toArray its2.toArray n n2 dd dd2 sl sl2 (by simp; omega)) ⟨ho, ho2, ?_⟩
  rw [ea]
  exact ⟨.ref _, _, I.lnew (t' := s.toks) (r.append r2) (by rw [List.length_append]; omega), rfl, q _ I.fresh⟩
theorem mulOk_or {i j : Int} (h : mulOk i j = true) : CMul i j ∨ CMulW i j := by
  unfold mulOk at h
  simp only [Bool.or_eq_true, decide_eq_true_eq] at h
  rcases h with (h | h) | h
  · exact .inl (.inl ⟨by omega, by omega⟩)
  · exact .inl (.inr ⟨by omega, by omega⟩)
  · exact .inr h
theorem Rep.newLst {c : Cf} {p : Addr} {vs : List V} {xs : List AV} (s : Sim W c) (n : c.H p = none) (r : Reps W c vs xs) : Rep W { c with H := upd c.H p (.lst vs) } (.ref p) (.lst xs) :=
  .lst (.inl ⟨s.fresh n, .inl upd_same⟩) (r.to (Ext.new s n))
theorem Rep.newTup {c : Cf} {p : Addr} {vs : List V} {xs : List AV} (s : Sim W c) (n : c.H p = none) (r : Reps W c vs xs) : Rep W { c with H := upd c.H p (.tup vs) } (.ref p) (.tup xs) :=
  .tup (.inl ⟨s.fresh n, .inl upd_same⟩) (r.to (Ext.new s n))
theorem Reps.nil_iff {c : Cf} {vs : List V} {as : List AV} (r : Reps W c vs as) : vs = [] ↔ as = [] := by
  cases r <;> simp
theorem bin_snd (hK : X.K = W.K) (op : Operator) : OpR X (binaryOp op) (v2 W (binV op)) := by
  rintro pins s σ H x y v u Q I rx ry ⟨c, a, b, Wx, S, rfl, sim, ra, rb, e⟩
  unfold binV at e
  split at e
  · cases ra; cases rb
    exact op_add pins s σ _ _ _ v u Q I rx ry ⟨_, _, rfl, rfl, e.here sim (.int _)⟩
  · cases ra; cases rb
    obtain ⟨g, e⟩ := e.ok1
    exact op_add_str pins s σ _ _ _ v u Q I rx ry ⟨_, _, rfl, rfl, by rw [line_eq]; exact of_decide_eq_true g, e.here sim (.str _)⟩
  · obtain ⟨g, e⟩ := e.ok1
    cases ra with
    | lst h1 r1 =>
      cases rb with
      | lst h2 r2 =>
        refine op_catL pins s σ _ _ _ v u Q I rx ry ⟨_, _, _, _, rfl, rfl, by rw [hK]; exact h1.sq, by rw [hK]; exact h2.sq, ?_, fun p hp => e.new sim hp (Rep.newLst sim hp (r1.append r2))⟩
        rw [r1.length, r2.length, line_eq]
        exact of_decide_eq_true g
  · obtain ⟨g, e⟩ := e.ok1
    cases ra with
    | tup h1 r1 =>
      cases rb with
      | tup h2 r2 =>
        refine op_catA pins s σ _ _ _ v u Q I rx ry ⟨_, _, _, _, rfl, rfl, by rw [hK]; exact h1.sq, by rw [hK]; exact h2.sq, ?_, fun hx => ?_, fun _ hy => ?_, fun _ _ p hp => e.new sim hp (Rep.newTup sim hp (r1.append r2))⟩
        · rw [r1.length, r2.length, line_eq]
          exact of_decide_eq_true g
        · refine e.here sim ?_
          rw [r1.nil_iff.mp hx]
          exact .tup h2 r2
        · refine e.here sim ?_
          rw [r2.nil_iff.mp hy, List.append_nil]
          exact .tup h1 r1
  · cases ra; cases rb
    exact op_sub pins s σ _ _ _ v u Q I rx ry ⟨_, _, rfl, rfl, e.here sim (.int _)⟩
  · cases ra; cases rb
    obtain ⟨g, e⟩ := e.ok1
    rcases mulOk_or g with g | g
    · exact op_mul pins s σ _ _ _ v u Q I rx ry ⟨_, _, rfl, rfl, g, e.here sim (.int _)⟩
    · exact op_mulW pins s σ _ _ _ v u Q I rx ry ⟨_, _, rfl, rfl, g, e.here sim (.int _)⟩
  · cases ra; cases rb
    rename_i i j
    obtain ⟨g, e⟩ := e.ok1
    unfold divOk at g
    simp only [Bool.and_eq_true, Bool.or_eq_true, decide_eq_true_eq] at g
    rcases g with ⟨g0, g | ⟨g1, g2⟩⟩
    · exact op_fdivN pins s σ _ _ _ v u Q I rx ry ⟨_, _, rfl, rfl, ⟨g0, g⟩, e.here sim (.int _)⟩
    · refine op_fdivW pins s σ _ _ _ v u Q I rx ry ⟨_, _, rfl, rfl, ⟨g1, g2⟩, ?_⟩
      have q := e.here sim (.int _)
      rw [Int.fdiv_eq_ediv_of_nonneg i (by omega)] at q
      exact q
  · cases ra; cases rb
    obtain ⟨g, e⟩ := e.ok1
    exact op_modN pins s σ _ _ _ v u Q I rx ry ⟨_, _, rfl, rfl, of_decide_eq_true g, e.here sim (.int _)⟩
  · cases ra; cases rb
    obtain ⟨g, e⟩ := e.ok1
    unfold powOk at g
    simp only [Bool.and_eq_true, decide_eq_true_eq] at g
    exact op_pow pins s σ _ _ _ v u Q I rx ry ⟨_, _, rfl, rfl, ⟨g.1.1, g.1.2, g.2⟩, e.here sim (.int _)⟩
  · cases ra; cases rb
    obtain ⟨g, e⟩ := e.ok1
    unfold powOk at g
    simp only [Bool.and_eq_true, decide_eq_true_eq] at g
    exact op_shl pins s σ _ _ _ v u Q I rx ry ⟨_, _, rfl, rfl, ⟨g.1.1, g.1.2, g.2⟩, e.here sim (.int _)⟩
  · cases ra; cases rb
    exact op_and pins s σ _ _ _ v u Q I rx ry ⟨_, _, rfl, rfl, e.here sim (.int _)⟩
  · cases ra; cases rb
    exact op_or pins s σ _ _ _ v u Q I rx ry ⟨_, _, rfl, rfl, e.here sim (.int _)⟩
  · cases ra; cases rb
    exact op_xor pins s σ _ _ _ v u Q I rx ry ⟨_, _, rfl, rfl, e.here sim (.int _)⟩
  · exact e.elim
def v1 (W : Wd) (g : AV → M AV) : V → Hp → VK → Prop := fun x H Q => ∃ (c : Cf) (a : AV) (Wx : WX) (S : L2.St), c.H = H ∧ Sim W c ∧ Rep W c x a ∧ End W Wx S c (Rep W) Q (g a c.h)
theorem neg_snd : UnR X (unaryOp .USub) (v1 W negV) := by
  rintro pins s σ H x v Q I rx ⟨c, a, Wx, S, rfl, sim, ra, e⟩
  unfold negV at e
  split at e
  · cases ra
    exact un_neg pins s σ _ _ v Q I rx ⟨_, rfl, e.here sim (.int _)⟩
  · exact e.elim

/-! ### == -/
mutual
theorem Rep.dp (c : Cf) : ∀ (a : AV) (v : V) (d : PyData), Rep W c v a → toD a = some d → Dp W.K c.H v d
  | .non, _, _, r, e => by cases r; cases e; exact .non
  | .bl b, _, _, r, e => by cases r; cases e; exact .bl b
  | .int i, _, _, r, e => by cases r; cases e; exact .int i
  | .str s, _, _, r, e => by cases r; cases e; exact .str s
  | .ty n, _, _, r, e => by simp [toD] at e
  | .tup xs, _, _, r, e => by
    cases r with
    | tup h1 h2 =>
      simp only [toD] at e
      cases q : toDs xs with
      | none => rw [q] at e; cases e
      | some ds => rw [q] at e; cases e; exact .tup h1.sq (Reps.dp c xs _ ds h2 q)
  | .lst xs, _, _, r, e => by
    cases r with
    | lst h1 h2 =>
      simp only [toD] at e
      cases q : toDs xs with
      | none => rw [q] at e; cases e
      | some ds => rw [q] at e; cases e; exact .lst h1.sq (Reps.dp c xs _ ds h2 q)
  | .obj _ _ _, _, _, r, e => by simp [toD] at e
  | .ref _, _, _, r, e => by simp [toD] at e
  | .cls _, _, _, r, e => by simp [toD] at e
  | .fn _, _, _, r, e => by simp [toD] at e
theorem Reps.dp (c : Cf) : ∀ (as : List AV) (vs : List V) (ds : List PyData), Reps W c vs as → toDs as = some ds → DpAll W.K c.H vs ds
  | [], _, _, r, e => by cases r; cases e; exact .nil
  | a :: as, _, _, r, e => by
    cases r with
    | cons h1 h2 =>
      simp only [toDs] at e
      split at e
      · rename_i d ds e1 e2
        cases e
        exact .cons (Rep.dp c a _ d h1 e1) (Reps.dp c as _ ds h2 e2)
      · cases e
end
theorem shaped_flat {a : AV} (hf : flat a = true) (ns : ∀ s, a ≠ .str s) : ∃ d, toD a = some d ∧ SeqAt.shaped d = true := by
  cases a with
  | non => exact ⟨_, rfl, by decide⟩
  | bl b => exact ⟨_, rfl, by cases b <;> decide⟩
  | int i => exact ⟨.int i, rfl, by unfold SeqAt.shaped; simp [PyData.canLay0, PyData.depth]⟩
  | str s => exact absurd rfl (ns s)
  | _ => cases hf
theorem eqF_eqv {a b : AV} {d e : PyData} (fa : flat a = true) (fb : flat b = true) (h1 : toD a = some d) (h2 : toD b = some e) : PyData.eqv d e = eqF a b := by
  cases a <;> (try cases fa) <;> cases b <;> (try cases fb) <;> cases h1 <;> cases h2 <;> rfl
theorem eq_snd (hu : X.A.units + 64 < cLine) (hK : X.K = W.K) {x y : V} {a b : AV} {r : Bool} {c : Cf} {pins : List (Addr × Obj)} {s : Shared} {σ : L2.St} {v u : Value} {Q : VK} (I : Inv X pins σ c.H s) (rx : RelV x v) (ry : RelV y u)
    (ra : Rep W c x a) (rb : Rep W c y b) (e : eqA a b = some r) (q : Q (.bl r) c.H) : wpAny (model X.prog X.w) X.A (compareOp .Eq v u) (EP X pins σ Q) X.xe s := by
  have gen : ∀ d e', toD a = some d → toD b = some e' → SeqAt.shaped d = true → SeqAt.shaped e' = true → PyData.eqv d e' = r → wpAny (model X.prog X.w) X.A (compareOp .Eq v u) (EP X pins σ Q) X.xe s := fun d e' h1 h2 h3 h4 h5 =>
    op_eqD hu pins s σ _ _ _ v u Q I rx ry ⟨d, e', by rw [hK]; exact Rep.dp c a x d ra h1, by rw [hK]; exact Rep.dp c b y e' rb h2, h3, h4, by rw [h5]; exact q⟩
  unfold eqA at e
  split at e
  · rename_i hf
    rw [Bool.and_eq_true] at hf
    cases e
    by_cases hsa : ∃ t, a = .str t
    · obtain ⟨t, rfl⟩ := hsa
      cases ra
      cases rb <;> (try cases hf.2)
      all_goals refine op_eq pins s σ _ _ _ v u Q I rx ry ⟨rfl, ?_⟩
      all_goals first
        | (rw [decide_eq_false (fun z => by cases z)]; exact q)
        | (rw [dec_str]; exact q)
    · by_cases hsb : ∃ t, b = .str t
      · obtain ⟨t, rfl⟩ := hsb
        cases rb
        cases ra <;> (try cases hf.1)
        all_goals refine op_eq pins s σ _ _ _ v u Q I rx ry ⟨rfl, ?_⟩
        all_goals first
          | (rw [decide_eq_false (fun z => by cases z)]; exact q)
          | (rw [dec_str]; exact q)
      · obtain ⟨d, h1, h3⟩ := shaped_flat hf.1 fun s z => hsa ⟨s, z⟩
        obtain ⟨e', h2, h4⟩ := shaped_flat hf.2 fun s z => hsb ⟨s, z⟩
        exact gen d e' h1 h2 h3 h4 (eqF_eqv hf.1 hf.2 h1 h2)
  · split at e
    · rename_i d e' h1 h2
      split at e
      · rename_i hs
        rw [Bool.and_eq_true] at hs
        cases e
        exact gen d e' h1 h2 hs.1 hs.2 rfl
      · cases e
    · cases e
theorem ne_snd (hu : X.A.units + 64 < cLine) (hK : X.K = W.K) {x y : V} {a b : AV} {r : Bool} {c : Cf} {pins : List (Addr × Obj)} {s : Shared} {σ : L2.St} {v u : Value} {Q : VK} (I : Inv X pins σ c.H s) (rx : RelV x v) (ry : RelV y u)
    (ra : Rep W c x a) (rb : Rep W c y b) (e : eqA a b = some r) (q : Q (.bl (!r)) c.H) : wpAny (model X.prog X.w) X.A (compareOp .NotEq v u) (EP X pins σ Q) X.xe s := by
  have gen : ∀ d e', toD a = some d → toD b = some e' → SeqAt.shaped d = true → SeqAt.shaped e' = true → PyData.eqv d e' = r → wpAny (model X.prog X.w) X.A (compareOp .NotEq v u) (EP X pins σ Q) X.xe s := fun d e' h1 h2 h3 h4 h5 =>
    op_neD hu pins s σ _ _ _ v u Q I rx ry ⟨d, e', by rw [hK]; exact Rep.dp c a x d ra h1, by rw [hK]; exact Rep.dp c b y e' rb h2, h3, h4, by rw [h5]; exact q⟩
  unfold eqA at e
  split at e
  · rename_i hf
    rw [Bool.and_eq_true] at hf
    cases e
    by_cases hsa : ∃ t, a = .str t
    · obtain ⟨t, rfl⟩ := hsa
      cases ra
      cases rb <;> (try cases hf.2)
      all_goals refine op_ne pins s σ _ _ _ v u Q I rx ry ⟨rfl, ?_⟩
      all_goals first
        | (rw [decide_eq_false (fun z => by cases z)]; exact q)
        | (rw [dec_str]; exact q)
    · by_cases hsb : ∃ t, b = .str t
      · obtain ⟨t, rfl⟩ := hsb
        cases rb
        cases ra <;> (try cases hf.1)
        all_goals refine op_ne pins s σ _ _ _ v u Q I rx ry ⟨rfl, ?_⟩
        all_goals first
          | (rw [decide_eq_false (fun z => by cases z)]; exact q)
          | (rw [dec_str]; exact q)
      · obtain ⟨d, h1, h3⟩ := shaped_flat hf.1 fun s z => hsa ⟨s, z⟩
        obtain ⟨e', h2, h4⟩ := shaped_flat hf.2 fun s z => hsb ⟨s, z⟩
        exact gen d e' h1 h2 h3 h4 (eqF_eqv hf.1 hf.2 h1 h2)
  · split at e
    · rename_i d e' h1 h2
      split at e
      · rename_i hs
        rw [Bool.and_eq_true] at hs
        cases e
        exact gen d e' h1 h2 hs.1 hs.2 rfl
      · cases e
    · cases e
end
end NT
set_option linter.all false
set_option maxRecDepth 100000
set_option autoImplicit false
namespace NT
open PySem PySem.Spec PyProof.Rows L2
section
variable {X : Cx} {W : Wd}
theorem Rep.flatV {c : Cf} {v : V} {a : AV} (r : Rep W c v a) (f : flat a = true) : L2.flatV v = true := by
  cases r <;> first | rfl | cases f
theorem Reps.flatV {c : Cf} : ∀ {vs : List V} {as : List AV}, Reps W c vs as → as.all flat = true → vs.all L2.flatV = true
  | _, _, .nil, _ => rfl
  | _, _, .cons r t, f => by
    simp only [List.all_cons, Bool.and_eq_true] at f ⊢
    exact ⟨r.flatV f.1, Reps.flatV t f.2⟩
theorem Rep.eqV {c : Cf} {v w : V} {a b : AV} (r : Rep W c v a) (q : Rep W c w b) (fa : flat a = true) (fb : flat b = true) : L2.eqV v w = eqF a b := by
  cases r <;> (try cases fa) <;> cases q <;> (try cases fb) <;> rfl
theorem Reps.inV {c : Cf} {x : V} {a : AV} (r : Rep W c x a) (fa : flat a = true) : ∀ {vs : List V} {as : List AV}, Reps W c vs as → as.all flat = true → L2.inV x vs = inF a as
  | _, _, .nil, _ => rfl
  | _, _, .cons q t, f => by
    simp only [List.all_cons, Bool.and_eq_true] at f
    have ih := Reps.inV r fa t f.2
    unfold L2.inV inF at ih ⊢
    simp only [List.any_cons]
    rw [ih, q.eqV r f.1 fa]
theorem cmp_snd (hu : X.A.units + 64 < cLine) (hK : X.K = W.K) (op : CmpOp) : OpR X (compareOp op) (v2 W (cmpV op)) := by
  rintro pins s σ H x y v u Q I rx ry ⟨c, a, b, Wx, S, rfl, sim, ra, rb, e⟩
  have inn : ∀ {p : Addr} {vs : List V} {ys : List AV} {neg : Bool}, y = .ref p → (SqL X.K c.H p vs ∨ SqT X.K c.H p vs) → Reps W c vs ys → (flat a && ys.all flat) = true → Q (.bl (if neg then !inF a ys else inF a ys)) c.H → rIn X.K neg x y c.H Q := by
    intro p vs ys neg ey hq rs g q
    rw [Bool.and_eq_true] at g
    exact ⟨p, vs, ey, hq, ra.flatV g.1, rs.flatV g.2, by rw [Reps.inV ra g.1 rs g.2]; exact q⟩
  unfold cmpV at e
  split at e
  · obtain ⟨r, h, e⟩ := e.of
    cases q : eqA a b with
    | none => rw [q] at h; cases h
    | some k => rw [q] at h; cases h; exact eq_snd hu hK I rx ry ra rb q (e.here sim (.bl _))
  · obtain ⟨r, h, e⟩ := e.of
    cases q : eqA a b with
    | none => rw [q] at h; cases h
    | some k => rw [q] at h; cases h; exact ne_snd hu hK I rx ry ra rb q (e.here sim (.bl _))
  · cases ra; cases rb; exact op_lt pins s σ _ _ _ v u Q I rx ry ⟨_, _, rfl, rfl, e.here sim (.bl _)⟩
  · cases ra; cases rb; exact op_le pins s σ _ _ _ v u Q I rx ry ⟨_, _, rfl, rfl, e.here sim (.bl _)⟩
  · cases ra; cases rb; exact op_gt pins s σ _ _ _ v u Q I rx ry ⟨_, _, rfl, rfl, e.here sim (.bl _)⟩
  · cases ra; cases rb; exact op_ge pins s σ _ _ _ v u Q I rx ry ⟨_, _, rfl, rfl, e.here sim (.bl _)⟩
  · cases ra; cases rb; exact op_lt_str pins s σ _ _ _ v u Q I rx ry ⟨_, _, rfl, rfl, e.here sim (.bl _)⟩
  · cases rb
    refine op_isN pins s σ _ _ _ v u Q I rx ry ⟨rfl, ?_⟩
    have q := e.here sim (.bl _)
    cases ra <;> exact q
  · cases rb
    refine op_notN pins s σ _ _ _ v u Q I rx ry ⟨rfl, ?_⟩
    have q := e.here sim (.bl _)
    cases ra <;> exact q
  · cases ra; cases rb; exact op_in_str pins s σ _ _ _ v u Q I rx ry ⟨_, _, rfl, rfl, e.here sim (.bl _)⟩
  · cases ra; cases rb
    refine op_notin_str pins s σ _ _ _ v u Q I rx ry ⟨_, _, rfl, rfl, ?_⟩
    have q := e.here sim (.bl _)
    rw [Bool.not_not]
    exact q
  · obtain ⟨g, e⟩ := e.ok1
    cases rb with
    | lst h1 r1 => exact op_in_seq pins s σ _ _ _ v u Q I rx ry (inn rfl (.inl (by rw [hK]; exact h1.sq)) r1 g (e.here sim (.bl _)))
  · obtain ⟨g, e⟩ := e.ok1
    cases rb with
    | tup h1 r1 => exact op_in_seq pins s σ _ _ _ v u Q I rx ry (inn rfl (.inr (by rw [hK]; exact h1.sq)) r1 g (e.here sim (.bl _)))
  · obtain ⟨g, e⟩ := e.ok1
    cases rb with
    | lst h1 r1 => exact op_notIn_seq pins s σ _ _ _ v u Q I rx ry (inn rfl (.inl (by rw [hK]; exact h1.sq)) r1 g (e.here sim (.bl _)))
  · obtain ⟨g, e⟩ := e.ok1
    cases rb with
    | tup h1 r1 => exact op_notIn_seq pins s σ _ _ _ v u Q I rx ry (inn rfl (.inr (by rw [hK]; exact h1.sq)) r1 g (e.here sim (.bl _)))
  · exact e.elim
/-- truth -/
theorem tru_snd (hK : X.K = W.K) : TruR X (fun x H Q => ∃ (c : Cf) (a : AV) (Wx : WX) (S : L2.St), c.H = H ∧ Sim W c ∧ Rep W c x a ∧ End W Wx S c (fun _ (b k : Bool) => b = k) Q (truV a c.h)) := by
  rintro pins s σ H x v Q I rx ⟨c, a, Wx, S, rfl, sim, ra, e⟩
  unfold truV at e
  split at e
  · cases ra; exact tru_ok pins s σ _ _ v Q I rx ⟨_, rfl, e.here (b := false) sim rfl⟩
  · cases ra; exact tru_ok pins s σ _ _ v Q I rx ⟨_, rfl, e.here sim rfl⟩
  · cases ra; exact tru_ok pins s σ _ _ v Q I rx ⟨_, rfl, e.here sim rfl⟩
  · cases ra
    obtain ⟨g, e⟩ := e.ok1
    exact tru_ok pins s σ _ _ v Q I rx ⟨_, ⟨by rw [line_eq]; exact of_decide_eq_true g, rfl⟩, e.here sim rfl⟩
  · cases ra with
    | tup h1 r1 =>
      refine tru_ok pins s σ _ _ v Q I rx ⟨_, .inr (.inl ⟨_, by rw [hK]; exact h1.sq, rfl⟩), e.here sim ?_⟩
      cases r1 <;> rfl
  · cases ra with
    | lst h1 r1 =>
      refine tru_ok pins s σ _ _ v Q I rx ⟨_, .inl ⟨_, by rw [hK]; exact h1.sq, rfl⟩, e.here sim ?_⟩
      cases r1 <;> rfl
  · exact e.elim

/-! ### subscripts -/
theorem Reps.atI {c : Cf} {vs : List V} {as : List AV} (r : Reps W c vs as) {i : Int} {a : AV} (h : L2.atI as i = some a) : ∃ v, L2.atI vs i = some v ∧ Rep W c v a := by
  unfold L2.atI at h ⊢
  rw [r.length]
  cases q : ixN as.length i with
  | none => rw [q] at h; cases h
  | some j =>
    rw [q] at h
    obtain ⟨v, h1, h2⟩ := r.get (i := j) h
    exact ⟨v, h1, h2⟩
theorem sub_snd (hK : X.K = W.K) : IxR X (v2 W subV) := by
  rintro value slice pins s σ H x y v u Q I rx ry ⟨c, a, b, Wx, S, rfl, sim, ra, rb, e⟩ hs
  unfold subV at e
  split at e
  · obtain ⟨z, h, e⟩ := e.of
    cases rb
    cases ra with
    | lst h1 r1 =>
      obtain ⟨w, hw, rw'⟩ := r1.atI h
      exact ix_list value slice pins s σ _ _ _ v u Q I rx ry ⟨_, _, _, w, rfl, rfl, by rw [hK]; exact h1.sq, hw, e.here sim rw'⟩ hs
  · obtain ⟨z, h, e⟩ := e.of
    cases rb
    cases ra with
    | tup h1 r1 =>
      obtain ⟨w, hw, rw'⟩ := r1.atI h
      exact ix_tup value slice pins s σ _ _ _ v u Q I rx ry ⟨_, _, _, w, rfl, rfl, by rw [hK]; exact h1.sq, hw, e.here sim rw'⟩ hs
  · cases ra; cases rb
    split at e
    · rename_i hl
      obtain ⟨z, h, e⟩ := e.of
      cases q : L2.atI (α := Nat) _ _ with
      | none => rw [q] at h; cases h
      | some k =>
        rw [q] at h
        cases h
        exact ix_str value slice pins s σ _ _ _ v u Q I rx ry ⟨_, _, k, rfl, rfl, by rw [line_eq]; exact hl, q, e.here sim (.str _)⟩ hs
    · exact e.elim
  · cases rb
    cases ra with
    | ref hp =>
      rename_i n i p
      cases q : lstAt c.h n with
      | none => simp only [q] at e; exact e.elim
      | some xs =>
        simp only [q] at e
        obtain ⟨z, h, e⟩ := e.of
        unfold lstAt at q
        split at q
        · rename_i ys hy
          cases q
          obtain ⟨vs, hv, rv⟩ := sim.obj n _ p hy hp
          obtain ⟨w, hw, rw'⟩ := rv.atI h
          exact ix_list value slice pins s σ _ _ _ v u Q I rx ry ⟨_, _, _, w, rfl, rfl, SqL.of hv, hw, e.here sim rw'⟩ hs
        · cases q
  · exact e.elim
theorem Reps.cut {c : Cf} {vs : List V} {as : List AV} (r : Reps W c vs as) (lo hi : Option Int) : Reps W c (cutV vs lo hi) (cut as lo hi) := by
  unfold cutV NT.cut
  rw [r.length]
  exact (r.drop _).take _
theorem slc_snd (hK : X.K = W.K) : SlR X (fun x lo hi H Q => ∃ (c : Cf) (a : AV) (Wx : WX) (S : L2.St), c.H = H ∧ Sim W c ∧ Rep W c x a ∧ End W Wx S c (Rep W) Q (slcV a lo hi c.h)) := by
  rintro pins s σ H x v vl vu lo hi sl Q I rx hs pl pu ⟨c, a, Wx, S, rfl, sim, ra, e⟩
  unfold slcV at e
  split at e
  · cases ra with
    | lst h1 r1 => exact sl_list pins s σ _ _ v vl vu lo hi sl Q I rx hs pl pu ⟨_, _, rfl, by rw [hK]; exact h1.sq, fun p hp => e.new sim hp (Rep.newLst sim hp (r1.cut lo hi))⟩
  · cases ra with
    | tup h1 r1 =>
      refine sl_tupA pins s σ _ _ v vl vu lo hi sl Q I rx hs pl pu ⟨_, _, rfl, by rw [hK]; exact h1.sq, fun hw => e.here sim ?_, fun _ p hp => e.new sim hp (Rep.newTup sim hp (r1.cut lo hi))⟩
      rename_i as _ _
      have z : NT.cut as lo hi = as := by
        unfold NT.cut
        rw [← r1.length, hw.1, hw.2, r1.length]
        simp
      rw [z]
      exact .tup h1 r1
  · cases ra
    obtain ⟨g, e⟩ := e.ok1
    exact sl_str pins s σ _ _ v vl vu lo hi sl Q I rx hs pl pu ⟨_, rfl, by rw [line_eq]; exact of_decide_eq_true g, e.here sim (.str _)⟩
  · exact e.elim

/-! ### stores -/
theorem Ext.write {c : Cf} (s : Sim W c) {n : Nat} {p : Addr} {o o' : AObj} {ho : HO} (hn : c.h[n]? = some o) (hd : o ≠ .dead) (hp : c.ρ[n]? = some p) : Ext c ⟨c.ρ, c.h.set n o', upd c.H p ho, c.x⟩ where
  pre := fun _ _ h => h
  keep := fun q u h nl => by
    show upd c.H p ho q = some u
    rw [upd_ne (fun z => nl (.inr ⟨n, o, by rw [z]; exact hp, hn, hd⟩))]; exact h
  nl := fun q _ nl l => by
    rcases l with l | ⟨m, u, h1, h2, h3⟩
    · exact nl (.inl l)
    · by_cases hm : m = n
      · subst hm
        have h1 : c.ρ[m]? = some q := h1
        exact nl (.inr ⟨m, o, h1, hn, hd⟩)
      · have h2 : (c.h.set n o')[m]? = some u := h2
        rw [List.getElem?_set_ne (Ne.symm hm)] at h2
        exact nl (.inr ⟨m, u, h1, h2, h3⟩)
  bx := rfl
  busy := fun q hq => upd_ne fun z => (s.bz q hq).2 ⟨n, o, by rw [z]; exact hp, hn, hd⟩
theorem set_live {h : AHeap} {n : Nat} {o o' : AObj} (hn : h[n]? = some o) (hd : o ≠ .dead) (m : Nat) (w : AObj) (e : (h.set n o')[m]? = some w) (hw : w ≠ .dead) : ∃ w', h[m]? = some w' ∧ w' ≠ .dead := by
  by_cases hm : m = n
  · subst hm; exact ⟨o, hn, hd⟩
  · rw [List.getElem?_set_ne (Ne.symm hm)] at e; exact ⟨w, e, hw⟩
theorem Sim.write {c : Cf} (s : Sim W c) {n : Nat} {p : Addr} {o o' : AObj} {ho : HO} (hn : c.h[n]? = some o) (hd : o ≠ .dead) (hp : c.ρ[n]? = some p) (new : ORep W ⟨c.ρ, c.h.set n o', upd c.H p ho, c.x⟩ p o') : Sim W ⟨c.ρ, c.h.set n o', upd c.H p ho, c.x⟩ where
  len := by
    show c.ρ.length = (c.h.set n o').length
    rw [List.length_set]; exact s.len
  inj := fun i j q u u' h1 h2 h3 h4 h5 h6 => by
    obtain ⟨w, e1, e2⟩ := set_live hn hd i u h3 h5
    obtain ⟨w', e3, e4⟩ := set_live hn hd j u' h4 h6
    exact s.inj i j q w w' h1 h2 e1 e3 e2 e4
  obj := fun m u q h1 h2 => by
    by_cases hm : m = n
    · subst hm
      have h2 : c.ρ[m]? = some q := h2
      rw [hp] at h2; cases h2
      have h1 : (c.h.set m o')[m]? = some u := h1
      rw [List.getElem?_set_self (by have := (List.getElem?_eq_some_iff.mp hn).1; exact this)] at h1
      cases h1
      exact new
    · have h1' : (c.h.set n o')[m]? = some u := h1
      rw [List.getElem?_set_ne (Ne.symm hm)] at h1'
      by_cases hud : u = .dead
      · subst hud; trivial
      · refine (s.obj m u q h1' h2).ext (Ext.write s hn hd hp).toEx0 (upd_ne fun z => ?_)
        subst z
        exact hm (s.inj m n q u o h2 hp h1' hn hud hd)
  bz := fun q hq => ⟨by
    show upd c.H p ho q ≠ none
    rw [upd_ne fun z => (s.bz q hq).2 ⟨n, o, by rw [z]; exact hp, hn, hd⟩]; exact (s.bz q hq).1, fun ⟨m, u, h1, h2, h3⟩ => by
    obtain ⟨w, e1, e2⟩ := set_live hn hd m u h2 h3
    exact (s.bz q hq).2 ⟨m, w, h1, e1, e2⟩⟩
theorem setSub_snd : PSet X (fun x y v H Q => ∃ (c : Cf) (o i a : AV) (Wx : WX) (S : L2.St), c.H = H ∧ Sim W c ∧ Rep W c x o ∧ Rep W c y i ∧ Rep W c v a ∧ End W Wx S c (fun _ (_ : Unit) (_ : Unit) => True) (fun _ H' => Q H') (setSubV o i a c.h)) := by
  rintro pins s σ H x y v ov iv u Q I ro ri rv ⟨c, o, i, a, Wx, S, rfl, sim, rx, ry, ra, e⟩
  unfold setSubV at e
  split at e
  · rename_i n k
    cases ry
    cases rx with
    | ref hp =>
      rename_i p
      cases q : lstAt c.h n with
      | none => simp only [q] at e; exact e.elim
      | some xs =>
        simp only [q] at e
        cases q2 : ixN xs.length k with
        | none => simp only [q2] at e; exact e.elim
        | some j =>
          simp only [q2] at e
          unfold lstAt at q
          split at q
          · rename_i ys hy
            cases q
            obtain ⟨vs, hv, rvs⟩ := sim.obj n _ p hy hp
            have x : Ext c ⟨c.ρ, c.h.set n (.lst (xs.set j a)), upd c.H p (.lst (vs.set j v)), c.x⟩ := Ext.write sim hy (fun z => by cases z) hp
            refine set_list pins s σ _ _ _ _ ov iv u Q I ro ri rv ⟨p, vs, k, j, rfl, rfl, hv, by rw [rvs.length]; exact q2, ?_⟩
            exact e c.ρ _ () (sim.write hy (fun z => by cases z) hp ⟨_, upd_same, (rvs.to x).set (ra.to x) j⟩) x trivial
          · cases q
  · exact e.elim
end
end NT
set_option linter.all false
set_option maxRecDepth 100000
set_option autoImplicit false
namespace NT
open PySem PySem.Spec PyProof.Rows L2
def bV : B → Value
  | .len => .builtin "len" | .abs => .builtin "abs" | .int => .type "int" | .bool => .type "bool" | .str => .type "str" | .isinstance => .builtin "isinstance"
  | .all => .builtin "all" | .any => .builtin "any" | .sum => .builtin "sum" | .max => .builtin "max" | .min => .builtin "min" | .list => .type "list" | .tuple => .type "tuple"
  | .sorted => .builtin "sorted" | .repr => .builtin "repr" | .type => .type "type"
def bN : B → Str
  | .len => "len" | .abs => "abs" | .int => "int" | .bool => "bool" | .str => "str" | .isinstance => "isinstance"
  | .all => "all" | .any => "any" | .sum => "sum" | .max => "max" | .min => "min" | .list => "list" | .tuple => "tuple" | .sorted => "sorted" | .repr => "repr" | .type => "type"
theorem bN_boot (b : B) : bootBuiltins (bN b) = some (bV b) := by cases b <;> decide +kernel
theorem bN_name (b : B) : bN b ≠ "__name__" := by cases b <;> decide +kernel
theorem bN_dbg (b : B) : (bN b == ("__debug__" : Str)) = false := by cases b <;> decide +kernel
theorem kitB_all : ∀ n ∈ ["NoneType", "bool", "int", "str", "tuple", "list"], ∀ T ∈ ["int", "bool", "str", "list", "tuple"], kitB n T = some (decide (n = T) || (decide (n = "bool") && decide (T = "int"))) := by decide +kernel
def rBlt (W : Wd) (b : B) : List V → Hp → VK → Prop := fun xs H Q => ∃ (c : Cf) (as : List AV) (Wx : WX) (S : L2.St), c.H = H ∧ Sim W c ∧ Reps W c xs as ∧ End W Wx S c (Rep W) Q (bltV b as c.h)
def rBm (W : Wd) (m : BM) : V → List V → Hp → VK → Prop := fun x xs H Q => ∃ (c : Cf) (a : AV) (as : List AV) (Wx : WX) (S : L2.St), c.H = H ∧ Sim W c ∧ Rep W c x a ∧ Reps W c xs as ∧ End W Wx S c (Rep W) Q (bmV m a as c.h)
section
variable {X : Cx} {W : Wd}
theorem Rep.tyX {c : Cf} {v : V} {a : AV} {n : String} (r : Rep W c v a) (h : tyN a = some n) : TyX W.K c.H v (.type n) := by
  cases r with
  | non => cases h; exact .base .non
  | bl b => cases h; exact .base (.bl b)
  | int i => cases h; exact .base (.int i)
  | str s => cases h; exact .base (.str s)
  | ty n => cases h
  | tup h1 r1 =>
    cases h
    rcases h1 with ⟨_, h1 | ⟨o, h1⟩⟩ | ⟨o, its, k, h1, h2, _⟩
    · exact .base (.tup h1)
    · exact .fTuple h1
    · exact .kTuple h1 h2
  | lst h1 r1 =>
    cases h
    rcases h1 with ⟨_, h1 | ⟨o, h1⟩⟩ | ⟨o, its, k, h1, h2, _⟩
    · exact .base (.lst h1)
    · exact .base (.frz h1)
    · exact .kList h1 h2
  | obj => cases h
  | ref => cases h
  | cls => cases h
theorem tyN_mem {a : AV} {n : String} (h : tyN a = some n) : n ∈ ["NoneType", "bool", "int", "str", "tuple", "list"] := by
  cases a <;> simp [tyN] at h <;> subst h <;> decide
theorem blt_snd (hc : X.calm = true) (hK : X.K = W.K) (b : B) : CallR X (bV b) (rBlt W b) := by
  rintro pins s σ H xs us Q I rv ⟨c, as, Wx, S, rfl, sim, ra, e⟩
  have sL : ∀ {p : Addr} {vs : List V}, FzL W.K c p vs → SqL X.K c.H p vs := fun h => by rw [hK]; exact h.sq
  have sT : ∀ {p : Addr} {vs : List V}, FzT W.K c p vs → SqT X.K c.H p vs := fun h => by rw [hK]; exact h.sq
  unfold bltV at e
  split at e
  · cases ra with
    | cons r t =>
      cases t
      cases r with
      | lst h1 r1 => exact call_len_seq pins s σ _ _ us Q I rv ⟨_, _, rfl, .inl (sL h1), e.here sim (by rw [r1.length]; exact .int _)⟩
  · cases ra with
    | cons r t =>
      cases t
      cases r with
      | tup h1 r1 => exact call_len_seq pins s σ _ _ us Q I rv ⟨_, _, rfl, .inr (sT h1), e.here sim (by rw [r1.length]; exact .int _)⟩
  · cases ra with
    | cons r t =>
      cases t
      cases r
      obtain ⟨g, e⟩ := e.ok1
      exact call_len_str pins s σ _ _ us Q I rv ⟨_, rfl, by rw [line_eq]; exact of_decide_eq_true g, e.here sim (.int _)⟩
  · cases ra with
    | cons r t =>
      cases t
      cases r with
      | ref hp =>
        rename_i n p
        cases q : lstAt c.h n with
        | none => simp only [q] at e; exact e.elim
        | some ys =>
          simp only [q] at e
          unfold lstAt at q
          split at q
          · rename_i zs hy
            cases q
            obtain ⟨vs, hv, rvs⟩ := sim.obj n _ p hy hp
            exact call_len_seq pins s σ _ _ us Q I rv ⟨_, _, rfl, .inl (SqL.of hv), e.here sim (by rw [rvs.length]; exact .int _)⟩
          · cases q
  · cases ra with
    | cons r t => cases t; cases r; exact call_abs pins s σ _ _ us Q I rv ⟨_, rfl, e.here sim (.int _)⟩
  · cases ra with
    | cons r t => cases t; cases r; exact call_int1 pins s σ _ _ us Q I rv (.inl ⟨_, rfl, e.here sim (.int _)⟩)
  · cases ra with
    | cons r t => cases t; cases r; exact call_int1 pins s σ _ _ us Q I rv (.inr ⟨_, rfl, e.here sim (.int _)⟩)
  · cases ra with
    | cons r t => cases t; cases r; exact call_bool1 pins s σ _ _ us Q I rv (.inl ⟨_, rfl, e.here sim (.bl _)⟩)
  · cases ra with
    | cons r t => cases t; cases r; exact call_bool1 pins s σ _ _ us Q I rv (.inr ⟨_, rfl, e.here sim (.bl _)⟩)
  · cases ra with
    | cons r t =>
      cases t; cases r
      obtain ⟨g, e⟩ := e.ok1
      exact call_str_int pins s σ _ _ us Q I rv ⟨_, rfl, of_decide_eq_true g, e.here sim (.str _)⟩
  · rename_i a T
    cases ra with
    | cons r t =>
      cases t with
      | cons r2 t2 =>
        cases t2; cases r2
        obtain ⟨z, h, e⟩ := e.of
        unfold isTy at h
        cases q : tyN a with
        | none => rw [q] at h; cases h
        | some n =>
          rw [q] at h
          simp only at h
          split at h
          · rename_i hT
            cases h
            have hm : T ∈ ["int", "bool", "str", "list", "tuple"] := by
              rcases hT with rfl | rfl | rfl | rfl | rfl <;> decide
            exact call_isi pins s σ _ _ us Q I rv ⟨_, _, _, _, _, rfl, .ty _, by rw [hK]; exact r.tyX q, kit_ty (kitB_all n (tyN_mem q) T hm), e.here sim (.bl _)⟩
          · cases h
  · cases ra with
    | cons r t =>
      cases t
      cases r with
      | lst h1 r1 =>
        obtain ⟨z, h, e⟩ := e.of
        rename_i ys _ _ _
        cases q : allB ys with
        | none => rw [q] at h; cases h
        | some bs => rw [q] at h; cases h; exact cr_all hc pins s σ _ _ us Q I rv ⟨_, bs, rfl, by rw [← r1.bools q]; exact sL h1, e.here sim (.bl _)⟩
  · cases ra with
    | cons r t =>
      cases t
      cases r with
      | lst h1 r1 =>
        obtain ⟨z, h, e⟩ := e.of
        rename_i ys _ _ _
        cases q : allB ys with
        | none => rw [q] at h; cases h
        | some bs => rw [q] at h; cases h; exact cr_any hc pins s σ _ _ us Q I rv ⟨_, bs, rfl, by rw [← r1.bools q]; exact sL h1, e.here sim (.bl _)⟩
  · cases ra with
    | cons r t =>
      cases t
      cases r with
      | lst h1 r1 =>
        obtain ⟨z, h, e⟩ := e.of
        rename_i ys _ _ _
        cases q : allI ys with
        | none => rw [q] at h; cases h
        | some ns => rw [q] at h; cases h; exact cr_sum hc pins s σ _ _ us Q I rv ⟨_, ns, rfl, by rw [← r1.ints q]; exact sL h1, e.here sim (.int _)⟩
  · cases ra with
    | cons r t =>
      cases t with
      | cons r2 t2 => cases t2; cases r; cases r2; exact call_max2 hc pins s σ _ _ us Q I rv ⟨_, _, rfl, e.here sim (.int _)⟩
  · cases ra with
    | cons r t =>
      cases t with
      | cons r2 t2 => cases t2; cases r; cases r2; exact call_min2 hc pins s σ _ _ us Q I rv ⟨_, _, rfl, e.here sim (.int _)⟩
  · cases ra with
    | cons r t =>
      cases t
      cases r with
      | lst h1 r1 => exact call_list_of pins s σ _ _ us Q I rv ⟨_, _, rfl, .inl (sL h1), fun p hp => e.new sim hp (Rep.newLst sim hp r1)⟩
  · cases ra with
    | cons r t =>
      cases t
      cases r with
      | tup h1 r1 => exact call_list_of pins s σ _ _ us Q I rv ⟨_, _, rfl, .inr (sT h1), fun p hp => e.new sim hp (Rep.newLst sim hp r1)⟩
  · cases ra with
    | cons r t =>
      cases t
      cases r with
      | lst h1 r1 => exact call_tuple_of pins s σ _ _ us Q I rv ⟨_, _, rfl, .inl ⟨sL h1, fun p hp => e.new sim hp (Rep.newTup sim hp r1)⟩⟩
  · cases ra with
    | cons r t =>
      cases t
      cases r with
      | tup h1 r1 => exact call_tuple_of pins s σ _ _ us Q I rv ⟨_, _, rfl, .inr ⟨sT h1, e.here sim (.tup h1 r1)⟩⟩
  · exact e.elim
theorem join_snd (hK : X.K = W.K) : MtR X "str.join" (rBm W .join) := by
  rintro pins s σ H x xs v us Q I rx rv ⟨c, a, as, Wx, S, rfl, sim, r, ra, e⟩
  cases r <;> try exact e.elim
  cases ra with
  | nil => exact e.elim
  | cons r1 t =>
    cases t with
    | cons _ _ => cases r1 <;> exact e.elim
    | nil =>
      cases r1 <;> try exact e.elim
      rename_i ys h1 rs
      have e : End W Wx S c (Rep W) Q (joinV _ (allS ys) c.h) := e
      cases q : allS ys with
      | none => rw [q] at e; exact e.elim
      | some ss =>
        rw [q] at e
        obtain ⟨g, e⟩ := End.ok1 e
        exact mt_join pins s σ _ _ _ v us Q I rx rv ⟨_, _, ss, rfl, rfl, .inl (by rw [← rs.strs q, hK]; exact h1.sq), of_decide_eq_true g, e.here sim (.str _)⟩
/-! ### methods of built-in classes -/
def bmOk : BM → Bool
  | .join => true
  | _ => false
def bmN : BM → Str
  | .join => "join" | .append => "append" | .index => "index" | .get => "get" | .split => "split" | .partition => "partition" | .isdigit => "isdigit" | .startswith => "startswith"
  | .rjust => "rjust" | .pop => "pop" | .clear => "clear" | .insert => "insert" | .replace => "replace" | .items => "items" | .values => "values" | .count => "count"
structure BmOk (W : Wd) (X : Cx) (m : BM) where
  T : String
  id : String
  pa : PlainAttrs T
  slot : Slot T (bmN m) id
  ty : typeOf (.builtin id) = pure (.type "method_descriptor")
  mt : MtR X id (rBm W m)
  own : ∀ (c : Cf) (v : V) (a : AV), Rep W c v a → bmTy m a = true → tyV X.K T v c.H
theorem bm_facts (hK : X.K = W.K) (m : BM) (h : bmOk m = true) : Nonempty (BmOk W X m) := by
  cases m <;> try cases h
  · refine ⟨⟨"str", "str.join", F.plainAttrs_str, F.slot_str_join, F.type_str_join, join_snd hK, fun c v a r t => ?_⟩⟩
    cases r <;> first | cases t; done | rfl
end
end NT
set_option linter.all false
set_option maxRecDepth 100000
set_option autoImplicit false
namespace NT
open PySem PySem.Spec PyProof.Rows L2
structure CtxOk (W : Wd) (Wx : WX) (n : Nat) (X : Cx) : Prop where
  hP : X.prog = W.P
  hw : X.w = W.w
  hK : X.K = W.K
  hg : X.mg = W.mg
  hb : X.base = W.base
  calm : X.calm = true
  room : Room n X.A
  tk : Takes X Wx
  nd : X.N.Nodup
def LocR (W : Wd) (c : Cf) (S : L2.St) (σ : Loc) : Prop := S.length = σ.length ∧ ∀ (i : Nat) (a : AV), σ[i]? = some (some a) → ∃ v, S[i]? = some (some v) ∧ Rep W c v a
theorem LocR.to0 {W : Wd} {c c' : Cf} {S : L2.St} {σ : Loc} (l : LocR W c S σ) (x : Ex0 c c') : LocR W c' S σ := ⟨l.1, fun i a e => let ⟨v, h1, h2⟩ := l.2 i a e; ⟨v, h1, h2.to0 x⟩⟩
theorem LocR.to {W : Wd} {c c' : Cf} {S : L2.St} {σ : Loc} (l : LocR W c S σ) (x : Ext c c') : LocR W c' S σ := l.to0 x.toEx0
theorem LocR.set {W : Wd} {c : Cf} {S : L2.St} {σ : Loc} (l : LocR W c S σ) {v : V} {a : AV} (r : Rep W c v a) (i : Nat) : LocR W c (S.set i (some v)) (σ.set i (some a)) := by
  refine ⟨by rw [List.length_set, List.length_set]; exact l.1, fun j b e => ?_⟩
  by_cases hj : j = i
  · subst hj
    by_cases hl : j < σ.length
    · rw [List.getElem?_set_self hl] at e
      cases e
      exact ⟨v, List.getElem?_set_self (by rw [l.1]; exact hl), r⟩
    · rw [List.getElem?_eq_none (by rw [List.length_set]; omega)] at e
      cases e
  · rw [List.getElem?_set_ne (Ne.symm hj)] at e ⊢
    exact l.2 j b e
theorem LocR.wipe {W : Wd} {c : Cf} {S : L2.St} {σ : Loc} (l : LocR W c S σ) : ∀ vs : List Nat, LocR W c (L2.wipe S vs) (wipeL σ vs)
  | [] => l
  | v :: vs => by
    have ih := LocR.wipe l vs
    unfold L2.wipe wipeL
    refine ⟨by rw [List.length_set, List.length_set]; exact ih.1, fun j b e => ?_⟩
    by_cases hj : j = v
    · subst hj
      by_cases hl : j < (wipeL σ vs).length
      · rw [List.getElem?_set_self hl] at e; cases e
      · rw [List.getElem?_eq_none (by rw [List.length_set]; omega)] at e; cases e
    · rw [List.getElem?_set_ne (Ne.symm hj)] at e ⊢
      exact ih.2 j b e

section
variable (W : Wd) (Wx : WX) (X : Cx) (C : Orc)
def SndE (e : Expr) (ir : E) : Prop := ∀ (c : Cf) (S : L2.St) (σ : Loc) (Q : VK), Sim W c → LocR W c S σ → End W Wx S c (Rep W) Q (ev C σ ir c.h) → wE X e S c.H Q
def SndT (e : Expr) (ir : E) : Prop := ∀ (c : Cf) (S : L2.St) (σ : Loc) (Q : Bool → Hp → Prop), Sim W c → LocR W c S σ → End W Wx S c (fun _ (b k : Bool) => b = k) Q (evT C σ ir c.h) → wT X e S c.H Q
def SndA (es : List Expr) (ir : E) : Prop := ∀ (c : Cf) (S : L2.St) (σ : Loc) (Q : List V → Hp → Prop), Sim W c → LocR W c S σ → End W Wx S c (Reps W) Q (evs C σ ir c.h) → wA X es S c.H Q
def wI (tg iter : Expr) : TI := fun σ H R => ∀ (pins : List (Addr × Obj)) (s : Shared), Inv X pins σ H s → wpAny (model X.prog X.w) X.A (eval iter X.env) (fun v s1 => wpAny (model X.prog X.w) X.A (pyIter v) (PIE X pins σ tg R) X.xe s1) X.xe s
/-- an iterator that goes over xs -/
def WalkA (c : Cf) (J : It) (xs : List AV) : Prop := ∃ (G : Hp → Prop) (Y : Nat → Hp → V → Hp → Prop), Walk J xs.length G Y ∧ (∀ c', Ex0 c c' → G c'.H) ∧
  ∀ (i : Nat) (c' : Cf) (v : V) (H' : Hp) (a : AV), xs[i]? = some a → Sim W c' → Ex0 c c' → Y i c'.H v H' → Sim W { c' with H := H' } ∧ Ext c' { c' with H := H' } ∧ Rep W { c' with H := H' } v a
def SndI (tg iter : Expr) (ir : E) : Prop := ∀ (c : Cf) (S : L2.St) (σ : Loc) (R : It → Hp → Prop), Sim W c → LocR W c S σ → End W Wx S c (WalkA W) R (evI C σ ir c.h) → wI X tg iter S c.H R
end
theorem pi_w {X : Cx} {tg iter : Expr} : PI X tg iter (wI X tg iter) := ⟨fun pins s σ H R I h => h pins s I⟩
theorem wI_of {X : Cx} {tg iter : Expr} {t : TI} {σ : L2.St} {H : Hp} {R : It → Hp → Prop} (h : PI X tg iter t) (q : t σ H R) : wI X tg iter σ H R := fun pins s I => h.run pins s σ H R I q

theorem lget_some {σ : Loc} {i : Nat} {v : AV} (h : σ[i]?.getD none = some v) : σ[i]? = some (some v) := by
  cases q : σ[i]? with
  | none => rw [q] at h; cases h
  | some o => rw [q] at h; exact congrArg some h
section
variable {W : Wd} {Wx : WX} {X : Cx} {C : Orc} {n : Nat} {a b d : Expr} {ia ib id : E} {pos : Pos}
/-! ### names and constants -/
theorem snd_int {i : Int} {j : Nat} : SndE W Wx X C (.Constant (.int i) j pos) (.cst (.int i)) := fun c S σ Q sim _ e => wE_of pe_int (e.here sim (.int i))
theorem snd_bl {i : Bool} {j : Nat} : SndE W Wx X C (.Constant (.bool i) j pos) (.cst (.bl i)) := fun c S σ Q sim _ e => wE_of pe_bl (e.here sim (.bl i))
theorem snd_non {j : Nat} : SndE W Wx X C (.Constant .none j pos) (.cst .non) := fun c S σ Q sim _ e => wE_of pe_non (e.here sim .non)
theorem snd_str {i : Str} {j : Nat} : SndE W Wx X C (.Constant (.str i) j pos) (.cst (.str i)) := fun c S σ Q sim _ e => wE_of pe_str (e.here sim (.str i))
theorem snd_var {i : Nat} {x : Str} (hN : X.N[i]? = some x) (hv : Vis X.env.scope x) (hd : (x == ("__debug__" : Str)) = false) (hcd : (x == ("__classdict__" : Str)) = false) : SndE W Wx X C (.Name x pos) (.var i) := fun c S σ Q sim l e => by
  have e : End W Wx S c (Rep W) Q (lget σ i c.h) := e
  obtain ⟨v, q, e⟩ := End.of e
  obtain ⟨w, h1, h2⟩ := l.2 i v (lget_some q)
  exact wE_of (pe_var hN hv hd hcd) ⟨w, h1, e.here sim h2⟩
/-- a module's constant, a class -/
theorem snd_glob {x : Str} {v : V} {u : Value} {g : AV} (hg : Gl X x) (hm : X.mg x = some u) (r : RelV v u) (ra : ∀ c, Rep W c v g) (hd : (x == ("__debug__" : Str)) = false) : SndE W Wx X C (.Name x pos) (.cst g) :=
  fun c S σ Q sim _ e => wE_of (pe_glob hg hm r hd) (e.here sim (ra c))
theorem snd_bty {x : Str} {T : String} (hg : Gl X x) (hm : X.mg x = none) (hv : bootBuiltins x = some (.type T)) (hn : x ≠ "__name__") (hd : (x == ("__debug__" : Str)) = false) : SndE W Wx X C (.Name x pos) (.cst (.ty T)) :=
  fun c S σ Q sim _ e => wE_of (pe_bltn (v := .ty T) hg hm hv rfl hn hd) (e.here sim (.ty T))

/-! ### operators -/
theorem snd_bin (K : CtxOk W Wx n X) {op : Operator} (ha : SndE W Wx X C a ia) (hb : SndE W Wx X C b ib) : SndE W Wx X C (.BinOp a op b pos) (.bin op ia ib) := fun c S σ Q sim l e => by
  refine wE_of (pe_op (bin_snd K.hK op) pe_w pe_w) (ha c S σ _ sim l (End.bind e fun x c1 v _ s1 x1 r1 e1 => ?_))
  exact hb c1 S σ _ s1 (l.to x1) (End.bind e1 fun y c2 w _ s2 x2 r2 e2 => ⟨c2, x, y, Wx, S, rfl, s2, r1.to x2, r2, e2⟩)
theorem snd_neg (ha : SndE W Wx X C a ia) : SndE W Wx X C (.UnaryOp .USub a pos) (.neg ia) := fun c S σ Q sim l e =>
  wE_of (pe_un neg_snd pe_w) (ha c S σ _ sim l (End.bind e fun x c1 v _ s1 x1 r1 e1 => ⟨c1, x, Wx, S, rfl, s1, r1, e1⟩))
theorem snd_cmp (K : CtxOk W Wx n X) {op : CmpOp} (ha : SndE W Wx X C a ia) (hb : SndE W Wx X C b ib) (hm : behindInMarks op b = false) : SndE W Wx X C (.Compare a [op] [b] pos) (.cmp op ia ib) := fun c S σ Q sim l e => by
  refine wE_of (pe_cmpR (cmp_snd K.room.units K.hK op) pe_w pe_w hm) (ha c S σ _ sim l (End.bind e fun x c1 v _ s1 x1 r1 e1 => ?_))
  exact hb c1 S σ _ s1 (l.to x1) (End.bind e1 fun y c2 w _ s2 x2 r2 e2 => ⟨c2, x, y, Wx, S, rfl, s2, r1.to x2, r2, e2⟩)
theorem asB_snd {S : L2.St} {c : Cf} {α β : Type} {R : Cf → β → α → Prop} {Q : β → Hp → Prop} {r : AV} {f : Bool → M α} {v : V} (e : End W Wx S c R Q (M.bind (asB r) f c.h)) (h : Rep W c v r) : ∃ k, v = .bl k ∧ r = .bl k ∧ End W Wx S c R Q (f k c.h) := by
  cases h <;> first | exact e.elim | exact ⟨_, rfl, rfl, e⟩
theorem sndT_cmp (K : CtxOk W Wx n X) {op : CmpOp} (ha : SndE W Wx X C a ia) (hb : SndE W Wx X C b ib) (hm : behindInMarks op b = false) : SndT W Wx X C (.Compare a [op] [b] pos) (.cmp op ia ib) := fun c S σ Q sim l e => by
  refine wT_of (pt_cmpR (cmp_snd K.room.units K.hK op) pe_w pe_w hm) (ha c S σ _ sim l (End.bind e fun x c1 v _ s1 x1 r1 e1 => ?_))
  refine hb c1 S σ _ s1 (l.to x1) (End.bind e1 fun y c2 w _ s2 x2 r2 e2 => ⟨c2, x, y, Wx, S, rfl, s2, r1.to x2, r2, End.bind e2 fun r c3 z _ s3 x3 r3 e3 => ?_⟩)
  cases r3 <;> first | exact e3.elim | exact ⟨_, rfl, e3.here s3 rfl⟩
theorem snd_chn (K : CtxOk W Wx n X) {op op' : CmpOp} (ha : SndE W Wx X C a ia) (hb : SndE W Wx X C b ib) (hd : SndE W Wx X C d id) (hm : behindInMarks op' d = false) :
    SndE W Wx X C (.Compare a [op, op'] [b, d] pos) (.chn op op' ia ib id) := fun c S σ Q sim l e => by
  refine wE_of (pe_chain (cmp_snd K.room.units K.hK op) (cmp_snd K.room.units K.hK op') pe_w pe_w pe_w hm) (ha c S σ _ sim l (End.bind e fun x c1 v _ s1 x1 r1 e1 => ?_))
  refine hb c1 S σ _ s1 (l.to x1) (End.bind e1 fun y c2 w _ s2 x2 r2 e2 => ⟨c2, x, y, Wx, S, rfl, s2, r1.to x2, r2, End.bind e2 fun r c3 z _ s3 x3 r3 e3 => ?_⟩)
  obtain ⟨k, hz, hr, e3⟩ := asB_snd e3 r3
  refine ⟨k, hz, ?_⟩
  cases k with
  | true =>
    rw [if_pos rfl] at e3 ⊢
    exact hd c3 S σ _ s3 (l.to (x1.trans (x2.trans x3))) (End.bind e3 fun q c4 u _ s4 x4 r4 e4 => ⟨c4, y, q, Wx, S, rfl, s4, r2.to (x3.trans x4), r4, e4⟩)
  | false =>
    rw [if_neg (by decide)] at e3 ⊢
    exact e3.here s3 (.bl false)
theorem sndT_chn (K : CtxOk W Wx n X) {op op' : CmpOp} (ha : SndE W Wx X C a ia) (hb : SndE W Wx X C b ib) (hd : SndE W Wx X C d id) (hm : behindInMarks op' d = false) :
    SndT W Wx X C (.Compare a [op, op'] [b, d] pos) (.chn op op' ia ib id) := fun c S σ Q sim l e => by
  refine wT_of (pt_chain (cmp_snd K.room.units K.hK op) (cmp_snd K.room.units K.hK op') pe_w pe_w pe_w hm) (ha c S σ _ sim l (End.bind e fun x c1 v _ s1 x1 r1 e1 => ?_))
  refine hb c1 S σ _ s1 (l.to x1) (End.bind e1 fun y c2 w _ s2 x2 r2 e2 => ⟨c2, x, y, Wx, S, rfl, s2, r1.to x2, r2, End.bind e2 fun r c3 z _ s3 x3 r3 e3 => ?_⟩)
  obtain ⟨k, hz, hr, e3⟩ := asB_snd e3 r3
  refine ⟨k, hz, ?_⟩
  cases k with
  | true =>
    rw [if_pos rfl] at e3 ⊢
    refine hd c3 S σ _ s3 (l.to (x1.trans (x2.trans x3))) (End.bind e3 fun q c4 u _ s4 x4 r4 e4 => ⟨c4, y, q, Wx, S, rfl, s4, r2.to (x3.trans x4), r4, End.bind e4 fun r c5 z _ s5 x5 r5 e5 => ?_⟩)
    cases r5 <;> first | exact e5.elim | exact ⟨_, rfl, e5.here s5 rfl⟩
  | false =>
    rw [if_neg (by decide)] at e3 ⊢
    exact ⟨false, rfl, e3.here s3 rfl⟩
end
end NT
set_option linter.all false
set_option maxRecDepth 100000
set_option autoImplicit false
namespace NT
open PySem PySem.Spec PyProof.Rows L2
section
variable {W : Wd} {Wx : WX} {X : Cx} {C : Orc} {n : Nat} {a b d : Expr} {ia ib id : E} {pos : Pos} {rest es : List Expr}
/-! ### and, or, not, if -/
theorem snd_and (ha : SndE W Wx X C a ia) (hb : SndE W Wx X C (.BoolOp .And (b :: rest) pos) ib) : SndE W Wx X C (.BoolOp .And (a :: b :: rest) pos) (.and ia ib) := fun c S σ Q sim l e => by
  refine wE_of (pe_and pe_w pe_w) (ha c S σ _ sim l (End.bind e fun x c1 v _ s1 x1 r1 e1 => ?_))
  obtain ⟨k, hz, hr, e1⟩ := asB_snd e1 r1
  refine ⟨k, hz, ?_⟩
  cases k with
  | true => rw [if_pos rfl] at e1 ⊢; exact hb c1 S σ _ s1 (l.to x1) e1
  | false => rw [if_neg (by decide)] at e1 ⊢; exact e1.here s1 (.bl false)
theorem snd_or (ha : SndE W Wx X C a ia) (hb : SndE W Wx X C (.BoolOp .Or (b :: rest) pos) ib) : SndE W Wx X C (.BoolOp .Or (a :: b :: rest) pos) (.or ia ib) := fun c S σ Q sim l e => by
  refine wE_of (pe_or pe_w pe_w) (ha c S σ _ sim l (End.bind e fun x c1 v _ s1 x1 r1 e1 => ?_))
  obtain ⟨k, hz, hr, e1⟩ := asB_snd e1 r1
  refine ⟨k, hz, ?_⟩
  cases k with
  | true => rw [if_pos rfl] at e1 ⊢; exact e1.here s1 (.bl true)
  | false => rw [if_neg (by decide)] at e1 ⊢; exact hb c1 S σ _ s1 (l.to x1) e1
theorem snd_one {op : BoolOp} (ha : SndE W Wx X C a ia) : SndE W Wx X C (.BoolOp op [a] pos) ia := fun c S σ Q sim l e => wE_of (pe_one pe_w) (ha c S σ _ sim l e)
theorem pw_w {op : BoolOp} {vs : List Expr} : PW X (.BoolOp op vs pos) (wT X (.BoolOp op vs pos)) := ⟨fun _ pins s _ _ _ I h => h pins s I⟩
theorem sndT_and (ha : SndT W Wx X C a ia) (hb : SndT W Wx X C (.BoolOp .And (b :: rest) pos) ib) : SndT W Wx X C (.BoolOp .And (a :: b :: rest) pos) (.and ia ib) := fun c S σ Q sim l e => by
  refine wT_of (pw_and pt_w pw_w).pt (ha c S σ _ sim l (End.bind e fun x c1 v _ s1 x1 r1 e1 => ?_))
  subst r1
  cases v with
  | true => rw [if_pos rfl] at e1 ⊢; exact hb c1 S σ _ s1 (l.to x1) e1
  | false => rw [if_neg (by decide)] at e1 ⊢; exact e1.here s1 rfl
theorem sndT_or (ha : SndT W Wx X C a ia) (hb : SndT W Wx X C (.BoolOp .Or (b :: rest) pos) ib) : SndT W Wx X C (.BoolOp .Or (a :: b :: rest) pos) (.or ia ib) := fun c S σ Q sim l e => by
  refine wT_of (pw_or pt_w pw_w).pt (ha c S σ _ sim l (End.bind e fun x c1 v _ s1 x1 r1 e1 => ?_))
  subst r1
  cases v with
  | true => rw [if_pos rfl] at e1 ⊢; exact e1.here s1 rfl
  | false => rw [if_neg (by decide)] at e1 ⊢; exact hb c1 S σ _ s1 (l.to x1) e1
theorem sndT_oneA (ha : SndT W Wx X C a ia) : SndT W Wx X C (.BoolOp .And [a] pos) ia := fun c S σ Q sim l e => wT_of (pw_and1 pt_w).pt (ha c S σ _ sim l e)
theorem sndT_oneO (ha : SndT W Wx X C a ia) : SndT W Wx X C (.BoolOp .Or [a] pos) ia := fun c S σ Q sim l e => wT_of (pw_or1 pt_w).pt (ha c S σ _ sim l e)
theorem sndT_not (ha : SndT W Wx X C a ia) : SndT W Wx X C (.UnaryOp .Not a pos) (.not ia) := fun c S σ Q sim l e => by
  refine wT_of (pt_not pt_w) (ha c S σ _ sim l (End.bind e fun x c1 v _ s1 x1 r1 e1 => ?_))
  subst r1
  exact e1.here s1 rfl
/-- a test by its value's truth -/
theorem sndT_tv (K : CtxOk W Wx n X) (ha : SndE W Wx X C a ia) (he : ∀ whole, isTrue a X.env whole = (do let v ← whole; standAt a.pos; holding [v] (truthy v))) : SndT W Wx X C a (.tv ia) := fun c S σ Q sim l e => by
  intro pins s I
  refine isTrue_plain (thn (ha c S σ (fun x H => ∃ (c : Cf) (y : AV) (Wx : WX) (S : L2.St), c.H = H ∧ Sim W c ∧ Rep W c x y ∧ End W Wx S c (fun _ (b k : Bool) => b = k) Q (truV y c.h)) sim l (End.bind e fun x c1 v _ s1 x1 r1 e1 => ⟨c1, x, Wx, S, rfl, s1, r1, e1⟩) pins s I) fun v s1 ⟨x, H1, I1, r1, q1⟩ => ?_) (he _)
  exact tru_snd K.hK pins s1 S H1 x v Q I1 r1 q1
/-- not x as a value, x a bool -/
theorem snd_not (ha : SndE W Wx X C a ia) : SndE W Wx X C (.UnaryOp .Not a pos) (.notv ia) := fun c S σ Q sim l e => by
  refine wE_of (pe_not pe_w) (ha c S σ _ sim l (End.bind e fun x c1 v _ s1 x1 r1 e1 => ?_))
  obtain ⟨k, hz, hr, e1⟩ := asB_snd e1 r1
  exact ⟨k, hz, e1.here s1 (.bl _)⟩
theorem snd_ifx {t : Expr} {it : E} (ht : SndT W Wx X C t it) (ha : SndE W Wx X C a ia) (hb : SndE W Wx X C b ib) : SndE W Wx X C (.IfExp t a b pos) (.ifx it ia ib) := fun c S σ Q sim l e => by
  refine wE_of (pe_ifExp pt_w pe_w pe_w) (ht c S σ _ sim l (End.bind e fun x c1 v _ s1 x1 r1 e1 => ?_))
  subst r1
  cases v with
  | true => rw [if_pos rfl] at e1 ⊢; exact ha c1 S σ _ s1 (l.to x1) e1
  | false => rw [if_neg (by decide)] at e1 ⊢; exact hb c1 S σ _ s1 (l.to x1) e1

/-! ### argument lists, displays -/
theorem sndA_nil : SndA W Wx X C [] .nil := fun c S σ Q sim l e => wA_of pa_nil (e.here sim .nil)
theorem sndA_cons (ha : SndE W Wx X C a ia) (hr : SndA W Wx X C es ib) (hs : starEach (a :: es) X.env = (false, eval a X.env) :: starEach es X.env) : SndA W Wx X C (a :: es) (.cons ia ib) := fun c S σ Q sim l e => by
  refine wA_of (pa_cons pe_w pa_w hs) (ha c S σ _ sim l (End.bind e fun x c1 v _ s1 x1 r1 e1 => ?_))
  exact hr c1 S σ _ s1 (l.to x1) (End.bind e1 fun xs c2 vs _ s2 x2 r2 e2 => e2.here s2 (.cons (r1.to x2) r2))
theorem sndA_star (K : CtxOk W Wx n X) {p : Pos} (ha : SndE W Wx X C a ia) (hr : SndA W Wx X C es ib) : SndA W Wx X C (.Starred a p :: es) (.star ia ib) := fun c S σ Q sim l e => by
  refine wA_of (StX.pa_star pe_w pa_w) (ha c S σ _ sim l (End.bind e fun x c1 v _ s1 x1 r1 e1 => ?_))
  cases r1 <;> try exact e1.elim
  · rename_i h1 r1 _
    exact ⟨_, _, rfl, .inl (by rw [K.hK]; exact h1.sq), hr c1 S σ _ s1 (l.to x1) (End.bind e1 fun xs c2 vs _ s2 x2 r2 e2 => e2.here s2 ((r1.to x2).append r2))⟩
  · rename_i h1 r1 _
    exact ⟨_, _, rfl, .inr (by rw [K.hK]; exact h1.sq), hr c1 S σ _ s1 (l.to x1) (End.bind e1 fun xs c2 vs _ s2 x2 r2 e2 => e2.here s2 ((r1.to x2).append r2))⟩
theorem snd_tup {k : Nat} (ha : SndA W Wx X C es ia) : SndE W Wx X C (.Tuple es k pos) (.tup ia) := fun c S σ Q sim l e => by
  refine wE_of (pe_tup pa_w) (ha c S σ _ sim l (End.bind e fun xs c1 vs _ s1 x1 r1 e1 => ?_))
  obtain ⟨g, e1⟩ := e1.ok1
  exact ⟨by rw [r1.length, line_eq]; exact of_decide_eq_true g, fun p hp => e1.new s1 hp (Rep.newTup s1 hp r1)⟩
theorem snd_lst (ha : SndA W Wx X C es ia) : SndE W Wx X C (.List es pos) (.lst ia) := fun c S σ Q sim l e => by
  refine wE_of (pe_lst pa_w) (ha c S σ _ sim l (End.bind e fun xs c1 vs _ s1 x1 r1 e1 => ?_))
  obtain ⟨g, e1⟩ := e1.ok1
  exact ⟨by rw [r1.length, line_eq]; exact of_decide_eq_true g, fun p hp => e1.new s1 hp (Rep.newLst s1 hp r1)⟩
/-- a new place of the abstract heap -/
theorem app_get {α : Type} {l : List α} {x y : α} {m : Nat} (h : (l ++ [x])[m]? = some y) : l[m]? = some y ∨ (m = l.length ∧ y = x) := by
  by_cases hm : m < l.length
  · rw [List.getElem?_append_left hm] at h; exact .inl h
  · by_cases hm2 : m = l.length
    · subst hm2
      rw [List.getElem?_append_right (Nat.le_refl _), Nat.sub_self] at h
      exact .inr ⟨rfl, by simpa using h.symm⟩
    · rw [List.getElem?_eq_none (by simp; omega)] at h; cases h
theorem Ext.alloc {c : Cf} (s : Sim W c) {p : Addr} {o : AObj} {ho : HO} (hp : c.H p = none) : Ext c ⟨c.ρ ++ [p], c.h ++ [o], upd c.H p ho, c.x⟩ where
  pre := fun k q h => by
    show (c.ρ ++ [p])[k]? = some q
    rw [List.getElem?_append_left (List.getElem?_eq_some_iff.mp h).1]; exact h
  keep := fun q u h _ => by
    show upd c.H p ho q = some u
    rw [upd_ne (ne_of_none h hp)]; exact h
  nl := fun q hq nl l => by
    rcases l with l | ⟨m, u, h1, h2, h3⟩
    · exact nl (.inl l)
    · have h1 : (c.ρ ++ [p])[m]? = some q := h1
      have h2 : (c.h ++ [o])[m]? = some u := h2
      rcases app_get h1 with h1 | ⟨_, e⟩
      · rcases app_get h2 with h2 | ⟨e, _⟩
        · exact nl (.inr ⟨m, u, h1, h2, h3⟩)
        · rw [e, ← s.len, List.getElem?_eq_none (Nat.le_refl _)] at h1; cases h1
      · rw [e] at hq; exact hq hp
  bx := rfl
  busy := fun q hq => upd_ne fun z => (s.bz q hq).1 (by rw [z]; exact hp)
theorem Sim.alloc {c : Cf} (s : Sim W c) {p : Addr} {o : AObj} {ho : HO} (hp : c.H p = none) (new : ORep W ⟨c.ρ ++ [p], c.h ++ [o], upd c.H p ho, c.x⟩ p o) : Sim W ⟨c.ρ ++ [p], c.h ++ [o], upd c.H p ho, c.x⟩ := by
  have both : ∀ (m : Nat) (q : Addr) (u : AObj), (c.ρ ++ [p])[m]? = some q → (c.h ++ [o])[m]? = some u → (c.ρ[m]? = some q ∧ c.h[m]? = some u) ∨ (m = c.ρ.length ∧ q = p ∧ u = o) := fun m q u h1 h2 => by
    rcases app_get h1 with h1 | ⟨e1, e2⟩
    · rcases app_get h2 with h2 | ⟨e, _⟩
      · exact .inl ⟨h1, h2⟩
      · rw [e, ← s.len, List.getElem?_eq_none (Nat.le_refl _)] at h1; cases h1
    · rcases app_get h2 with h2 | ⟨_, e⟩
      · rw [e1, s.len, List.getElem?_eq_none (Nat.le_refl _)] at h2; cases h2
      · exact .inr ⟨e1, e2, e⟩
  have old : ∀ (m : Nat) (q : Addr) (u : AObj), c.ρ[m]? = some q → c.h[m]? = some u → u ≠ .dead → q ≠ p := fun m q u h1 h2 h3 z => s.htracked ⟨m, u, h1, h2, h3⟩ (by rw [z]; exact hp)
  refine ⟨?_, fun i j q u u' h1 h2 h3 h4 h5 h6 => ?_, fun m u q h1 h2 => ?_, fun q hq => ⟨?_, fun ⟨m, u, h1, h2, h3⟩ => ?_⟩⟩
  · show (c.ρ ++ [p]).length = (c.h ++ [o]).length
    rw [List.length_append, List.length_append, s.len]; rfl
  · rcases both i q u h1 h3 with ⟨a1, a2⟩ | ⟨a1, a2, a3⟩
    · rcases both j q u' h2 h4 with ⟨b1, b2⟩ | ⟨b1, b2, b3⟩
      · exact s.inj i j q u u' a1 b1 a2 b2 h5 h6
      · exact absurd b2 (old i q u a1 a2 h5)
    · rcases both j q u' h2 h4 with ⟨b1, b2⟩ | ⟨b1, b2, b3⟩
      · exact absurd a2 (old j q u' b1 b2 h6)
      · rw [a1, b1]
  · rcases both m q u h2 h1 with ⟨a1, a2⟩ | ⟨a1, a2, a3⟩
    · by_cases hd : u = .dead
      · subst hd; trivial
      · exact (s.obj m u q a2 a1).ext (Ext.alloc s hp).toEx0 (upd_ne (old m q u a1 a2 hd))
    · subst a2 a3; exact new
  · show upd c.H p ho q ≠ none
    rw [upd_ne fun z => (s.bz q hq).1 (by rw [z]; exact hp)]; exact (s.bz q hq).1
  · rcases both m q u h1 h2 with ⟨a1, a2⟩ | ⟨a1, a2, a3⟩
    · exact (s.bz q hq).2 ⟨m, u, a1, a2, h3⟩
    · exact (s.bz q hq).1 (by rw [a2]; exact hp)
theorem snd_mlst (ha : SndA W Wx X C es ia) : SndE W Wx X C (.List es pos) (.mlst ia) := fun c S σ Q sim l e => by
  refine wE_of (pe_lst pa_w) (ha c S σ _ sim l (End.bind e fun xs c1 vs _ s1 x1 r1 e1 => ?_))
  by_cases hl : xs.length ≤ line
  · rw [if_pos hl] at e1
    refine ⟨by rw [r1.length, line_eq]; exact hl, fun p hp => ?_⟩
    have x2 : Ext c1 ⟨c1.ρ ++ [p], c1.h ++ [.lst xs], upd c1.H p (.lst vs), c1.x⟩ := Ext.alloc s1 hp
    refine e1 (c1.ρ ++ [p]) _ _ (s1.alloc hp ⟨vs, upd_same, r1.to x2⟩) x2 (.ref ?_)
    show (c1.ρ ++ [p])[c1.h.length]? = some p
    rw [← s1.len, List.getElem?_append_right (Nat.le_refl _), Nat.sub_self]; rfl
  · rw [if_neg hl] at e1; exact e1.elim

/-! ### subscripts, slices -/
theorem snd_sub (K : CtxOk W Wx n X) (ha : SndE W Wx X C a ia) (hb : SndE W Wx X C b ib) (hs : PlainIx b) : SndE W Wx X C (.Subscript a b pos) (.sub ia ib) := fun c S σ Q sim l e => by
  refine wE_of (pe_ix (sub_snd K.hK) pe_w pe_w hs) (ha c S σ _ sim l (End.bind e fun x c1 v _ s1 x1 r1 e1 => ?_))
  exact hb c1 S σ _ s1 (l.to x1) (End.bind e1 fun y c2 w _ s2 x2 r2 e2 => ⟨c2, x, y, Wx, S, rfl, s2, r1.to x2, r2, e2⟩)
theorem asI_snd {S : L2.St} {c : Cf} {α β : Type} {R : Cf → β → α → Prop} {Q : β → Hp → Prop} {r : AV} {f : Int → M α} {v : V} (e : End W Wx S c R Q (M.bind (asI r) f c.h)) (h : Rep W c v r) : ∃ k, v = .int k ∧ r = .int k ∧ End W Wx S c R Q (f k c.h) := by
  cases h <;> first | exact e.elim | exact ⟨_, rfl, rfl, e⟩
theorem snd_slc (K : CtxOk W Wx n X) {p : Pos} (ha : SndE W Wx X C a ia) (hb : SndE W Wx X C b ib) (hd : SndE W Wx X C d id) : SndE W Wx X C (.Subscript a (.Slice (some b) (some d) none p) pos) (.slc ia ib id) := fun c S σ Q sim l e => by
  refine wE_of (pe_slice (slc_snd K.hK) pe_w (po_some pe_w) (po_some pe_w)) (ha c S σ _ sim l (End.bind e fun x c1 v _ s1 x1 r1 e1 => ?_))
  refine hb c1 S σ _ s1 (l.to x1) (End.bind e1 fun y c2 w _ s2 x2 r2 e2 => ?_)
  obtain ⟨i, hw, _, e2⟩ := asI_snd e2 r2
  refine ⟨i, hw, hd c2 S σ _ s2 (l.to (x1.trans x2)) (End.bind e2 fun z c3 u _ s3 x3 r3 e3 => ?_)⟩
  obtain ⟨j, hu, _, e3⟩ := asI_snd e3 r3
  exact ⟨j, hu, c3, x, Wx, S, rfl, s3, r1.to (x2.trans x3), e3⟩
theorem snd_slcL (K : CtxOk W Wx n X) {p : Pos} (ha : SndE W Wx X C a ia) (hb : SndE W Wx X C b ib) : SndE W Wx X C (.Subscript a (.Slice (some b) none none p) pos) (.slcL ia ib) := fun c S σ Q sim l e => by
  refine wE_of (pe_slice (slc_snd K.hK) pe_w (po_some pe_w) po_none) (ha c S σ _ sim l (End.bind e fun x c1 v _ s1 x1 r1 e1 => ?_))
  refine hb c1 S σ _ s1 (l.to x1) (End.bind e1 fun y c2 w _ s2 x2 r2 e2 => ?_)
  obtain ⟨i, hw, _, e2⟩ := asI_snd e2 r2
  exact ⟨i, hw, c2, x, Wx, S, rfl, s2, r1.to x2, e2⟩
theorem snd_slcH (K : CtxOk W Wx n X) {p : Pos} (ha : SndE W Wx X C a ia) (hb : SndE W Wx X C b ib) : SndE W Wx X C (.Subscript a (.Slice none (some b) none p) pos) (.slcH ia ib) := fun c S σ Q sim l e => by
  refine wE_of (pe_slice (slc_snd K.hK) pe_w po_none (po_some pe_w)) (ha c S σ _ sim l (End.bind e fun x c1 v _ s1 x1 r1 e1 => ?_))
  refine hb c1 S σ _ s1 (l.to x1) (End.bind e1 fun y c2 w _ s2 x2 r2 e2 => ?_)
  obtain ⟨i, hw, _, e2⟩ := asI_snd e2 r2
  exact ⟨i, hw, c2, x, Wx, S, rfl, s2, r1.to x2, e2⟩

/-! ### built-ins -/
theorem notStar_any {p : Pos} (h : ∀ e ∈ es, ∀ x q, e ≠ .Starred x q) : (backTo p (starEach es X.env)).any (·.1) = false := by
  induction es with
  | nil => rfl
  | cons e es ih =>
    have h1 := h e List.mem_cons_self
    have h2 := ih fun e' he => h e' (List.mem_cons_of_mem _ he)
    have hs : starEach (e :: es) X.env = (false, eval e X.env) :: starEach es X.env := by
      cases e <;> first | rfl | exact absurd rfl (h1 _ _)
    rw [hs]
    unfold backTo at h2 ⊢
    rw [List.map_cons, List.any_cons, h2]
    rfl
theorem snd_blt (K : CtxOk W Wx n X) (bb : B) {p : Pos} (ha : SndA W Wx X C (a :: es) ia) (hg : Gl X (bN bb)) (hm : X.mg (bN bb) = none) (hs : ∀ e ∈ a :: es, ∀ x q, e ≠ .Starred x q) :
    SndE W Wx X C (.Call (.Name (bN bb) p) (a :: es) [] pos) (.blt bb ia) := fun c S σ Q sim l e => by
  have h1 : starEach (a :: es) X.env = (false, eval a X.env) :: starEach es X.env := by
    have h1 := hs a List.mem_cons_self
    cases a <;> first | rfl | exact absurd rfl (h1 _ _)
  have h2 : (backTo pos (starEach es X.env)).any (·.1) = false := notStar_any fun e he => hs e (List.mem_cons_of_mem _ he)
  have key : tCB (rBlt W bb) (wA X (a :: es)) S c.H Q := ha c S σ _ sim l (End.bind e fun xs c1 vs _ s1 x1 r1 e1 => ⟨c1, xs, Wx, S, rfl, s1, r1, e1⟩)
  have hB := bN_boot bb
  cases hv : bV bb with
  | builtin id => exact wE_of (pe_callB (by rw [← hv]; exact blt_snd K.calm K.hK bb) hg hm (by rw [hB, hv]) pa_w (bN_name bb) (bN_dbg bb) h1 h2) key
  | type T => exact wE_of (pe_callTy (by rw [← hv]; exact blt_snd K.calm K.hK bb) hg hm (by rw [hB, hv]) pa_w (bN_name bb) (bN_dbg bb) h1 h2) key
  | _ => cases bb <;> cases hv
theorem snd_bm (K : CtxOk W Wx n X) (m : BM) (hm : bmOk m = true) {apos : Pos} (ho : SndE W Wx X C a ia) (he : SndA W Wx X C (b :: es) ib) (hs : ∀ e ∈ b :: es, ∀ x q, e ≠ .Starred x q) (hl : es.length < 29)
    (hbase : attributeBase a (bmN m) X.env (eval a X.env) = eval a X.env) (hline : (apos.endLine == pos.line) = true) : SndE W Wx X C (.Call (.Attribute a (bmN m) apos) (b :: es) [] pos) (.bm m ia ib) := fun c S σ Q sim l e => by
  obtain ⟨F⟩ := bm_facts (W := W) (X := X) K.hK m hm
  have h1 : starEach (b :: es) X.env = (false, eval b X.env) :: starEach es X.env := by
    have h1 := hs b List.mem_cons_self
    cases b <;> first | rfl | exact absurd rfl (h1 _ _)
  have h2 : (backTo pos (starEach es X.env)).any (·.1) = false := notStar_any fun e he => hs e (List.mem_cons_of_mem _ he)
  have h3 : ((backTo pos (starEach (b :: es) X.env)).all (fun x => !x.1) && (backToKw pos (keywordEach [] X.env)).all (fun x => x.1.isSome) && decide ((b :: es).length + ([] : List Keyword).length + (if ([] : List Keyword).isEmpty then 0 else 1) < 30)) = true := by
    have z : (backTo pos (starEach (b :: es) X.env)).any (·.1) = false := notStar_any hs
    have z2 : (backTo pos (starEach (b :: es) X.env)).all (fun x => !x.1) = true := by
      rw [← List.not_any_eq_all_not, z]; rfl
    rw [z2]
    simp [backToKw, keywordEach]
    omega
  refine wE_of (pe_bm F.pa F.slot F.ty F.mt pe_w pa_w hbase h3 hline h1 h2) (ho c S σ _ sim l (End.bind e fun x c1 v _ s1 x1 r1 e1 => ?_))
  cases hg : bmTy m x with
  | false => rw [hg] at e1; exact e1.elim
  | true =>
    rw [hg] at e1
    exact ⟨F.own c1 v x r1 hg, he c1 S σ _ s1 (l.to x1) (End.bind (m := evs C σ ib) e1 fun xs c2 vs _ s2 x2 r2 e2 => ⟨c2, x, xs, Wx, S, rfl, s2, r1.to x2, r2, e2⟩)⟩
end
end NT
set_option linter.all false
set_option maxRecDepth 100000
set_option autoImplicit false
namespace NT
open PySem PySem.Spec PyProof.Rows L2
def noStar (e : Expr) : Prop := ∀ x q, e ≠ .Starred x q
theorem noStar.each {a : Expr} {es : List Expr} {env : Env} (h : noStar a) : starEach (a :: es) env = (false, eval a env) :: starEach es env := by
  cases a <;> first | rfl | exact absurd rfl (h _ _)
section
variable {W : Wd} {Wx : WX} {X : Cx} {C : Orc} {n : Nat} {a b d tg : Expr} {ia ib id : E} {pos p : Pos}
theorem rngL_get {i j : Int} {k : Nat} {x : AV} (h : (rngL i j)[k]? = some x) : x = .int (i + (k : Nat)) := by
  unfold rngL at h
  rw [List.getElem?_map] at h
  cases q : (List.range (j - i).toNat)[k]? with
  | none => rw [q] at h; cases h
  | some m =>
    rw [q] at h
    cases h
    have := List.getElem?_eq_some_iff.mp q
    obtain ⟨_, e⟩ := this
    rw [List.getElem_range] at e
    rw [e]
theorem walkA_range {c : Cf} {i j : Int} : WalkA W c (Itr i (j - i).toNat) (rngL i j) := by
  have hl : (rngL i j).length = (j - i).toNat := by unfold rngL; rw [List.length_map, List.length_range]
  refine ⟨fun _ => True, _, by rw [hl]; exact walk_range, fun _ _ => trivial, fun k c' v H' x hx s' _ y => ?_⟩
  obtain ⟨e1, e2⟩ := y
  subst e1
  refine ⟨s', Ext.refl c', ?_⟩
  rw [rngL_get hx, e2]
  exact .int _
theorem rngOk_all {i j : Int} (h : rngOk i j = true) : -(2 ^ 62) ≤ i ∧ i < 2 ^ 62 ∧ -(2 ^ 62) ≤ j ∧ j < 2 ^ 62 := by
  unfold rngOk at h
  simp only [Bool.and_eq_true, decide_eq_true_eq] at h
  exact ⟨h.1.1.1, h.1.1.2, h.1.2, h.2⟩
theorem sndI_rng1 (ha : SndE W Wx X C a ia) (hs : noStar a) (hg : Gl X "range") (hm : X.mg "range" = none) : SndI W Wx X C tg (.Call (.Name "range" p) [a] [] pos) (.rng (.cst (.int 0)) ia) := fun c S σ R sim l e => by
  refine wI_of (pi_range1 hg hm (pa_cons pe_w pa_nil hs.each) hs.each) (ha c S σ _ sim l (End.bind (m := ev C σ ia) (f := fun y => match AV.int 0, y with | .int i, .int j => ok1 (rngOk i j) (rngL i j) | _, _ => M.bad) e fun y c1 v _ s1 x1 r1 e1 => ?_))
  cases r1 <;> try exact e1.elim
  rename_i j _
  obtain ⟨g, e1⟩ := e1.ok1
  obtain ⟨_, _, h3, h4⟩ := rngOk_all g
  refine ⟨j, rfl, h3, h4, e1.here s1 ?_⟩
  have z := walkA_range (W := W) (c := c1) (i := 0) (j := j)
  rw [Int.sub_zero] at z
  exact z
theorem sndI_rng2 (ha : SndE W Wx X C a ia) (hb : SndE W Wx X C b ib) (hs : noStar a) (hs2 : noStar b) (hg : Gl X "range") (hm : X.mg "range" = none) : SndI W Wx X C tg (.Call (.Name "range" p) [a, b] [] pos) (.rng ia ib) := fun c S σ R sim l e => by
  have h2 : starEach [b] X.env = [(false, eval b X.env)] := hs2.each
  refine wI_of (pi_range2 hg hm (pa_cons pe_w (pa_cons pe_w pa_nil h2) hs.each) (by rw [hs.each, h2]) h2) (ha c S σ _ sim l (End.bind e fun x c1 v _ s1 x1 r1 e1 => ?_))
  refine hb c1 S σ _ s1 (l.to x1) (End.bind e1 fun y c2 w _ s2 x2 r2 e2 => ?_)
  cases r1 <;> try exact e2.elim
  cases r2 <;> try exact e2.elim
  obtain ⟨g, e2⟩ := End.ok1 e2
  exact ⟨_, _, rfl, rngOk_all g, e2.here s2 walkA_range⟩
theorem walkA_lst {c : Cf} {p : Addr} {vs : List V} {xs : List AV} {K : PySem.W.Frag} (hK : K = W.K) (h : FzL W.K c p vs) (r : Reps W c vs xs) : WalkA W c (Itl K p) xs := by
  subst hK
  refine ⟨_, _, by rw [← r.length]; exact walk_list (xs := vs), fun c' x => (h.ext x).sq, fun i c' v H' z hz s' x y => ?_⟩
  obtain ⟨e1, e2⟩ := y
  subst e1
  obtain ⟨w, h1, h2⟩ := r.get hz
  rw [h1] at e2; cases e2
  exact ⟨s', Ext.refl c', h2.to0 x⟩
theorem walkA_tup {c : Cf} {p : Addr} {vs : List V} {xs : List AV} {K : PySem.W.Frag} (hK : K = W.K) (h : FzT W.K c p vs) (r : Reps W c vs xs) : WalkA W c (Itt K p) xs := by
  subst hK
  refine ⟨_, _, by rw [← r.length]; exact walk_tup (xs := vs), fun c' x => (h.ext x).sq, fun i c' v H' z hz s' x y => ?_⟩
  obtain ⟨e1, e2⟩ := y
  subst e1
  obtain ⟨w, h1, h2⟩ := r.get hz
  rw [h1] at e2; cases e2
  exact ⟨s', Ext.refl c', h2.to0 x⟩
theorem walkA_str {c : Cf} {z : Str} : WalkA W c (Its z) (z.cps.toList.map chr1) := by
  refine ⟨_, _, by rw [List.length_map, Array.length_toList]; exact walk_str, fun _ _ => trivial, fun i c' v H' x hx s' _ y => ?_⟩
  obtain ⟨e1, k, h1, h2⟩ := y
  subst e1
  refine ⟨s', Ext.refl c', ?_⟩
  rw [List.getElem?_map, Array.getElem?_toList, h1] at hx
  cases hx
  subst h2
  exact .str _
theorem sndI_itv (K : CtxOk W Wx n X) (ha : SndE W Wx X C a ia) : SndI W Wx X C tg a (.itv ia) := fun c S σ R sim l e => by
  cases hx : ev C σ ia c.h with
  | bad =>
    have e : End W Wx S c (WalkA W) R (M.bind (ev C σ ia) (fun x => M.of (items x)) c.h) := e
    unfold M.bind at e
    rw [hx] at e
    exact e.elim
  | exc q ks xs h1 =>
    refine wI_of (pi_list pe_w) (ha c S σ _ sim l (End.bind e fun y c1 v hy => ?_))
    rw [hx] at hy; cases hy
  | ok x h1 =>
    cases x with
    | lst xs =>
      refine wI_of (pi_list pe_w) (ha c S σ _ sim l (End.bind e fun y c1 v hy s1 x1 r1 e1 => ?_))
      rw [hx] at hy; cases hy
      cases r1 with
      | lst hf rs => exact ⟨_, rfl, ⟨_, by rw [K.hK]; exact hf.sq⟩, e1.here s1 (walkA_lst K.hK hf rs)⟩
    | tup xs =>
      refine wI_of (pi_tup pe_w) (ha c S σ _ sim l (End.bind e fun y c1 v hy s1 x1 r1 e1 => ?_))
      rw [hx] at hy; cases hy
      cases r1 with
      | tup hf rs => exact ⟨_, rfl, ⟨_, by rw [K.hK]; exact hf.sq⟩, e1.here s1 (walkA_tup K.hK hf rs)⟩
    | str z =>
      refine wI_of (pi_str pe_w) (ha c S σ _ sim l (End.bind e fun y c1 v hy s1 x1 r1 e1 => ?_))
      rw [hx] at hy; cases hy
      cases r1
      exact ⟨z, rfl, e1.here s1 walkA_str⟩
    | _ =>
      have e : End W Wx S c (WalkA W) R (M.bind (ev C σ ia) (fun x => M.of (items x)) c.h) := e
      unfold M.bind at e
      rw [hx] at e
      exact e.elim
theorem zipW_get {xs ys : List AV} {i : Nat} {a : AV} (h : (List.zipWith (fun x y => AV.tup [x, y]) xs ys)[i]? = some a) : ∃ x y, xs[i]? = some x ∧ ys[i]? = some y ∧ a = .tup [x, y] := by
  rw [List.getElem?_zipWith] at h
  cases h1 : xs[i]? with
  | none => rw [h1] at h; cases h
  | some x =>
    cases h2 : ys[i]? with
    | none => rw [h1, h2] at h; cases h
    | some y => rw [h1, h2] at h; cases h; exact ⟨x, y, rfl, rfl, rfl⟩
theorem pair_new {c c' : Cf} {xs ys : List AV} {vs ws : List V} {i : Nat} {z : AV} {v : V} {H' : Hp} (hz : (List.zipWith (fun x y => AV.tup [x, y]) xs ys)[i]? = some z) (r : Reps W c vs xs) (q : Reps W c ws ys) (s' : Sim W c') (x : Ex0 c c')
    (y : YPair (fun i => vs[i]?) (fun i => ws[i]?) i c'.H v H') : Sim W { c' with H := H' } ∧ Ext c' { c' with H := H' } ∧ Rep W { c' with H := H' } v z := by
  obtain ⟨T, u, w, rfl, hT, rfl, h1, h2⟩ := y
  obtain ⟨a1, a2, e1, e2, rfl⟩ := zipW_get hz
  obtain ⟨u', g1, g2⟩ := r.get e1
  obtain ⟨w', g3, g4⟩ := q.get e2
  have h1 : vs[i]? = some u := h1
  have h2 : ws[i]? = some w := h2
  rw [h1] at g1; cases g1
  rw [h2] at g3; cases g3
  exact ⟨s'.new hT, Ext.new s' hT, Rep.newTup s' hT (.cons (g2.to0 x) (.cons (g4.to0 x) .nil))⟩
theorem walkA_zipL {c : Cf} {p q : Addr} {vs ws : List V} {xs ys : List AV} {K : PySem.W.Frag} (hK : K = W.K) (h : FzL W.K c p vs) (h' : FzL W.K c q ws) (r : Reps W c vs xs) (r' : Reps W c ws ys) : WalkA W c (Itz K p q) (List.zipWith (fun x y => AV.tup [x, y]) xs ys) := by
  subst hK
  refine ⟨_, _, walk_zip (xs := vs) (ys := ws) (by rw [List.length_zipWith, r.length, r'.length]), fun c' x => ⟨(h.ext x).sq, (h'.ext x).sq⟩, fun i c' v H' z hz s' x y => ?_⟩
  exact pair_new hz r r' s' x y
theorem walk_zipT {K : PySem.W.Frag} {a b : Addr} {xs ys : List V} {n : Nat} (hn : n = min xs.length ys.length) : Walk (RZ.ItzT K a b) n (fun H => SqT K H a xs ∧ SqT K H b ys) (YPair (fun i => xs[i]?) (fun i => ys[i]?)) := by
  subst hn
  refine ⟨fun i _ hi q => ?_, fun _ q => ⟨xs, ys, q.1, q.2, by omega⟩, fun i H v H' _ q y => ?_⟩
  · have h1 : i < xs.length := by omega
    have h2 : i < ys.length := by omega
    exact ⟨xs, ys, xs[i], ys[i], q.1, q.2, by simp [h1], by simp [h2]⟩
  · obtain ⟨T, x, z, h1, h2, h3, h4, h5⟩ := y
    exact ⟨T, x, z, h1, h2, h3, h4 xs q.1, h5 ys q.2⟩
theorem walkA_zipT {c : Cf} {p q : Addr} {vs ws : List V} {xs ys : List AV} {K : PySem.W.Frag} (hK : K = W.K) (h : FzT W.K c p vs) (h' : FzT W.K c q ws) (r : Reps W c vs xs) (r' : Reps W c ws ys) : WalkA W c (RZ.ItzT K p q) (List.zipWith (fun x y => AV.tup [x, y]) xs ys) := by
  subst hK
  refine ⟨_, _, walk_zipT (xs := vs) (ys := ws) (by rw [List.length_zipWith, r.length, r'.length]), fun c' x => ⟨(h.ext x).sq, (h'.ext x).sq⟩, fun i c' v H' z hz s' x y => ?_⟩
  exact pair_new hz r r' s' x y
theorem sndI_zip (K : CtxOk W Wx n X) {elts : List Expr} {kk : Nat} {tpos : Pos} (ha : SndE W Wx X C a ia) (hb : SndE W Wx X C b ib) (hs : noStar a) (hs2 : noStar b) (hg : Gl X "zip") (hm : X.mg "zip" = none) :
    SndI W Wx X C (.Tuple elts kk tpos) (.Call (.Name "zip" p) [a, b] [] pos) (.zip ia ib) := fun c S σ R sim l e => by
  have h2 : starEach [b] X.env = [(false, eval b X.env)] := hs2.each
  refine wI_of (RZ.pi_zipA hg hm (pa_cons pe_w (pa_cons pe_w pa_nil h2) hs.each) hs.each (by rw [h2]; rfl)) (ha c S σ _ sim l (End.bind e fun x c1 v _ s1 x1 r1 e1 => ?_))
  refine hb c1 S σ _ s1 (l.to x1) (End.bind e1 fun y c2 w _ s2 x2 r2 e2 => ?_)
  have r1 := r1.to x2
  obtain ⟨zs, hz, e2⟩ := e2.of
  cases r1 with
  | tup h1 q1 =>
    cases r2 with
    | tup h2 q2 =>
      cases hz
      exact ⟨_, _, _, _, rfl, .inr ⟨by rw [K.hK]; exact h1.sq, by rw [K.hK]; exact h2.sq, e2.here s2 (walkA_zipT K.hK h1 h2 q1 q2)⟩⟩
    | _ => simp [zipV] at hz
  | lst h1 q1 =>
    cases r2 with
    | lst h2 q2 =>
      cases hz
      exact ⟨_, _, _, _, rfl, .inl ⟨by rw [K.hK]; exact h1.sq, by rw [K.hK]; exact h2.sq, e2.here s2 (walkA_zipL K.hK h1 h2 q1 q2)⟩⟩
    | _ => simp [zipV] at hz
  | _ => simp [zipV] at hz
end
end NT
set_option linter.all false
set_option maxRecDepth 100000
set_option autoImplicit false
namespace NT
open PySem PySem.Spec PyProof.Rows L2
/-! ### slots -/
def setSlots : List Nat → List V → L2.St → L2.St
  | i :: is, v :: vs, S => setSlots is vs (S.set i (some v))
  | _, _, S => S
theorem wipe_set_set (i : Nat) (x y : Option V) (S : L2.St) : ∀ vs : List Nat, (L2.wipe (S.set i x) vs).set i y = (L2.wipe S vs).set i y
  | [] => by unfold L2.wipe; rw [List.set_set]
  | v :: vs => by
    unfold L2.wipe
    by_cases h : v = i
    · subst h; rw [List.set_set, List.set_set]; exact wipe_set_set v x y S vs
    · rw [List.set_comm _ _ h, wipe_set_set i x y S vs, List.set_comm _ _ (Ne.symm h)]
theorem wipe_set {i : Nat} {x : Option V} {S : L2.St} : ∀ {vs : List Nat}, i ∈ vs → L2.wipe (S.set i x) vs = L2.wipe S vs
  | v :: vs, h => by
    unfold L2.wipe
    by_cases e : i = v
    · subst e; exact wipe_set_set i x none S vs
    · rw [wipe_set (by rcases List.mem_cons.mp h with z | z; exact absurd z e; exact z)]
theorem wipe_wipe (S : L2.St) (vs : List Nat) : ∀ us : List Nat, (∀ i ∈ us, i ∈ vs) → L2.wipe (L2.wipe S us) vs = L2.wipe S vs
  | [], _ => rfl
  | u :: us, h => by
    have e : L2.wipe S (u :: us) = (L2.wipe S us).set u none := rfl
    rw [e, wipe_set (h u List.mem_cons_self)]
    exact wipe_wipe S vs us fun i hi => h i (List.mem_cons_of_mem _ hi)
theorem wipe_setSlots {vs0 : List Nat} : ∀ (is : List Nat) (ws : List V) (S : L2.St), (∀ i ∈ is, i ∈ vs0) → L2.wipe (setSlots is ws S) vs0 = L2.wipe S vs0
  | [], _, _, _ => rfl
  | i :: is, [], _, _ => rfl
  | i :: is, w :: ws, S, h => by
    unfold setSlots
    rw [wipe_setSlots is ws _ fun j hj => h j (List.mem_cons_of_mem _ hj), wipe_set (h i List.mem_cons_self)]
theorem LocR.setAll {W : Wd} {c : Cf} : ∀ {is : List Nat} {vs : List V} {xs : List AV} {S : L2.St} {σ σ' : Loc}, LocR W c S σ → Reps W c vs xs → NT.setAll is xs σ = some σ' → LocR W c (setSlots is vs S) σ'
  | [], _, _, _, _, _, l, .nil, e => by cases e; exact l
  | [], _, _, _, _, _, l, .cons _ _, e => by simp [NT.setAll] at e
  | i :: is, _, _, _, _, _, l, .nil, e => by simp [NT.setAll] at e
  | i :: is, _, _, _, _, _, l, .cons r t, e => by
    unfold NT.setAll at e
    unfold setSlots
    exact LocR.setAll (l.set r i) t e
theorem setAll_len : ∀ {is : List Nat} {xs : List AV} {σ σ' : Loc}, NT.setAll is xs σ = some σ' → xs.length = is.length
  | [], [], _, _, _ => rfl
  | [], _ :: _, _, _, e => by simp [NT.setAll] at e
  | _ :: _, [], _, _, e => by simp [NT.setAll] at e
  | i :: is, x :: xs, _, _, e => by
    unfold NT.setAll at e
    simp [setAll_len e]
/-! ### targets -/
def gsOf : List Nat → TGs
  | [] => gNil
  | i :: is => gCons (gName i) (gsOf is)
theorem gs_run : ∀ {is : List Nat} {vs : List V} {S : L2.St} {H : Hp} {Q : L2.St → Hp → Prop}, vs.length = is.length → Q (setSlots is vs S) H → gsOf is vs S H Q
  | [], [], _, _, _, _, q => ⟨rfl, q⟩
  | _ :: _, [], _, _, _, e, _ => by cases e
  | [], _ :: _, _, _, _, e, _ => by cases e
  | i :: is, v :: vs, _, _, _, e, q => ⟨v, vs, rfl, gs_run (by simpa using e) q⟩
/-- plain names at their places -/
inductive NamesAt (X : Cx) : List Expr → List Nat → Prop
  | nil : NamesAt X [] []
  | cons {x : Str} {p : Pos} {i : Nat} {es : List Expr} {is : List Nat} : X.N[i]? = some x → L2.Loc X.env.scope x → (X.fn x = true ∨ X.env.scope.names.lookup x = some .local) → NamesAt X es is → NamesAt X (.Name x p :: es) (i :: is)
theorem NamesAt.pgs {X : Cx} (nd : X.N.Nodup) : ∀ {es : List Expr} {is : List Nat}, NamesAt X es is → PGs X es (gsOf is)
  | _, _, .nil => pgs_nil
  | _, _, .cons h1 h2 h3 t => pgs_cons (pg_name nd h1 h2 h3) (NamesAt.pgs nd t)
theorem NamesAt.len {X : Cx} : ∀ {es : List Expr} {is : List Nat}, NamesAt X es is → (assignEach es X.env).length = is.length
  | _, _, .nil => rfl
  | _, _, .cons _ _ _ t => by
    show (_ :: assignEach _ X.env).length = _
    rw [List.length_cons, NamesAt.len t]; rfl
theorem NamesAt.idx {X : Cx} : ∀ {es : List Expr} {is : List Nat}, NamesAt X es is → (assignEach es X.env).findIdx? (·.1) = none
  | _, _, .nil => rfl
  | _, _, .cons (x := x) (p := p) _ _ _ t => by
    show List.findIdx? (·.1) ((false, assign (.Name x p) X.env) :: assignEach _ X.env) = none
    rw [List.findIdx?_cons, NamesAt.idx t]; rfl
/-- a target: one name, or a tuple of several -/
inductive Tgt (X : Cx) : Expr → List Nat → Prop
  | name {x : Str} {p : Pos} {i : Nat} : X.N[i]? = some x → L2.Loc X.env.scope x → (X.fn x = true ∨ X.env.scope.names.lookup x = some .local) → Tgt X (.Name x p) [i]
  | tup {es : List Expr} {k : Nat} {p : Pos} {is : List Nat} : NamesAt X es is → is.length ≠ 1 → Tgt X (.Tuple es k p) is
def gOf (K : PySem.W.Frag) : List Nat → TG
  | [i] => gName i
  | is => gTup K is.length (gsOf is)
theorem Tgt.pg {X : Cx} (nd : X.N.Nodup) (hc : X.calm = true) {tg : Expr} {is : List Nat} (h : Tgt X tg is) : PG X tg (gOf X.K is) := by
  cases h with
  | name h1 h2 h3 => exact pg_name nd h1 h2 h3
  | tup h1 h2 =>
    have e : gOf X.K is = gTup X.K is.length (gsOf is) := by
      match is, h2 with
      | [], _ => rfl
      | [i], h2 => exact absurd rfl h2
      | _ :: _ :: _, _ => rfl
    rw [e]
    exact pg_tup hc (h1.pgs nd) h1.len h1.idx
theorem bindT_ok {is : List Nat} {x : AV} {σ σ' : Loc} {h h' : AHeap} (e : bindT is x σ h = .ok σ' h') : h' = h := by
  unfold bindT at e
  split at e
  · cases e; rfl
  · split at e
    · cases q : NT.setAll is _ σ with
      | none => rw [q] at e; cases e
      | some s => rw [q] at e; cases e; rfl
    · cases e
theorem gOf_run {W : Wd} {K : PySem.W.Frag} (hK : K = W.K) {c : Cf} {is : List Nat} {S : L2.St} {σ σ' : Loc} {v : V} {a : AV} {h : AHeap} {Q : L2.St → Hp → Prop} (l : LocR W c S σ) (r : Rep W c v a) (e : bindT is a σ h = .ok σ' h)
    (q : ∀ S', LocR W c S' σ' → (∀ vs0 : List Nat, (∀ i ∈ is, i ∈ vs0) → L2.wipe S' vs0 = L2.wipe S vs0) → Q S' c.H) : gOf K is v S c.H Q := by
  subst hK
  have tupc : ∀ xs, a = .tup xs → NT.setAll is xs σ = some σ' → gTup W.K is.length (gsOf is) v S c.H Q := fun xs ea hs => by
    subst ea
    cases r with
    | tup h1 r1 => exact ⟨_, _, rfl, h1.sq, by rw [r1.length]; exact setAll_len hs, gs_run (by rw [r1.length]; exact setAll_len hs) (q _ (LocR.setAll l r1 hs) fun vs0 hv => wipe_setSlots is _ S hv)⟩
  have gen : (∀ i, is ≠ [i]) → gTup W.K is.length (gsOf is) v S c.H Q := fun hne => by
    unfold bindT at e
    split at e
    · rename_i i
      exact absurd rfl (hne i)
    · split at e
      · rename_i xs
        cases z : NT.setAll is xs σ with
        | none => rw [z] at e; cases e
        | some s => rw [z] at e; cases e; exact tupc xs rfl z
      · cases e
  match is, e, gen, q with
  | [i], e, _, q => cases e; exact q _ (l.set r i) fun vs0 hv => wipe_set (hv i (by simp))
  | [], _, gen, _ => exact gen (fun i z => by cases z)
  | i :: j :: r', _, gen, _ => exact gen (fun i z => by cases z)

/-! ### list comprehensions -/
theorem lcL_cons {F : AV → M (Option AV)} {a : AV} {xs : List AV} {β : Type} {k : List AV → M β} (h : AHeap) : M.bind (lcL F (a :: xs)) k h = M.bind (F a) (fun o => M.bind (lcL F xs) fun r => k (consO o r)) h := by
  unfold M.bind
  simp only [lcL, M.bind]
  cases F a h with
  | ok o h1 =>
    simp only
    cases lcL F xs h1 <;> rfl
  | exc _ _ _ _ => rfl
  | bad => rfl
theorem noexc_ok {α : Type} {m : M α} {h h' : AHeap} {a : α} (e : noexc m h = .ok a h') : m h = .ok a h' := by
  unfold noexc at e
  cases q : m h with
  | ok b h1 => rw [q] at e; exact e
  | exc _ _ _ _ => rw [q] at e; cases e
  | bad => rw [q] at e; cases e
theorem noexc_not {α : Type} {m : M α} {h h' : AHeap} {k : Nat} {ks : List Nat} {vs : List AV} : noexc m h ≠ .exc k ks vs h' := by
  unfold noexc
  cases m h <;> simp
theorem lcL_not {F : AV → M (Option AV)} (hF : ∀ a h k ks vs h', F a h ≠ .exc k ks vs h') : ∀ (xs : List AV) (h : AHeap) (k : Nat) (ks : List Nat) (vs : List AV) (h' : AHeap), lcL F xs h ≠ .exc k ks vs h'
  | [], h, _, _, _, _ => by simp [lcL, M.pure]
  | a :: xs, h, k, ks, vs, h' => by
    simp only [lcL, M.bind]
    cases q : F a h with
    | ok o h1 =>
      simp only
      cases q2 : lcL F xs h1 with
      | ok r h2 => simp [M.pure]
      | exc _ _ _ _ => exact absurd q2 (lcL_not hF xs _ _ _ _ _)
      | bad => simp
    | exc _ _ _ _ => exact absurd q (hF _ _ _ _ _ _)
    | bad => simp
theorem bind_ok {α β : Type} {m : M α} {f : α → M β} {h h' : AHeap} {b : β} (e : M.bind m f h = .ok b h') : ∃ a h1, m h = .ok a h1 ∧ f a h1 = .ok b h' := by
  unfold M.bind at e
  cases q : m h with
  | ok a h1 => rw [q] at e; exact ⟨a, h1, rfl, e⟩
  | exc _ _ _ _ => rw [q] at e; cases e
  | bad => rw [q] at e; cases e
/-- a list that a comprehension fills is written -/
theorem Ex0.fill {W : Wd} {c : Cf} {D : Addr} {o : HO} (hD : D ∈ c.x) : Ex0 c { c with H := upd c.H D o } where
  pre := fun _ _ h => h
  keep := fun p u h n => by
    show upd c.H D o p = some u
    rw [upd_ne (fun z => n (.inl (by rw [z]; exact hD)))]; exact h
  nl := fun _ _ h => h
theorem Sim.fill {W : Wd} {c : Cf} (s : Sim W c) {D : Addr} {o : HO} (hD : D ∈ c.x) : Sim W { c with H := upd c.H D o } where
  len := s.len
  inj := s.inj
  obj := fun m u q h1 h2 => by
    by_cases hd : u = .dead
    · subst hd; trivial
    · refine (s.obj m u q h1 h2).ext (Ex0.fill (W := W) hD) (upd_ne fun z => (s.bz D hD).2 ?_)
      rw [← z]
      exact ⟨m, u, h2, h1, hd⟩
  bz := fun p hp => ⟨by
    show upd c.H D o p ≠ none
    by_cases z : p = D
    · rw [z, upd_same]; simp
    · rw [upd_ne z]; exact (s.bz p hp).1, (s.bz p hp).2⟩
theorem Ex0.enter {c : Cf} {D : Addr} {o : HO} (hD : c.H D = none) : Ex0 c ⟨c.ρ, c.h, upd c.H D o, D :: c.x⟩ where
  pre := fun _ _ h => h
  keep := fun p u h _ => by
    show upd c.H D o p = some u
    rw [upd_ne (ne_of_none h hD)]; exact h
  nl := fun p hp n l => by
    rcases l with l | l
    · rcases List.mem_cons.mp l with z | z
      · rw [z] at hp; exact hp hD
      · exact n (.inl z)
    · exact n (.inr l)
theorem Sim.enter {W : Wd} {c : Cf} (s : Sim W c) {D : Addr} {o : HO} (hD : c.H D = none) : Sim W ⟨c.ρ, c.h, upd c.H D o, D :: c.x⟩ where
  len := s.len
  inj := s.inj
  obj := fun m u q h1 h2 => by
    by_cases hd : u = .dead
    · subst hd; trivial
    · exact (s.obj m u q h1 h2).ext (Ex0.enter hD) (upd_ne fun z => s.htracked (p := q) ⟨m, u, h2, h1, hd⟩ (by rw [z]; exact hD))
  bz := fun p hp => by
    rcases List.mem_cons.mp hp with z | z
    · refine ⟨?_, fun l => s.htracked (p := D) (by rw [← z]; exact l) hD⟩
      show upd c.H D o p ≠ none
      rw [z, upd_same]; simp
    · refine ⟨?_, (s.bz p z).2⟩
      show upd c.H D o p ≠ none
      rw [upd_ne fun q => (s.bz p z).1 (by rw [q]; exact hD)]; exact (s.bz p z).1
theorem Ex0.exit {c : Cf} {D : Addr} {x : List Addr} (hx : c.x = D :: x) : Ex0 c { c with x := x } where
  pre := fun _ _ h => h
  keep := fun _ _ h _ => h
  nl := fun p _ n l => by
    rcases l with l | l
    · exact n (.inl (by rw [hx]; exact List.mem_cons_of_mem _ l))
    · exact n (.inr l)
theorem Sim.exit {W : Wd} {c : Cf} (s : Sim W c) {D : Addr} {x : List Addr} (hx : c.x = D :: x) : Sim W { c with x := x } where
  len := s.len
  inj := s.inj
  obj := fun m u q h1 h2 => (s.obj m u q h1 h2).ext (Ex0.exit hx) rfl
  bz := fun p hp => s.bz p (by rw [hx]; exact List.mem_cons_of_mem _ hp)
abbrev WF : WX := fun _ _ _ _ => False
theorem snd_lc {W : Wd} {Wx : WX} {X : Cx} {C : Orc} {n : Nat} {elt tg iter : Expr} {ifs : List Expr} {scope : Scope} {own : List (Str × Nat)} {is : List Nat} {pos : Pos} {iit icond ielt : E} {tt : TT} {te : TE}
    (K : CtxOk W Wx n X) (ok : BlkOk X.N X.env.scope scope own) (hsub : ∀ i ∈ is, i ∈ own.map (·.2)) (hit : SndI W Wx X C tg iter iit)
    (hg : ∀ (s : Shared) (H : Hp) (Cc : Addr) (cl : List (Str × Addr)) (fp : List Addr), PG (X.blk s H scope (compEnvC scope cl Cc X.env) fp) tg (gOf X.K is))
    (ht : ∀ (s : Shared) (H : Hp) (Cc : Addr) (cl : List (Str × Addr)) (fp : List Addr), PTs (X.blk s H scope (compEnvC scope cl Cc X.env) fp) ifs tt)
    (htt : ∀ (c : Cf) (S : L2.St) (σ : Loc) (Q : Bool → Hp → Prop), Sim W c → LocR W c S σ → End W WF S c (fun _ (b k : Bool) => b = k) Q (evT C σ icond c.h) → tt S c.H Q)
    (he : ∀ (s : Shared) (H : Hp) (Cc : Addr) (cl : List (Str × Addr)) (fp : List Addr), PE (X.blk s H scope (compEnvC scope cl Cc X.env) fp) elt te)
    (hte : ∀ (c : Cf) (S : L2.St) (σ : Loc) (Q : VK), Sim W c → LocR W c S σ → End W WF S c (Rep W) Q (ev C σ ielt c.h) → te S c.H Q)
    (hs : ∀ x, foldedSetIterable iter X.env x = pure x) : ∀ (c : Cf) (S : L2.St) (σ : Loc) (Q : VK), Sim W c → LocR W c S σ → End W Wx S c (Rep W) Q (ev C σ (.lc is (own.map (·.2)) iit icond ielt) c.h) → tLc (wI X tg iter) (gOf X.K is) tt te (own.map (·.2)) S c.H Q := fun c S σ Q sim l e => by
  obtain ⟨vs, hvs⟩ : ∃ vs, own.map (·.2) = vs := ⟨_, rfl⟩
  rw [hvs] at e hsub ⊢
  obtain ⟨F, hF⟩ : ∃ F : AV → M (Option AV), F = (fun x => noexc (M.bind (bindT is x (wipeL σ vs)) fun σ2 => M.bind (evT C σ2 icond) fun k => if k = true then M.bind (ev C σ2 ielt) fun y => M.pure (some y) else M.pure none)) := ⟨_, rfl⟩
  have e : End W Wx S c (Rep W) Q (M.bind (evI C σ iit) (fun xs => M.bind (lcL F xs) fun ys => ok1 (decide (ys.length ≤ line)) (AV.lst ys)) c.h) := by rw [hF]; exact e
  have hFn : ∀ a h k ks vs h', F a h ≠ .exc k ks vs h' := fun a h k ks vs h' => by rw [hF]; exact noexc_not
  refine hit c S σ _ sim l (End.bind e fun xs c1 J hx s1 x1 wk e1 => ?_)
  intro D hD
  obtain ⟨G, Y, w, hG, hY⟩ := wk
  have l1 : LocR W c1 (L2.wipe S vs) (wipeL σ vs) := (l.to x1).wipe vs
  refine lc_it w (fun i H => ∃ (c' : Cf) (acc : List V) (ys : List AV), c'.H = H ∧ c'.x = D :: c1.x ∧ Sim W c' ∧ Ex0 c1 c' ∧ (∀ p ∈ c1.x, c'.H p = c1.H p) ∧ c'.H D = some (.lst acc) ∧ Reps W c' acc ys ∧
    End W Wx S c1 (Rep W) Q (M.bind (lcL F (xs.drop i)) (fun r => ok1 (decide ((ys ++ r).length ≤ line)) (AV.lst (ys ++ r))) c'.h)) ?_ ?_ ?_ ?_
  · refine ⟨⟨c1.ρ, c1.h, upd c1.H D (.lst []), D :: c1.x⟩, [], [], rfl, rfl, s1.enter hD, Ex0.enter hD, fun p hp => ?_, upd_same, .nil, e1⟩
    exact upd_ne fun z => (s1.bz p hp).1 (by rw [z]; exact hD)
  · rintro i H hi ⟨c', acc, ys, rfl, _, _, x0, _⟩
    exact hG c' x0
  · rintro i x H H' hi ⟨c', acc, ys, rfl, hx', s', x0, bz, hDa, ra, en⟩ hy
    have hDm : D ∈ c'.x := by rw [hx']; exact List.mem_cons_self
    have hxi : xs[i]? = some xs[i] := by simp [hi]
    obtain ⟨s2, x2, r2⟩ := hY i c' x H' xs[i] hxi s' x0 hy
    have hdrop : xs.drop i = xs[i] :: xs.drop (i + 1) := by rw [List.drop_eq_getElem_cons hi]
    rw [hdrop, lcL_cons] at en
    generalize xs[i] = a at r2 en
    -- the turn's own end
    cases q : F a c'.h with
    | exc k ks us h' => exact absurd q (hFn _ _ _ _ _ _)
    | bad => unfold M.bind at en; rw [q] at en; exact en.elim
    | ok o h3 =>
      unfold M.bind at en
      rw [q] at en
      have en : End W Wx S c1 (Rep W) Q (M.bind (lcL F (xs.drop (i + 1))) (fun r => ok1 (decide ((ys ++ consO o r).length ≤ line)) (AV.lst (ys ++ consO o r))) h3) := en
      rw [hF] at q
      obtain ⟨σ2, h4, b1, q⟩ := bind_ok (noexc_ok q)
      have hh := bindT_ok b1
      subst hh
      obtain ⟨k, h5, b2, q⟩ := bind_ok q
      refine gOf_run K.hK (c := { c' with H := H' }) (l1.to0 (x0.trans x2.toEx0)) r2 b1 fun S2 l2 hw => ?_
      refine ⟨by rw [hw vs hsub]; exact wipe_wipe S vs vs fun _ h => h, ?_⟩
      refine htt { c' with H := H' } S2 σ2 _ s2 l2 ?_
      show End W WF S2 _ _ _ (evT C σ2 icond c'.h)
      rw [b2]
      intro ρ3 H3 b s3 x3 rb
      subst rb
      -- what follows from the state s' to any later one
      have later : ∀ {c4 : Cf}, Sim W c4 → Ext { c' with H := H' } c4 → c4.x = D :: c1.x ∧ Ex0 c1 c4 ∧ (∀ p ∈ c1.x, c4.H p = c1.H p) ∧ c4.H D = some (.lst acc) ∧ Reps W c4 acc ys := fun {c4} s4 x4 => by
        refine ⟨x4.bx.trans hx', x0.trans (x2.toEx0.trans x4.toEx0), fun p hp => ?_, ?_, ra.to (x2.trans x4)⟩
        · have hp' : p ∈ c'.x := by rw [hx']; exact List.mem_cons_of_mem _ hp
          rw [x4.busy p hp', x2.busy p hp']; exact bz p hp
        · rw [x4.busy D hDm, x2.busy D hDm]; exact hDa
      cases b with
      | false =>
        rw [if_neg (by decide)] at q ⊢
        cases q
        obtain ⟨h1, h2, h3', h4', h5'⟩ := later s3 x3
        exact ⟨_, acc, ys, rfl, h1, s3, h2, h3', h4', h5', en⟩
      | true =>
        rw [if_pos rfl] at q ⊢
        obtain ⟨y, h6, b3, q⟩ := bind_ok q
        cases q
        refine hte _ S2 σ2 _ s3 (l2.to x3) ?_
        show End W WF S2 _ _ _ (ev C σ2 ielt h5)
        rw [b3]
        intro ρ4 H4 v s4 x4 rv
        obtain ⟨g1, g2, g3, g4, g5⟩ := later s4 (x3.trans x4)
        have hlen : ys.length + 1 ≤ line := by
          cases z : lcL F (xs.drop (i + 1)) h3 with
          | exc _ _ _ _ => exact absurd z (lcL_not hFn _ _ _ _ _ _)
          | bad => unfold M.bind at en; rw [z] at en; exact en.elim
          | ok r h7 =>
            unfold M.bind at en
            rw [z] at en
            have en2 : End W Wx S c1 (Rep W) Q (ok1 (decide ((ys ++ y :: r).length ≤ line)) (AV.lst (ys ++ y :: r)) h7) := en
            unfold ok1 at en2
            split at en2
            · rename_i g
              have g := of_decide_eq_true g
              rw [List.length_append, List.length_cons] at g
              omega
            · exact en2.elim
        have hDx : D ∈ ({ c' with H := H' } : Cf).x := hDm
        refine ⟨acc, g4, by rw [g5.length, line_eq]; omega, ⟨ρ4, h3, upd H4 D (.lst (acc ++ [v])), c'.x⟩, acc ++ [v], ys ++ [y], rfl, g1, Sim.fill s4 hDx, g2.trans (Ex0.fill (W := W) hDx), fun p hp => ?_, upd_same, ?_, ?_⟩
        · show upd H4 D _ p = _
          rw [upd_ne fun z => (s1.bz p hp).1 (by rw [z]; exact hD)]; exact g3 p hp
        · exact (g5.append (.cons rv .nil)).to0 (Ex0.fill (W := W) hDx)
        · simp only [List.append_assoc, List.singleton_append]
          exact en
  · rintro H ⟨c', acc, ys, rfl, hx', s', x0, bz, hDa, ra, en⟩
    rw [List.drop_length] at en
    have en : End W Wx S c1 (Rep W) Q (ok1 (decide ((ys ++ []).length ≤ line)) (AV.lst (ys ++ [])) c'.h) := en
    rw [List.append_nil] at en
    unfold ok1 at en
    split at en
    · have x5 : Ex0 c' { c' with x := c1.x } := Ex0.exit hx'
      refine en c'.ρ c'.H (.ref D) (s'.exit hx') ⟨x0.trans x5, rfl, bz⟩ (.lst (.inl ⟨fun lv => ?_, .inl hDa⟩) (ra.to0 x5))
      rcases lv with z | z
      · exact (s1.bz D z).1 hD
      · exact (s'.bz D (by rw [hx']; exact List.mem_cons_self)).2 z
    · exact en.elim
end NT
set_option linter.all false
set_option maxRecDepth 100000
set_option autoImplicit false
namespace NT
open PySem PySem.Spec PyProof.Rows L2
def EndF (W : Wd) (Wx : WX) (c : Cf) (D : Ends) : Out NT.Flow → Prop
  | .ok (.nx σ') h' => ∀ (ρ' : List Addr) (H' : Hp) (S' : L2.St), Sim W ⟨ρ', h', H', c.x⟩ → Ext c ⟨ρ', h', H', c.x⟩ → LocR W ⟨ρ', h', H', c.x⟩ S' σ' → D.nx S' H'
  | .ok (.rt a) h' => ∀ (ρ' : List Addr) (H' : Hp) (v : V), Sim W ⟨ρ', h', H', c.x⟩ → Ext c ⟨ρ', h', H', c.x⟩ → Rep W ⟨ρ', h', H', c.x⟩ v a → D.rt v H'
  | .ok (.bk σ') h' => ∀ (ρ' : List Addr) (H' : Hp) (S' : L2.St), Sim W ⟨ρ', h', H', c.x⟩ → Ext c ⟨ρ', h', H', c.x⟩ → LocR W ⟨ρ', h', H', c.x⟩ S' σ' → D.bk S' H'
  | .ok (.ct σ') h' => ∀ (ρ' : List Addr) (H' : Hp) (S' : L2.St), Sim W ⟨ρ', h', H', c.x⟩ → Ext c ⟨ρ', h', H', c.x⟩ → LocR W ⟨ρ', h', H', c.x⟩ S' σ' → D.ct S' H'
  | .exc k ks xs h' => ∀ (ρ' : List Addr) (H' : Hp) (d : Addr) (fs : List (Str × V)) (S' : L2.St), Sim W ⟨ρ', h', H', c.x⟩ → Ext c ⟨ρ', h', H', c.x⟩ → ¬ Live ⟨ρ', h', H', c.x⟩ d → H' d = some (.xd fs) →
      fs.map (·.1) = ks.map W.nm → Reps W ⟨ρ', h', H', c.x⟩ (fs.map (·.2)) xs → Wx (.ref (W.clsA k)) (some d) S' H'
  | .bad => False
section
variable {W : Wd} {Wx : WX} {c c1 : Cf} {D D' : Ends}
theorem EndF.after {o : Out NT.Flow} (x : Ext c c1) (h : EndF W Wx c D o) : EndF W Wx c1 D o := by
  obtain ⟨ρ1, h1, H1, y1⟩ := c1
  have e : y1 = c.x := x.bx
  subst e
  cases o with
  | ok f h' =>
    cases f with
    | nx σ => exact fun ρ' H' S' s x' l => h ρ' H' S' s (x.trans x') l
    | rt v => exact fun ρ' H' S' s x' l => h ρ' H' S' s (x.trans x') l
    | bk σ => exact fun ρ' H' S' s x' l => h ρ' H' S' s (x.trans x') l
    | ct σ => exact fun ρ' H' S' s x' l => h ρ' H' S' s (x.trans x') l
  | exc k ks xs h' => exact fun ρ' H' d fs S' s x' => h ρ' H' d fs S' s (x.trans x')
  | bad => exact h
/-- an expression ahead of what follows -/
theorem EndF.bind {α β : Type} {R : Cf → β → α → Prop} {Q : β → Hp → Prop} {S : L2.St} {m : M α} {f : α → M NT.Flow} (h : EndF W Wx c D (M.bind m f c.h))
    (k : ∀ a (c1 : Cf) b, m c.h = .ok a c1.h → Sim W c1 → Ext c c1 → R c1 b a → EndF W Wx c1 D (f a c1.h) → Q b c1.H) : End W Wx S c R Q (m c.h) := by
  unfold M.bind at h
  cases e : m c.h with
  | ok a h1 =>
    rw [e] at h
    exact fun ρ1 H1 b s x r => k a ⟨ρ1, h1, H1, c.x⟩ b e s x r (EndF.after (c1 := ⟨ρ1, h1, H1, c.x⟩) x h)
  | exc q ks xs h1 => rw [e] at h; exact fun ρ' H' d fs => h ρ' H' d fs S
  | bad => rw [e] at h; exact h
theorem EndF.nx {σ' : Loc} {S' : L2.St} (h : EndF W Wx c D (.ok (.nx σ') c.h)) (s : Sim W c) (l : LocR W c S' σ') : D.nx S' c.H := h c.ρ c.H S' s (Ext.refl c) l
theorem EndF.rt {a : AV} {v : V} (h : EndF W Wx c D (.ok (.rt a) c.h)) (s : Sim W c) (r : Rep W c v a) : D.rt v c.H := h c.ρ c.H v s (Ext.refl c) r
end
section
variable (W : Wd) (Wx : WX) (X : Cx) (C : Orc)
def SndS (st : Stmt) (ir : S) : Prop := ∀ (c : Cf) (S : L2.St) (σ : Loc) (D : Ends), Sim W c → LocR W c S σ → EndF W Wx c D (xec C ir σ c.h) → wS X st D S c.H
def SndSs (st : List Stmt) (ir : S) : Prop := ∀ (c : Cf) (S : L2.St) (σ : Loc) (D : Ends), Sim W c → LocR W c S σ → EndF W Wx c D (xec C ir σ c.h) → wSs X st D S c.H
end
section
variable {W : Wd} {Wx : WX} {X : Cx} {C : Orc} {n : Nat} {st : Stmt} {rest ss tt : List Stmt} {a b d e tg : Expr} {ia ib id ie : E} {is js : NT.S} {pos : Pos}
theorem sndSs_nil : SndSs W Wx X C [] .skip := fun c S σ D sim l e => wSs_of pss_nil (EndF.nx e sim l)
theorem sndSs_cons (h1 : SndS W Wx X C st is) (h2 : SndSs W Wx X C rest js) : SndSs W Wx X C (st :: rest) (.seq is js) := fun c S σ D sim l e => by
  refine wSs_of (pss_cons ps_w pss_w) (h1 c S σ _ sim l ?_)
  have e : EndF W Wx c D (M.bind (xec C is σ) (fun f => match f with | .nx σ' => xec C js σ' | .rt v => M.pure (.rt v) | .bk σ' => M.pure (.bk σ') | .ct σ' => M.pure (.ct σ')) c.h) := e
  unfold M.bind at e
  cases q : xec C is σ c.h with
  | bad => rw [q] at e; exact e
  | exc k ks xs h' => rw [q] at e; exact e
  | ok f h' =>
    rw [q] at e
    cases f with
    | nx σ1 => exact fun ρ1 H1 S1 s1 x1 l1 => h2 ⟨ρ1, h', H1, c.x⟩ S1 σ1 D s1 l1 (EndF.after (c1 := ⟨ρ1, h', H1, c.x⟩) x1 e)
    | rt v => exact e
    | bk σ1 => exact e
    | ct σ1 => exact e
theorem snd_pass : SndS W Wx X C (.Pass pos) .skip := fun c S σ D sim l e => wS_of ps_pass (EndF.nx e sim l)
theorem snd_brk : SndS W Wx X C (.Break pos) .brk := fun c S σ D sim l e => wS_of ps_break (show D.bk S c.H from e c.ρ c.H S sim (Ext.refl c) l)
theorem snd_cnt : SndS W Wx X C (.Continue pos) .cnt := fun c S σ D sim l e => wS_of ps_continue (show D.ct S c.H from e c.ρ c.H S sim (Ext.refl c) l)
theorem snd_doc {x : Str} {j : Nat} {p : Pos} : SndS W Wx X C (.Expr (.Constant (.str x) j p) pos) .skip := fun c S σ D sim l e => wS_of ps_doc (EndF.nx e sim l)
theorem snd_expr (he : SndE W Wx X C e ie) (hs : swapsWith e none pos.line X.env = pure false) : SndS W Wx X C (.Expr e pos) (.expr ie) := fun c S σ D sim l en =>
  wS_of (ps_expr pe_w hs) (he c S σ _ sim l (EndF.bind en fun x c1 v _ s1 x1 r1 e1 => EndF.nx e1 s1 (l.to x1)))
theorem snd_ret (he : SndE W Wx X C e ie) : SndS W Wx X C (.Return (some e) pos) (.ret ie) := fun c S σ D sim l en =>
  wS_of (ps_ret pe_w) (he c S σ _ sim l (EndF.bind en fun x c1 v _ s1 x1 r1 e1 => EndF.rt e1 s1 r1))
theorem snd_retN : SndS W Wx X C (.Return none pos) (.ret (.cst .non)) := fun c S σ D sim l en => wS_of ps_retN (EndF.rt en sim .non)
theorem snd_asg (K : CtxOk W Wx n X) {i : Nat} {x : Str} {p : Pos} (hi : X.N[i]? = some x) (hx : L2.Loc X.env.scope x) (hf : X.fn x = true ∨ X.env.scope.names.lookup x = some .local) (he : SndE W Wx X C e ie) (hs : swapsWith e (some (.Name x p)) pos.line X.env = pure false) :
    SndS W Wx X C (.Assign [.Name x p] e pos) (.asg i ie) := fun c S σ D sim l en =>
  wS_of (ps_set K.nd hi hx pe_w hs hf) (he c S σ _ sim l (EndF.bind en fun x c1 v _ s1 x1 r1 e1 => EndF.nx e1 s1 ((l.to x1).set r1 i)))
/-- a, b = e -/
theorem snd_unp (K : CtxOk W Wx n X) {is : List Nat} (ht : Tgt X tg is) (he : SndE W Wx X C e ie) (hs : swapsWithSole [tg] e pos.line X.env = pure false) (hw : swappedStores [tg] e X.env = pure none) : SndS W Wx X C (.Assign [tg] e pos) (.unp is ie) := fun c S σ D sim l en => by
  have h1 : (assignEach [tg] X.env).map (·.2) = [assign tg X.env] := by cases ht <;> rfl
  refine wS_of (ps_asg pe_w (ht.pg K.nd K.calm) hs hw h1) (he c S σ _ sim l (EndF.bind en fun x c1 v _ s1 x1 r1 e1 => ?_))
  cases q : bindT is x σ c1.h with
  | bad => unfold M.bind at e1; rw [q] at e1; exact e1.elim
  | exc k ks xs h' =>
    unfold bindT at q
    split at q
    · cases q
    · split at q
      · cases z : NT.setAll is _ σ <;> rw [z] at q <;> cases q
      · cases q
  | ok σ' h' =>
    have hh := bindT_ok q
    subst hh
    unfold M.bind at e1
    rw [q] at e1
    exact gOf_run K.hK (l.to x1) r1 q fun S' l' _ => EndF.nx e1 s1 l'
theorem snd_par2 (K : CtxOk W Wx n X) {i j : Nat} {x y : Str} {px py pt pt2 : Pos} {kt k2 : Nat} (hi : X.N[i]? = some x) (hj : X.N[j]? = some y) (hij : i ≠ j) (hx : X.env.scope.names.lookup x = some .local) (hy : X.env.scope.names.lookup y = some .local) (ha : SndA W Wx X C [a, b] ia)
    (hw : swappedStores [.Tuple [.Name x px, .Name y py] kt pt] (.Tuple [a, b] k2 pt2) X.env = pure (some [x, y])) : SndS W Wx X C (.Assign [.Tuple [.Name x px, .Name y py] kt pt] (.Tuple [a, b] k2 pt2) pos) (.par [i, j] ia) := fun c S σ D sim l en => by
  refine wS_of (ps_par K.calm K.nd hi hj hij hx hy pa_w hw rfl) (ha c S σ _ sim l (EndF.bind en fun xs c1 vs _ s1 x1 r1 e1 => ?_))
  match xs, vs, r1, e1 with
  | [p, q], _, .cons (v := v) r1 (.cons (v := w) r2 .nil), e1 => exact ⟨v, w, rfl, EndF.nx e1 s1 (((l.to x1).set r1 i).set r2 j)⟩
  | [], _, _, e1 => exact e1.elim
  | [_], _, _, e1 => exact e1.elim
  | _ :: _ :: _ :: _, _, _, e1 => exact e1.elim
theorem snd_par3 (K : CtxOk W Wx n X) {i j k : Nat} {x y z : Str} {px py pz pt pt2 : Pos} {kt k2 : Nat} (hi : X.N[i]? = some x) (hj : X.N[j]? = some y) (hk : X.N[k]? = some z) (hij : i ≠ j) (hik : i ≠ k) (hjk : j ≠ k) (hx : X.env.scope.names.lookup x = some .local) (hy : X.env.scope.names.lookup y = some .local) (hz : X.env.scope.names.lookup z = some .local) (ha : SndA W Wx X C [a, b, d] ia)
    (hw : swappedStores [.Tuple [.Name x px, .Name y py, .Name z pz] kt pt] (.Tuple [a, b, d] k2 pt2) X.env = pure (some [x, y, z])) : SndS W Wx X C (.Assign [.Tuple [.Name x px, .Name y py, .Name z pz] kt pt] (.Tuple [a, b, d] k2 pt2) pos) (.par [i, j, k] ia) := fun c S σ D sim l en => by
  refine wS_of (ps_par3 K.calm K.nd hi hj hk hij hik hjk hx hy hz pa_w hw rfl) (ha c S σ _ sim l (EndF.bind en fun xs c1 vs _ s1 x1 r1 e1 => ?_))
  match xs, vs, r1, e1 with
  | [p, q, r], _, .cons (v := v) r1 (.cons (v := w) r2 (.cons (v := u) r3 .nil)), e1 => exact ⟨v, w, u, rfl, EndF.nx e1 s1 ((((l.to x1).set r1 i).set r2 j).set r3 k)⟩
  | [], _, _, e1 => exact e1.elim
  | [_], _, _, e1 => exact e1.elim
  | [_, _], _, _, e1 => exact e1.elim
  | _ :: _ :: _ :: _ :: _, _, _, e1 => exact e1.elim
theorem snd_setSub (K : CtxOk W Wx n X) {p : Pos} (ho : SndE W Wx X C a ia) (hi : SndE W Wx X C b ib) (he : SndE W Wx X C e ie) (hs : swapsWithSole [.Subscript a b p] e pos.line X.env = pure false) (hw : swappedStores [.Subscript a b p] e X.env = pure none)
    (hset : ∀ v, assign (.Subscript a b p) X.env v = (do
      let ov ← holding [v] (eval a X.env)
      let iv ← holding [v, ov] (eval b X.env)
      standAt p
      holding [v, ov, iv] (setItem ov iv v)
      release [v, ov, iv] [])) :
    SndS W Wx X C (.Assign [.Subscript a b p] e pos) (.setSub ia ib ie) := fun c S σ D sim l en => by
  refine wS_of (ps_asg pe_w (pg_sub pe_w pe_w (setSub_snd (W := W)) hset) hs hw rfl) (he c S σ _ sim l (EndF.bind en fun x c1 v _ s1 x1 r1 e1 => ?_))
  refine ho c1 S σ _ s1 (l.to x1) (EndF.bind e1 fun y c2 w _ s2 x2 r2 e2 => ?_)
  refine hi c2 S σ _ s2 (l.to (x1.trans x2)) (EndF.bind e2 fun z c3 u _ s3 x3 r3 e3 => ?_)
  exact ⟨c3, y, z, x, Wx, S, rfl, s3, r2.to x3, r3, r1.to (x2.trans x3), EndF.bind e3 fun _ c4 _ _ s4 x4 _ e4 => EndF.nx e4 s4 (l.to (x1.trans (x2.trans (x3.trans x4))))⟩
theorem aug_snd {op : Operator} : PIp X op (fun x y H Q => ∃ (c : Cf) (a b : AV) (Wx : WX) (S : L2.St), c.H = H ∧ Sim W c ∧ Rep W c x a ∧ Rep W c y b ∧ End W Wx S c (Rep W) Q (augV op a b c.h)) := by
  rintro pins s σ H x y v u Q I rx ry ⟨c, a, b, Wx, S, rfl, sim, ra, rb, e⟩
  unfold augV at e
  split at e
  · cases ra; cases rb
    exact iop_add pins s σ _ _ _ v u Q I rx ry ⟨_, _, rfl, rfl, e.here sim (.int _)⟩
  · cases ra; cases rb
    exact iop_sub pins s σ _ _ _ v u Q I rx ry ⟨_, _, rfl, rfl, e.here sim (.int _)⟩
  · cases ra; cases rb
    obtain ⟨g, e⟩ := e.ok1
    simp only [Bool.or_eq_true, decide_eq_true_eq] at g
    refine iop_mul pins s σ _ _ _ v u Q I rx ry ⟨_, _, rfl, rfl, ?_, e.here sim (.int _)⟩
    rcases g with g | g
    · exact .inl ⟨by omega, by omega⟩
    · exact .inr ⟨by omega, by omega⟩
  · cases ra; cases rb
    obtain ⟨g, e⟩ := e.ok1
    simp only [Bool.and_eq_true, decide_eq_true_eq] at g
    exact iop_fdiv pins s σ _ _ _ v u Q I rx ry ⟨_, _, rfl, rfl, g, e.here sim (.int _)⟩
  · cases ra; cases rb
    obtain ⟨g, e⟩ := e.ok1
    exact iop_add_str pins s σ _ _ _ v u Q I rx ry ⟨_, _, rfl, rfl, by rw [line_eq]; exact of_decide_eq_true g, e.here sim (.str _)⟩
  · exact e.elim
theorem snd_aug (K : CtxOk W Wx n X) {op : Operator} {i : Nat} {x : Str} {p : Pos} (hi : X.N[i]? = some x) (hx : L2.Loc X.env.scope x) (hf : X.fn x = true ∨ X.env.scope.names.lookup x = some .local) (he : SndE W Wx X C e ie) : SndS W Wx X C (.AugAssign (.Name x p) op e pos) (.aug i op ie) := fun c S σ D sim l en => by
  have en : EndF W Wx c D (M.bind (lget σ i) (fun x => M.bind (ev C σ ie) fun y => M.bind (augV op x y) fun z => M.pure (.nx (σ.set i (some z)))) c.h) := en
  unfold lget at en
  cases q : σ[i]?.getD none with
  | none => rw [q] at en; exact en.elim
  | some a =>
    rw [q] at en
    obtain ⟨v, h1, h2⟩ := l.2 i a (lget_some q)
    refine wS_of (ps_aug K.nd hi hx pe_w (aug_snd (W := W)) hf) ⟨v, h1, he c S σ _ sim l (EndF.bind (m := ev C σ ie) en fun y c1 w _ s1 x1 r1 e1 => ?_)⟩
    exact ⟨c1, a, y, Wx, S, rfl, s1, h2.to x1, r1, EndF.bind e1 fun z c2 u _ s2 x2 r2 e2 => EndF.nx e2 s2 ((l.to (x1.trans x2)).set r2 i)⟩
theorem snd_ife {t : Expr} {it : E} (ht : SndT W Wx X C t it) (h1 : SndSs W Wx X C ss is) (h2 : SndSs W Wx X C tt js) : SndS W Wx X C (.If t ss tt pos) (.ife it is js) := fun c S σ D sim l en => by
  refine wS_of (ps_if pt_w pss_w pss_w) (ht c S σ _ sim l (EndF.bind en fun k c1 b _ s1 x1 r1 e1 => ?_))
  subst r1
  cases b with
  | true => rw [if_pos rfl] at e1 ⊢; exact h1 c1 S σ D s1 (l.to x1) e1
  | false => rw [if_neg (by decide)] at e1 ⊢; exact h2 c1 S σ D s1 (l.to x1) e1

theorem forL_cons {body : AV → Loc → M NT.Flow} {x : AV} {xs : List AV} {σ : Loc} (h : AHeap) : forL body (x :: xs) σ h = (match body x σ h with
  | .ok (.nx σ') h1 => forL body xs σ' h1
  | .ok (.ct σ') h1 => forL body xs σ' h1
  | .ok (.bk σ') h1 => .ok (.nx σ') h1
  | .ok (.rt v) h1 => .ok (.rt v) h1
  | .exc c ks vs h1 => .exc c ks vs h1
  | .bad => .bad) := by
  simp only [forL, M.bind]
  cases body x σ h with
  | ok f h1 => cases f <;> rfl
  | exc _ _ _ _ => rfl
  | bad => rfl
theorem snd_for (K : CtxOk W Wx n X) (po : PassesOwn (model X.prog X.w) X.A X.env X.xe) {iter : Expr} {iit : E} {ts : List Nat} (hi : SndI W Wx X C tg iter iit) (ht : Tgt X tg ts) (hb : SndSs W Wx X C ss is) (hs : ∀ x, foldedSetIterable iter X.env x = pure x) :
    SndS W Wx X C (.For tg iter ss [] pos) (.for_ ts iit is) := fun c S σ D sim l en => by
  obtain ⟨body, hbd⟩ : ∃ body : AV → Loc → M NT.Flow, body = (fun x σ' => M.bind (bindT ts x σ') fun σ2 => xec C is σ2) := ⟨_, rfl⟩
  have en : EndF W Wx c D (M.bind (evI C σ iit) (fun xs => forL body xs σ) c.h) := by rw [hbd]; exact en
  refine wS_of (ps_for po K.calm pi_w (ht.pg K.nd K.calm) pss_w hs) (hi c S σ _ sim l (EndF.bind en fun xs c1 J _ s1 x1 wk e1 => ?_))
  obtain ⟨G, Y, w, hG, hY⟩ := wk
  refine for_it w (fun i S' H => ∃ (c' : Cf) (σ' : Loc), c'.H = H ∧ Sim W c' ∧ Ext c1 c' ∧ LocR W c' S' σ' ∧ EndF W Wx c1 D (forL body (xs.drop i) σ' c'.h)) ?_ ?_ ?_ ?_
  · exact ⟨c1, σ, rfl, s1, Ext.refl c1, l.to x1, e1⟩
  · rintro i S' H hi ⟨c', σ', rfl, _, x0, _⟩
    exact hG c' x0.toEx0
  · rintro i x S' H H' hi ⟨c', σ', rfl, s', x0, l', e'⟩ hy
    have hxi : xs[i]? = some xs[i] := by simp [hi]
    obtain ⟨s2, x2, r2⟩ := hY i c' x H' xs[i] hxi s' x0.toEx0 hy
    rw [List.drop_eq_getElem_cons hi, forL_cons] at e'
    generalize xs[i] = a at r2 e'
    cases q : bindT ts a σ' c'.h with
    | bad =>
      have z : body a σ' c'.h = .bad := by rw [hbd]; unfold M.bind; simp only [q]
      rw [z] at e'; exact e'.elim
    | exc k ks us h' =>
      unfold bindT at q
      split at q
      · cases q
      · split at q
        · cases z : NT.setAll ts _ σ' <;> rw [z] at q <;> cases q
        · cases q
    | ok σ2 h' =>
      have hh := bindT_ok q
      subst hh
      have z : body a σ' c'.h = xec C is σ2 c'.h := by rw [hbd]; show M.bind _ _ _ = _; unfold M.bind; rw [q]
      rw [z] at e'
      refine gOf_run K.hK (c := { c' with H := H' }) (l'.to x2) r2 q fun S2 l2 _ => ?_
      refine hb { c' with H := H' } S2 σ2 _ s2 l2 ?_
      have x3 : Ext c1 { c' with H := H' } := x0.trans x2
      have next : ∀ {σ3 : Loc} {h3 : AHeap} {ρ3 : List Addr} {H3 : Hp} {S3 : L2.St}, EndF W Wx c1 D (forL body (xs.drop (i + 1)) σ3 h3) → Sim W ⟨ρ3, h3, H3, c'.x⟩ → Ext { c' with H := H' } ⟨ρ3, h3, H3, c'.x⟩ → LocR W ⟨ρ3, h3, H3, c'.x⟩ S3 σ3 →
          ∃ (c' : Cf) (σ' : Loc), c'.H = H3 ∧ Sim W c' ∧ Ext c1 c' ∧ LocR W c' S3 σ' ∧ EndF W Wx c1 D (forL body (xs.drop (i + 1)) σ' c'.h) := fun {σ3 h3 ρ3 H3 S3} e3 s3 x4 l3 => ⟨⟨ρ3, h3, H3, c'.x⟩, σ3, rfl, s3, x3.trans x4, l3, e3⟩
      show EndF W Wx { c' with H := H' } _ (xec C is σ2 c'.h)
      cases q2 : xec C is σ2 c'.h with
      | bad => rw [q2] at e'; exact e'
      | exc k ks us h3 => rw [q2] at e'; exact EndF.after (c1 := { c' with H := H' }) x3 (D := _) (o := .exc k ks us h3) (show EndF W Wx c1 _ (.exc k ks us h3) from e')
      | ok f h3 =>
        rw [q2] at e'
        cases f with
        | nx σ3 => exact fun ρ3 H3 S3 s3 x4 l3 => next e' s3 x4 l3
        | ct σ3 => exact fun ρ3 H3 S3 s3 x4 l3 => next e' s3 x4 l3
        | bk σ3 =>
          have e2 : EndF W Wx { c' with H := H' } D (.ok (.nx σ3) h3) := EndF.after (c1 := { c' with H := H' }) x3 e'
          exact e2
        | rt v =>
          have e2 : EndF W Wx { c' with H := H' } D (.ok (.rt v) h3) := EndF.after (c1 := { c' with H := H' }) x3 e'
          exact e2
  · rintro S' H ⟨c', σ', rfl, s', x0, l', e'⟩
    rw [List.drop_length] at e'
    exact EndF.nx (EndF.after x0 e') s' l'
theorem snd_whl (po : PassesOwn (model X.prog X.w) X.A X.env X.xe) {t : Expr} {it : E} (ht : SndT W Wx X C t it) (hb : SndSs W Wx X C ss is) : SndS W Wx X C (.While t ss [] pos) (.whl it is) := fun c S σ D sim l en => by
  obtain ⟨tf, htf⟩ : ∃ tf : Loc → M Bool, tf = (fun σ' => evT C σ' it) := ⟨_, rfl⟩
  obtain ⟨bf, hbf⟩ : ∃ bf : Loc → M NT.Flow, bf = (fun σ' => xec C is σ') := ⟨_, rfl⟩
  have en : EndF W Wx c D (whl tf bf σ c.h) := by rw [htf, hbf]; exact en
  obtain ⟨m0, hm0⟩ := whl_some (t := tf) (body := bf) (σ := σ) (h := c.h) rfl (fun z => by rw [z] at en; exact en)
  refine wS_of (ps_while po pt_w pss_w) ⟨fun m S' H => ∃ (c' : Cf) (σ' : Loc) (r : Out NT.Flow), c'.H = H ∧ Sim W c' ∧ Ext c c' ∧ LocR W c' S' σ' ∧ whlN tf bf m σ' c'.h = some r ∧ EndF W Wx c D r, ⟨m0, c, σ, _, rfl, sim, Ext.refl c, l, hm0, en⟩, ?_⟩
  rintro m S' H ⟨c', σ', r, rfl, s', x0, l', hm, e'⟩
  cases m with
  | zero => cases hm
  | succ k =>
    unfold whlN at hm
    refine ht c' S' σ' _ s' l' ?_
    have ct : tf σ' c'.h = evT C σ' it c'.h := by rw [htf]
    rw [ct] at hm
    cases q : evT C σ' it c'.h with
    | bad => rw [q] at hm; cases hm; exact e'.elim
    | exc k ks us h1 =>
      rw [q] at hm; cases hm
      have e2 := EndF.after x0 e'
      exact fun ρ' H' d fs => e2 ρ' H' d fs S'
    | ok b h1 =>
      rw [q] at hm
      intro ρ1 H1 b' s1 x1 rb
      subst rb
      have x2 : Ext c ⟨ρ1, h1, H1, c'.x⟩ := x0.trans x1
      cases b' with
      | false =>
        rw [if_neg (by decide)]
        cases hm
        exact EndF.nx (c := ⟨ρ1, h1, H1, c'.x⟩) (EndF.after (c1 := ⟨ρ1, h1, H1, c'.x⟩) x2 e') s1 (l'.to x1)
      | true =>
        rw [if_pos rfl]
        refine ⟨fun S3 H3 => ∃ (c' : Cf) (σ' : Loc) (r : Out NT.Flow), c'.H = H3 ∧ Sim W c' ∧ Ext c c' ∧ LocR W c' S3 σ' ∧ whlN tf bf k σ' c'.h = some r ∧ EndF W Wx c D r, fun S3 H3 h => ⟨k, Nat.lt_succ_self k, h⟩, ?_⟩
        refine hb ⟨ρ1, h1, H1, c'.x⟩ S' σ' _ s1 (l'.to x1) ?_
        have cb : bf σ' h1 = xec C is σ' h1 := by rw [hbf]
        simp only [cb] at hm
        show EndF W Wx ⟨ρ1, h1, H1, c'.x⟩ _ (xec C is σ' h1)
        cases q2 : xec C is σ' h1 with
        | bad => rw [q2] at hm; cases hm; exact e'.elim
        | exc k ks us h2 =>
          rw [q2] at hm; cases hm
          have e2 : EndF W Wx ⟨ρ1, h1, H1, c'.x⟩ D (.exc k ks us h2) := EndF.after (c1 := ⟨ρ1, h1, H1, c'.x⟩) x2 e'
          exact e2
        | ok f h2 =>
          rw [q2] at hm
          cases f with
          | nx σ3 => exact fun ρ3 H3 S3 s3 x3 l3 => ⟨⟨ρ3, h2, H3, c'.x⟩, σ3, r, rfl, s3, x2.trans x3, l3, hm, e'⟩
          | ct σ3 => exact fun ρ3 H3 S3 s3 x3 l3 => ⟨⟨ρ3, h2, H3, c'.x⟩, σ3, r, rfl, s3, x2.trans x3, l3, hm, e'⟩
          | bk σ3 =>
            cases hm
            have e2 : EndF W Wx ⟨ρ1, h1, H1, c'.x⟩ D (.ok (.nx σ3) h2) := EndF.after (c1 := ⟨ρ1, h1, H1, c'.x⟩) x2 e'
            exact e2
          | rt v =>
            cases hm
            have e2 : EndF W Wx ⟨ρ1, h1, H1, c'.x⟩ D (.ok (.rt v) h2) := EndF.after (c1 := ⟨ρ1, h1, H1, c'.x⟩) x2 e'
            exact e2
end
end NT
set_option linter.all false
set_option maxRecDepth 100000
set_option autoImplicit false
namespace NT
open PySem
/-- what is known of a text where it stands -/
structure SCtx where
  N : List Str
  sc : Scope
  st : List (Str × NameKind)
  cons : List (Str × AV)
  fns : List (Str × Nat)
  free : List Str
  mu : List (Nat × Nat)
def idxOf (x : Str) : List Str → Nat → Option Nat
  | [], _ => none
  | y :: r, i => if x = y then some i else idxOf x r (i + 1)
def isVis (c : SCtx) (x : Str) : Bool := match c.sc.names.lookup x with
  | some .local => true
  | some .cell => true
  | some .free => true
  | _ => false
def isGl (c : SCtx) (x : Str) : Bool := match c.sc.names.lookup x with
  | some .globalImplicit => true
  | _ => false
def canSt (c : SCtx) (x : Str) : Bool := match c.st.lookup x with
  | some .local => true
  | some .cell => true
  | _ => false
def isLoc (c : SCtx) (x : Str) : Bool := match c.sc.names.lookup x with
  | some .local => true
  | _ => false
def dbg (x : Str) : Bool := x == ("__debug__" : Str) || x == ("__classdict__" : Str) || x == ("__name__" : Str)
def bOf (x : Str) : Option B := [B.len, .abs, .int, .bool, .str, .isinstance, .all, .any, .sum, .max, .min, .list, .tuple, .sorted, .repr, .type].find? fun b => x == bN b
def bmOf (x : Str) : Option BM := [BM.join].find? fun b => x == bmN b
def tyOf (x : Str) : Option String := if x = "int" then some "int" else if x = "bool" then some "bool" else if x = "str" then some "str" else if x = "list" then some "list" else if x = "tuple" then some "tuple" else none
def stB : Expr → Bool
  | .Starred _ _ => true
  | _ => false
def st1B : List Expr → Bool
  | e :: _ => stB e
  | [] => false
def slB : Expr → Bool
  | .Slice _ _ _ _ => true
  | _ => false
def lcB : Expr → Bool
  | .ListComp _ _ _ _ => true
  | .SetComp _ _ _ _ => true
  | .DictComp _ _ _ _ _ => true
  | _ => false
def setB : Expr → Bool
  | .Set _ _ _ => true
  | _ => false
def superB : Expr → Bool
  | .Call (.Name _ _) [] [] _ => true
  | _ => false
/-- what is tested by its value's truth -/
def tvB : Expr → Bool
  | .Name _ _ => true
  | .Call _ _ _ _ => true
  | .Attribute _ _ _ => true
  | .Subscript _ _ _ => true
  | .Constant _ _ _ => true
  | _ => false
def ownOf (N : List Str) (scope : Scope) : List (Str × Nat) := scope.names.filterMap fun y => match y.2 with
  | .local => (idxOf y.1 N 0).map fun i => (y.1, i)
  | .cell => (idxOf y.1 N 0).map fun i => (y.1, i)
  | _ => none
def place (c : SCtx) (x : Str) : Option Nat := if canSt c x then idxOf x c.N 0 else none
def nameP (c : SCtx) : Expr → Option Nat
  | .Name x _ => place c x
  | _ => none
def namesP (c : SCtx) : List Expr → Option (List Nat)
  | [] => some []
  | e :: es => match nameP c e, namesP c es with
    | some i, some is => some (i :: is)
    | _, _ => none
/-- a target of names -/
def tgtP (c : SCtx) : Expr → Option (List Nat)
  | .Name x _ => (place c x).map fun i => [i]
  | .Tuple es _ _ => match namesP c es with
    | some is => if is.length = 1 then none else some is
    | none => none
  | _ => none
def blkCtx (c : SCtx) (scope : Scope) : SCtx := { c with sc := L2.relS scope c.sc, st := scope.names }
mutual
def cE : Nat → SCtx → Expr → Option E
  | 0, _, _ => none
  | n + 1, c, e => match e with
    | .Constant (.int i) _ _ => some (.cst (.int i))
    | .Constant (.bool b) _ _ => some (.cst (.bl b))
    | .Constant .none _ _ => some (.cst .non)
    | .Constant (.str s) _ _ => some (.cst (.str s))
    | .Name x _ => if dbg x then none else if isVis c x then (idxOf x c.N 0).map .var else if isGl c x then (match c.cons.lookup x with
        | some v => some (.cst v)
        | none => if c.free.contains x then (tyOf x).map fun T => .cst (.ty T) else none) else none
    | .BinOp a op b _ => (cE n c a).bind fun a' => (cE n c b).bind fun b' => some (.bin op a' b')
    | .UnaryOp .USub a _ => (cE n c a).bind fun a' => some (.neg a')
    | .UnaryOp .Not a _ => (cE n c a).bind fun a' => some (.notv a')
    | .BoolOp _ [a] _ => cE n c a
    | .BoolOp .And (a :: b :: r) p => (cE n c a).bind fun a' => (cE n c (.BoolOp .And (b :: r) p)).bind fun b' => some (.and a' b')
    | .BoolOp .Or (a :: b :: r) p => (cE n c a).bind fun a' => (cE n c (.BoolOp .Or (b :: r) p)).bind fun b' => some (.or a' b')
    | .Compare a [op] [b] _ => if setB b then none else (cE n c a).bind fun a' => (cE n c b).bind fun b' => some (.cmp op a' b')
    | .Compare a [op, op'] [b, d] _ => if setB d then none else (cE n c a).bind fun a' => (cE n c b).bind fun b' => (cE n c d).bind fun d' => some (.chn op op' a' b' d')
    | .IfExp t a b _ => (cT n c t).bind fun t' => (cE n c a).bind fun a' => (cE n c b).bind fun b' => some (.ifx t' a' b')
    | .Tuple es _ _ => (cA n c es).bind fun es' => some (.tup es')
    | .List es p => (cA n c es).bind fun es' => some (if c.mu.contains (p.line, p.col) then .mlst es' else .lst es')
    | .Subscript a (.Slice (some b) (some d) none _) _ => (cE n c a).bind fun a' => (cE n c b).bind fun b' => (cE n c d).bind fun d' => some (.slc a' b' d')
    | .Subscript a (.Slice (some b) none none _) _ => (cE n c a).bind fun a' => (cE n c b).bind fun b' => some (.slcL a' b')
    | .Subscript a (.Slice none (some b) none _) _ => (cE n c a).bind fun a' => (cE n c b).bind fun b' => some (.slcH a' b')
    | .Subscript a b _ => if slB b then none else (cE n c a).bind fun a' => (cE n c b).bind fun b' => some (.sub a' b')
    | .Call (.Name x _) args [] _ => if dbg x || !isGl c x then none else (match c.fns.lookup x with
        | some f => if st1B args then none else (cA n c args).bind fun as => some (.call f as)
        | none => match args, bOf x with
          | a :: es, some b => if c.free.contains x && !(a :: es).any stB then (cA n c (a :: es)).bind fun as => some (.blt b as) else none
          | _, _ => none)
    | .Call (.Attribute o m ap) (a :: es) [] p => match bmOf m with
        | some b => if superB o || (a :: es).any stB || !decide (es.length < 29) || !(ap.endLine == p.line) then none else (cE n c o).bind fun o' => (cA n c (a :: es)).bind fun as => some (.bm b o' as)
        | none => none
    | .ListComp elt [⟨tg, iter, ifs, 0⟩] scope _ => match tgtP (blkCtx c scope) tg with
        | some is => if L2.blkC c.N c.sc scope (ownOf c.N scope) && is.all (fun i => ((ownOf c.N scope).map (·.2)).contains i) && !setB iter then
            (cI n c tg iter).bind fun it => (cC n (blkCtx c scope) ifs).bind fun cond => (cE n (blkCtx c scope) elt).bind fun el => some (.lc is ((ownOf c.N scope).map (·.2)) it cond el) else none
        | none => none
    | _ => none
def cT : Nat → SCtx → Expr → Option E
  | 0, _, _ => none
  | n + 1, c, e => match e with
    | .UnaryOp .Not a _ => (cT n c a).bind fun a' => some (.not a')
    | .BoolOp _ [a] _ => cT n c a
    | .BoolOp .And (a :: b :: r) p => (cT n c a).bind fun a' => (cT n c (.BoolOp .And (b :: r) p)).bind fun b' => some (.and a' b')
    | .BoolOp .Or (a :: b :: r) p => (cT n c a).bind fun a' => (cT n c (.BoolOp .Or (b :: r) p)).bind fun b' => some (.or a' b')
    | .Compare a [op] [b] _ => if setB b then none else (cE n c a).bind fun a' => (cE n c b).bind fun b' => some (.cmp op a' b')
    | .Compare a [op, op'] [b, d] _ => if setB d then none else (cE n c a).bind fun a' => (cE n c b).bind fun b' => (cE n c d).bind fun d' => some (.chn op op' a' b' d')
    | e => if tvB e then (cE n c e).bind fun e' => some (.tv e') else none
def cA : Nat → SCtx → List Expr → Option E
  | 0, _, _ => none
  | _ + 1, _, [] => some .nil
  | n + 1, c, .Starred a _ :: es => (cE n c a).bind fun a' => (cA n c es).bind fun es' => some (.star a' es')
  | n + 1, c, a :: es => (cE n c a).bind fun a' => (cA n c es).bind fun es' => some (.cons a' es')
def cI : Nat → SCtx → Expr → Expr → Option E
  | 0, _, _, _ => none
  | n + 1, c, tg, e => match e with
    | .Call (.Name x _) [a] [] _ =>
        if x = "range" then (if isGl c x && c.free.contains x && !stB a then (cE n c a).bind fun a' => some (.rng (.cst (.int 0)) a') else none)
        else (cE n c e).bind fun e' => some (.itv e')
    | .Call (.Name x _) [a, b] [] _ =>
        if x = "range" then (if isGl c x && c.free.contains x && !stB a && !stB b then (cE n c a).bind fun a' => (cE n c b).bind fun b' => some (.rng a' b') else none)
        else if x = "zip" then (match tg with
          | .Tuple _ _ _ => if isGl c x && c.free.contains x && !stB a && !stB b then (cE n c a).bind fun a' => (cE n c b).bind fun b' => some (.zip a' b') else none
          | _ => none)
        else (cE n c e).bind fun e' => some (.itv e')
    | _ => (cE n c e).bind fun e' => some (.itv e')
def cC : Nat → SCtx → List Expr → Option E
  | 0, _, _ => none
  | _ + 1, _, [] => some (.tv (.cst (.bl true)))
  | n + 1, c, [t] => cT n c t
  | _, _, _ => none
end
/-- a, b = x, y is stored from the right -/
def swapB (c : SCtx) (ts vs : List Expr) : Bool :=
  (ts.length == 2 || ts.length == 3) && vs.length == ts.length && !vs.any stB && ts.all (fun | .Name x p => isLoc c x && p.line == ((ts.head?.map (·.pos.line)).getD 0) | _ => false)
def stdB (c : SCtx) : Bool := match c.sc.kind with
  | .function => true
  | _ => false
mutual
def cS : Nat → SCtx → Stmt → Option S
  | 0, _, _ => none
  | n + 1, c, s => match s with
    | .Pass _ => some .skip
    | .Break _ => some .brk
    | .Continue _ => some .cnt
    | .Expr (.Constant (.str _) _ _) _ => some .skip
    | .Expr e _ => if lcB e then none else (cE n c e).bind fun e' => some (.expr e')
    | .Return (some e) _ => (cE n c e).bind fun e' => some (.ret e')
    | .Return none _ => some (.ret (.cst .non))
    | .Assign [.Name x p] e q => (place c x).bind fun i => if lcB e then (match e with
          | .ListComp elt [⟨tg, iter, ifs, 0⟩] scope pos => if isLoc c x && p.line == pos.line && !(scope.names.any fun (n, k) => n == x && (k == .local || k == .cell)) && stdB c then (cE n c e).bind fun e' => some (.asg i e') else none
          | _ => none)
        else (cE n c e).bind fun e' => some (.asg i e')
    | .Assign [.Tuple ts kt pt] (.Tuple vs k2 p2) q => if swapB c ts vs then
          (if vs.all (foldedForSure 8) || vs.all (constantsAlone 8) || !stdB c then none else match namesP c ts with
            | some is => if is.Nodup then (cA n c vs).bind fun vs' => some (.par is vs') else none
            | none => none)
        else none
    | .Assign [.Tuple ts kt pt] e q => match e with
        | .Tuple _ _ _ => none
        | e => if lcB e then none else (tgtP c (.Tuple ts kt pt)).bind fun is => (cE n c e).bind fun e' => some (.unp is e')
    | .Assign [.Subscript o i p] e q => if slB i || lcB e then none else (cE n c o).bind fun o' => (cE n c i).bind fun i' => (cE n c e).bind fun e' => some (.setSub o' i' e')
    | .AugAssign (.Name x _) op e _ => (place c x).bind fun i => (cE n c e).bind fun e' => some (.aug i op e')
    | .If t a b _ => (cT n c t).bind fun t' => (cSs n c a).bind fun a' => (cSs n c b).bind fun b' => some (.ife t' a' b')
    | .For tg it b [] _ => if setB it then none else (tgtP c tg).bind fun is => (cI n c tg it).bind fun it' => (cSs n c b).bind fun b' => some (.for_ is it' b')
    | .While t b [] _ => (cT n c t).bind fun t' => (cSs n c b).bind fun b' => some (.whl t' b')
    | _ => none
def cSs : Nat → SCtx → List Stmt → Option S
  | 0, _, _ => none
  | _ + 1, _, [] => some .skip
  | n + 1, c, s :: ss => (cS n c s).bind fun s' => (cSs n c ss).bind fun ss' => some (.seq s' ss')
end
end NT
set_option linter.all false
set_option maxRecDepth 100000
set_option autoImplicit false
namespace NT
open PySem PySem.Spec PyProof.Rows L2
/-- the module's names -/
structure TopOk (W : Wd) (cons : List (Str × AV)) (fns : List (Str × Nat)) (free : List Str) : Prop where
  con : ∀ x v, cons.lookup x = some v → ∃ u vv, W.mg x = some u ∧ RelV vv u ∧ ∀ c, Rep W c vv v
  fn : ∀ x f, fns.lookup x = some f → W.mg x = some (.ref (W.fnA f)) ∧ PySem.W.keepIn W.K (.ref (W.fnA f)) = true
  no : ∀ x, x ∈ free → W.mg x = none
structure StatOk (X : Cx) (c : SCtx) : Prop where
  hN : X.N = c.N
  hsc : X.env.scope = c.sc
  hst : ∀ x, canSt c x = true → L2.Loc X.env.scope x ∧ (X.fn x = true ∨ X.env.scope.names.lookup x = some .local)
theorem idxOf_get {x : Str} : ∀ {N : List Str} {i j : Nat}, idxOf x N i = some j → ∃ k, j = i + k ∧ N[k]? = some x
  | [], _, _, h => by cases h
  | y :: r, i, j, h => by
    unfold idxOf at h
    split at h
    · rename_i e
      cases h
      exact ⟨0, rfl, by rw [e]; rfl⟩
    · obtain ⟨k, h1, h2⟩ := idxOf_get h
      exact ⟨k + 1, by omega, h2⟩
theorem idx_N {X : Cx} {c : SCtx} (st : StatOk X c) {x : Str} {i : Nat} (h : idxOf x c.N 0 = some i) : X.N[i]? = some x := by
  obtain ⟨k, h1, h2⟩ := idxOf_get h
  rw [st.hN, h1, Nat.zero_add]; exact h2
theorem vis_of {X : Cx} {c : SCtx} (st : StatOk X c) {x : Str} (h : isVis c x = true) : Vis X.env.scope x := by
  unfold isVis at h
  unfold Vis
  rw [st.hsc]
  split at h <;> first | exact .inl (by assumption) | exact .inr (.inl (by assumption)) | exact .inr (.inr (by assumption)) | cases h
theorem gl_of {X : Cx} {c : SCtx} (st : StatOk X c) {x : Str} (h : isGl c x = true) : Gl X x := by
  unfold isGl at h
  show X.env.scope.names.lookup x = _
  rw [st.hsc]
  split at h <;> first | assumption | cases h
theorem loc_of {X : Cx} {c : SCtx} (st : StatOk X c) {x : Str} (h : isLoc c x = true) : X.env.scope.names.lookup x = some .local := by
  unfold isLoc at h
  rw [st.hsc]
  split at h <;> first | assumption | cases h
theorem place_of {X : Cx} {c : SCtx} (st : StatOk X c) {x : Str} {i : Nat} (h : place c x = some i) : X.N[i]? = some x ∧ L2.Loc X.env.scope x ∧ (X.fn x = true ∨ X.env.scope.names.lookup x = some .local) := by
  unfold place at h
  split at h
  · rename_i hc
    exact ⟨idx_N st h, st.hst x hc⟩
  · cases h
theorem dbg_of {x : Str} (h : dbg x = false) : (x == ("__debug__" : Str)) = false ∧ (x == ("__classdict__" : Str)) = false ∧ x ≠ "__name__" := by
  unfold dbg at h
  simp only [Bool.or_eq_false_iff] at h
  exact ⟨h.1.1, h.1.2, fun z => by rw [z] at h; exact absurd h.2 (by decide +kernel)⟩
theorem names_at {X : Cx} {c : SCtx} (st : StatOk X c) : ∀ {es : List Expr} {is : List Nat}, namesP c es = some is → NamesAt X es is
  | [], is, h => by cases h; exact .nil
  | e :: es, is, h => by
    unfold namesP at h
    split at h
    · rename_i i js h1 h2
      cases h
      unfold nameP at h1
      split at h1
      · obtain ⟨g1, g2, g3⟩ := place_of st h1
        exact .cons g1 g2 g3 (names_at st h2)
      · cases h1
    · cases h
theorem tgt_of {X : Cx} {c : SCtx} (st : StatOk X c) {tg : Expr} {is : List Nat} (h : tgtP c tg = some is) : Tgt X tg is := by
  unfold tgtP at h
  split at h
  · rename_i x p
    cases q : place c x with
    | none => rw [q] at h; cases h
    | some i =>
      rw [q] at h
      cases h
      obtain ⟨g1, g2, g3⟩ := place_of st q
      exact .name g1 g2 g3
  · rename_i es k p
    split at h
    · rename_i js q
      split at h
      · cases h
      · rename_i hl
        cases h
        exact .tup (names_at st q) hl
    · cases h
  · cases h
theorem stB_no {e : Expr} (h : stB e = false) : noStar e := fun x q z => by subst z; cases h
theorem any_no {es : List Expr} (h : es.any stB = false) : ∀ e ∈ es, ∀ x q, e ≠ .Starred x q := fun e he x q z => by
  have := List.any_eq_false.mp h e he
  subst z
  exact this rfl
theorem setB_marks {op : CmpOp} {b : Expr} (h : setB b = false) : behindInMarks op b = false := by
  cases b <;> first | rfl | cases h
theorem setB_fold {b : Expr} {env : Env} (h : setB b = false) : ∀ x, foldedSetIterable b env x = pure x := fun x => by
  cases b <;> first | rfl | cases h
theorem superB_base {o : Expr} {m : Str} {env : Env} (h : superB o = false) : attributeBase o m env (eval o env) = eval o env := by
  cases o with
  | Call f args kws p =>
    cases f <;> cases args <;> cases kws <;> first | rfl | cases h
  | _ => rfl
theorem slB_plain {b : Expr} (h : slB b = false) : PlainIx b := fun o i => by
  cases b <;> first | rfl | cases h
theorem tvB_true {e : Expr} (h : tvB e = true) (env : Env) : ∀ whole, isTrue e env whole = (do let v ← whole; standAt e.pos; holding [v] (truthy v)) := fun whole => by
  cases e <;> first | rfl | cases h
theorem bOf_eq {x : Str} {b : B} (h : bOf x = some b) : x = bN b := by
  have := List.find?_some h
  simpa using this
theorem bmOf_eq {x : Str} {b : BM} (h : bmOf x = some b) : x = bmN b ∧ bmOk b = true := by
  have h1 := List.find?_some h
  have h2 := List.mem_of_find?_eq_some h
  refine ⟨by simpa using h1, ?_⟩
  simp at h2
  subst h2
  rfl
theorem tyOf_boot {x : Str} {T : String} (h : tyOf x = some T) : bootBuiltins x = some (.type T) := by
  unfold tyOf at h
  split at h
  · rename_i e; cases h; rw [e]; decide +kernel
  · split at h
    · rename_i e; cases h; rw [e]; decide +kernel
    · split at h
      · rename_i e; cases h; rw [e]; decide +kernel
      · split at h
        · rename_i e; cases h; rw [e]; decide +kernel
        · split at h
          · rename_i e; cases h; rw [e]; decide +kernel
          · cases h
/-- calls of the text's own defs are served -/
def OrcOk (W : Wd) (n : Nat) (C : Orc) (fns : List (Str × Nat)) : Prop := ∀ (Wx : WX) (X : Cx), CtxOk W Wx n X → ∀ x f, fns.lookup x = some f → ∀ (args : List Expr) (as : E) (p pos : Pos),
  (∀ a p' r, args ≠ .Starred a p' :: r) → (args = [] → as = .nil) → SndA W Wx X C args as → Gl X x → (x == ("__debug__" : Str)) = false → SndE W Wx X C (.Call (.Name x p) args [] pos) (.call f as)
theorem blk_stat {X : Cx} {c : SCtx} (st : StatOk X c) (scope : Scope) (s : Shared) (H : Hp) (cl : List (Str × Addr)) (Cc : Addr) (fp : List Addr) : StatOk (X.blk s H scope (compEnvC scope cl Cc X.env) fp) (blkCtx c scope) := by
  have e : (X.blk s H scope (compEnvC scope cl Cc X.env) fp).env.scope = L2.relS scope c.sc := by
    rw [← st.hsc]; rfl
  refine ⟨st.hN, e, fun x h => ?_⟩
  unfold canSt at h
  rw [e]
  have h : (match scope.names.lookup x with | some .local => true | some .cell => true | _ => false) = true := h
  split at h
  · rename_i q
    have z := lookup_relS_keep (sc := c.sc) (k := NameKind.local) (by decide) q
    exact ⟨.inl z, .inr z⟩
  · rename_i q
    have z := lookup_relS_keep (sc := c.sc) (k := NameKind.cell) (by decide) q
    refine ⟨.inr z, .inl ?_⟩
    show (scope.names.lookup x == some .cell) = true
    rw [q]; rfl
  · cases h
theorem blk_ctx {W : Wd} {Wx : WX} {n : Nat} {X : Cx} (K : CtxOk W Wx n X) (scope : Scope) (s : Shared) (H : Hp) (cenv : Env) (fp : List Addr) : CtxOk W WF n (X.blk s H scope cenv fp) :=
  ⟨K.hP, K.hw, K.hK, K.hg, K.hb, K.calm, K.room, takes0, K.nd⟩

def wTs (X : Cx) (ifs : List Expr) : TT := fun σ H Q => ∀ (pins : List (Addr × Obj)) (s : Shared), Inv X pins σ H s →
  wpAny (model X.prog X.w) X.A (forIn ifs true fun c r => if r = true then do let ok ← isTrue c X.env (eval c X.env); pure (ForInStep.yield ok) else pure (ForInStep.yield r)) (TP X pins σ Q) X.xe s
theorem pts_w {X : Cx} {ifs : List Expr} : PTs X ifs (wTs X ifs) := ⟨fun pins s σ H Q I h => h pins s I⟩
theorem wTs_of {X : Cx} {ifs : List Expr} {t : TT} {σ : L2.St} {H : Hp} {Q : Bool → Hp → Prop} (h : PTs X ifs t) (q : t σ H Q) : wTs X ifs σ H Q := fun pins s I => h.run pins s σ H Q I q
def SndC (W : Wd) (Wx : WX) (X : Cx) (C : Orc) (ifs : List Expr) (ir : E) : Prop := ∀ (c : Cf) (S : L2.St) (σ : Loc) (Q : Bool → Hp → Prop), Sim W c → LocR W c S σ → End W Wx S c (fun _ (b k : Bool) => b = k) Q (evT C σ ir c.h) → wTs X ifs S c.H Q
/-- a comprehension's pieces -/
def LcOk (W : Wd) (Wx : WX) (X : Cx) (C : Orc) (elt tg iter : Expr) (ifs : List Expr) (scope : Scope) (ir : E) : Prop := ∃ (own : List (Str × Nat)) (is : List Nat) (tt : TT) (te : TE), BlkOk X.N X.env.scope scope own ∧
  (∀ (s : Shared) (H : Hp) (Cc : Addr) (cl : List (Str × Addr)) (fp : List Addr), PG (X.blk s H scope (compEnvC scope cl Cc X.env) fp) tg (gOf X.K is)) ∧
  (∀ (s : Shared) (H : Hp) (Cc : Addr) (cl : List (Str × Addr)) (fp : List Addr), PTs (X.blk s H scope (compEnvC scope cl Cc X.env) fp) ifs tt) ∧
  (∀ (s : Shared) (H : Hp) (Cc : Addr) (cl : List (Str × Addr)) (fp : List Addr), PE (X.blk s H scope (compEnvC scope cl Cc X.env) fp) elt te) ∧
  (∀ x, foldedSetIterable iter X.env x = pure x) ∧
  ∀ (c : Cf) (S : L2.St) (σ : Loc) (Q : VK), Sim W c → LocR W c S σ → End W Wx S c (Rep W) Q (ev C σ ir c.h) → tLc (wI X tg iter) (gOf X.K is) tt te (own.map (·.2)) S c.H Q
structure CS (W : Wd) (C : Orc) (m : Nat) (cons : List (Str × AV)) (fns : List (Str × Nat)) (free : List Str) (n : Nat) : Prop where
  e : ∀ (c : SCtx) (Wx : WX) (X : Cx), c.cons = cons → c.fns = fns → c.free = free → CtxOk W Wx m X → StatOk X c → ∀ e ir, cE n c e = some ir → SndE W Wx X C e ir
  t : ∀ (c : SCtx) (Wx : WX) (X : Cx), c.cons = cons → c.fns = fns → c.free = free → CtxOk W Wx m X → StatOk X c → ∀ e ir, cT n c e = some ir → SndT W Wx X C e ir
  a : ∀ (c : SCtx) (Wx : WX) (X : Cx), c.cons = cons → c.fns = fns → c.free = free → CtxOk W Wx m X → StatOk X c → ∀ e ir, cA n c e = some ir → SndA W Wx X C e ir
  i : ∀ (c : SCtx) (Wx : WX) (X : Cx), c.cons = cons → c.fns = fns → c.free = free → CtxOk W Wx m X → StatOk X c → ∀ tg e ir, cI n c tg e = some ir → SndI W Wx X C tg e ir
  c : ∀ (c : SCtx) (Wx : WX) (X : Cx), c.cons = cons → c.fns = fns → c.free = free → CtxOk W Wx m X → StatOk X c → ∀ e ir, cC n c e = some ir → SndC W Wx X C e ir
section
variable {W : Wd} {C : Orc} {m n : Nat} {cons : List (Str × AV)} {fns : List (Str × Nat)} {free : List Str} {c : SCtx} {Wx : WX} {X : Cx}
theorem lc_ok (H : CS W C m cons fns free n) (h1 : c.cons = cons) (h2 : c.fns = fns) (h3 : c.free = free) (K : CtxOk W Wx m X) (st : StatOk X c) {elt tg iter : Expr} {ifs : List Expr} {scope : Scope} {pos : Pos} {ir : E}
    (h : cE (n + 1) c (.ListComp elt [⟨tg, iter, ifs, 0⟩] scope pos) = some ir) : LcOk W Wx X C elt tg iter ifs scope ir := by
  simp only [cE] at h
  split at h
  · rename_i is hq
    split at h
    · rename_i hb
      simp only [Bool.and_eq_true, Bool.not_eq_true'] at hb
      obtain ⟨⟨hb1, hb2⟩, hb3⟩ := hb
      simp only [Option.bind_eq_some_iff, Option.some.injEq] at h
      obtain ⟨it, g1, cond, g2, el, g3, rfl⟩ := h
      have ok : BlkOk X.N X.env.scope scope (ownOf c.N scope) := by rw [st.hN, st.hsc]; exact blkOk_by hb1
      have hsub : ∀ i ∈ is, i ∈ (ownOf c.N scope).map (·.2) := fun i hi => by
        have := List.all_eq_true.mp hb2 i hi
        simpa using this
      have hg : ∀ (s : Shared) (H : Hp) (Cc : Addr) (cl : List (Str × Addr)) (fp : List Addr), PG (X.blk s H scope (compEnvC scope cl Cc X.env) fp) tg (gOf X.K is) := fun s H' Cc cl fp =>
        Tgt.pg (X := X.blk s H' scope (compEnvC scope cl Cc X.env) fp) K.nd K.calm (tgt_of (blk_stat st scope s H' cl Cc fp) hq)
      refine ⟨ownOf c.N scope, is, fun σ H' Q => ∀ (s : Shared) (H0 : Hp) (Cc : Addr) (cl : List (Str × Addr)) (fp : List Addr), wTs (X.blk s H0 scope (compEnvC scope cl Cc X.env) fp) ifs σ H' Q,
        fun σ H' Q => ∀ (s : Shared) (H0 : Hp) (Cc : Addr) (cl : List (Str × Addr)) (fp : List Addr), wE (X.blk s H0 scope (compEnvC scope cl Cc X.env) fp) elt σ H' Q, ok, hg,
        fun s H' Cc cl fp => ⟨fun pins s' σ H1 Q I q => q s H' Cc cl fp pins s' I⟩, fun s H' Cc cl fp => ⟨fun pins s' σ H1 Q I q => q s H' Cc cl fp pins s' I⟩, setB_fold hb3, ?_⟩
      refine snd_lc (pos := pos) K ok hsub (H.i c Wx X h1 h2 h3 K st tg iter it g1) hg (fun s H' Cc cl fp => ⟨fun pins s' σ H1 Q I q => q s H' Cc cl fp pins s' I⟩) ?_ (fun s H' Cc cl fp => ⟨fun pins s' σ H1 Q I q => q s H' Cc cl fp pins s' I⟩) ?_ (setB_fold hb3)
      · intro c' S σ Q sim l e s H0 Cc cl fp
        exact H.c (blkCtx c scope) WF _ h1 h2 h3 (blk_ctx K scope s H0 _ fp) (blk_stat st scope s H0 cl Cc fp) ifs cond g2 c' S σ Q sim l e
      · intro c' S σ Q sim l e s H0 Cc cl fp
        exact H.e (blkCtx c scope) WF _ h1 h2 h3 (blk_ctx K scope s H0 _ fp) (blk_stat st scope s H0 cl Cc fp) elt el g3 c' S σ Q sim l e
    · cases h
  · cases h
theorem cE_succ (T : TopOk W cons fns free) (O : OrcOk W m C fns) (H : CS W C m cons fns free n) (h1 : c.cons = cons) (h2 : c.fns = fns) (h3 : c.free = free) (K : CtxOk W Wx m X) (st : StatOk X c) (e : Expr) (ir : E) (h : cE (n + 1) c e = some ir) : SndE W Wx X C e ir := by
  have hE := H.e c Wx X h1 h2 h3 K st
  have hT := H.t c Wx X h1 h2 h3 K st
  have hA := H.a c Wx X h1 h2 h3 K st
  have h0 := h
  unfold cE at h
  split at h
  · cases h; exact snd_int
  · cases h; exact snd_bl
  · cases h; exact snd_non
  · cases h; exact snd_str
  · rename_i x p
    split at h
    · cases h
    · rename_i hd
      obtain ⟨d1, d2, d3⟩ := dbg_of (by simpa using hd)
      split at h
      · rename_i hv
        cases q : idxOf x c.N 0 with
        | none => rw [q] at h; cases h
        | some i => rw [q] at h; cases h; exact snd_var (idx_N st q) (vis_of st hv) d1 d2
      · split at h
        · rename_i hg
          split at h
          · rename_i v q
            cases h
            obtain ⟨u, vv, m1, m2, m3⟩ := T.con x v (by rw [← h1]; exact q)
            exact snd_glob (gl_of st hg) (by rw [K.hg]; exact m1) m2 m3 d1
          · split at h
            · rename_i hf
              cases q : tyOf x with
              | none => rw [q] at h; cases h
              | some Ty => rw [q] at h; cases h; exact snd_bty (gl_of st hg) (by rw [K.hg]; exact T.no x (by rw [← h3]; simpa using hf)) (tyOf_boot q) d3 d1
            · cases h
        · cases h
  · simp only [Option.bind_eq_some_iff, Option.some.injEq] at h
    obtain ⟨a', ha, b', hb, rfl⟩ := h
    exact snd_bin K (hE _ _ ha) (hE _ _ hb)
  · simp only [Option.bind_eq_some_iff, Option.some.injEq] at h
    obtain ⟨a', ha, rfl⟩ := h
    exact snd_neg (hE _ _ ha)
  · simp only [Option.bind_eq_some_iff, Option.some.injEq] at h
    obtain ⟨a', ha, rfl⟩ := h
    exact snd_not (hE _ _ ha)
  · exact snd_one (hE _ _ h)
  · simp only [Option.bind_eq_some_iff, Option.some.injEq] at h
    obtain ⟨a', ha, b', hb, rfl⟩ := h
    exact snd_and (hE _ _ ha) (hE _ _ hb)
  · simp only [Option.bind_eq_some_iff, Option.some.injEq] at h
    obtain ⟨a', ha, b', hb, rfl⟩ := h
    exact snd_or (hE _ _ ha) (hE _ _ hb)
  · split at h
    · cases h
    · rename_i hs
      simp only [Option.bind_eq_some_iff, Option.some.injEq] at h
      obtain ⟨a', ha, b', hb, rfl⟩ := h
      exact snd_cmp K (hE _ _ ha) (hE _ _ hb) (setB_marks (by simpa using hs))
  · split at h
    · cases h
    · rename_i hs
      simp only [Option.bind_eq_some_iff, Option.some.injEq] at h
      obtain ⟨a', ha, b', hb, d', hd, rfl⟩ := h
      exact snd_chn K (hE _ _ ha) (hE _ _ hb) (hE _ _ hd) (setB_marks (by simpa using hs))
  · simp only [Option.bind_eq_some_iff, Option.some.injEq] at h
    obtain ⟨t', ht, a', ha, b', hb, rfl⟩ := h
    exact snd_ifx (hT _ _ ht) (hE _ _ ha) (hE _ _ hb)
  · simp only [Option.bind_eq_some_iff, Option.some.injEq] at h
    obtain ⟨a', ha, rfl⟩ := h
    exact snd_tup (hA _ _ ha)
  · simp only [Option.bind_eq_some_iff, Option.some.injEq] at h
    obtain ⟨a', ha, rfl⟩ := h
    split
    · exact snd_mlst (hA _ _ ha)
    · exact snd_lst (hA _ _ ha)
  · simp only [Option.bind_eq_some_iff, Option.some.injEq] at h
    obtain ⟨a', ha, b', hb, d', hd, rfl⟩ := h
    exact snd_slc K (hE _ _ ha) (hE _ _ hb) (hE _ _ hd)
  · simp only [Option.bind_eq_some_iff, Option.some.injEq] at h
    obtain ⟨a', ha, b', hb, rfl⟩ := h
    exact snd_slcL K (hE _ _ ha) (hE _ _ hb)
  · simp only [Option.bind_eq_some_iff, Option.some.injEq] at h
    obtain ⟨a', ha, b', hb, rfl⟩ := h
    exact snd_slcH K (hE _ _ ha) (hE _ _ hb)
  · split at h
    · cases h
    · rename_i hs
      simp only [Option.bind_eq_some_iff, Option.some.injEq] at h
      obtain ⟨a', ha, b', hb, rfl⟩ := h
      exact snd_sub K (hE _ _ ha) (hE _ _ hb) (slB_plain (by simpa using hs))
  · rename_i x p args pos
    split at h
    · cases h
    · rename_i hd
      simp only [Bool.or_eq_true, Bool.not_eq_true', not_or, Bool.not_eq_true, Bool.not_eq_false] at hd
      obtain ⟨d1, d2, d3⟩ := dbg_of hd.1
      split at h
      · rename_i f q
        split at h
        · cases h
        · rename_i hns
          simp only [Option.bind_eq_some_iff, Option.some.injEq] at h
          obtain ⟨as, ha, rfl⟩ := h
          exact O Wx X K x f (by rw [← h2]; exact q) args as p pos (fun a p' r z => by subst z; exact hns rfl) (fun z => by subst z; cases n <;> simp [cA] at ha; exact ha.symm) (hA _ _ ha) (gl_of st hd.2) d1
      · split at h
        · rename_i a es b hb
          split at h
          · rename_i hf
            simp only [Bool.and_eq_true, Bool.not_eq_true'] at hf
            simp only [Option.bind_eq_some_iff, Option.some.injEq] at h
            obtain ⟨as, ha, rfl⟩ := h
            have ex := bOf_eq hb
            subst ex
            exact snd_blt K b (hA _ _ ha) (gl_of st hd.2) (by rw [K.hg]; exact T.no _ (by rw [← h3]; simpa using hf.1)) (any_no hf.2)
          · cases h
        · cases h
  · rename_i o mm ap a es p
    split at h
    · rename_i b hb
      obtain ⟨ex, hok⟩ := bmOf_eq hb
      subst ex
      split at h
      · cases h
      · rename_i hd
        simp only [Bool.or_eq_true, Bool.not_eq_true', not_or, Bool.not_eq_true, Bool.not_eq_false, decide_eq_true_eq] at hd
        simp only [Option.bind_eq_some_iff, Option.some.injEq] at h
        obtain ⟨o', ho, as, ha, rfl⟩ := h
        exact snd_bm K b hok (hE _ _ ho) (hA _ _ ha) (any_no hd.1.1.2) hd.1.2 (superB_base hd.1.1.1) hd.2
    · cases h
  · have L := lc_ok H h1 h2 h3 K st h0
    obtain ⟨own, is, tt, te, ok, hg, ht, he, hs, q⟩ := L
    exact fun c' S σ Q sim l e => wE_of (pe_lc K.calm K.nd pi_w ok hg ht he hs) (q c' S σ Q sim l e)
  · cases h
theorem cT_succ (H : CS W C m cons fns free n) (h1 : c.cons = cons) (h2 : c.fns = fns) (h3 : c.free = free) (K : CtxOk W Wx m X) (st : StatOk X c) (e : Expr) (ir : E) (h : cT (n + 1) c e = some ir) : SndT W Wx X C e ir := by
  have hE := H.e c Wx X h1 h2 h3 K st
  have hT := H.t c Wx X h1 h2 h3 K st
  unfold cT at h
  split at h
  · simp only [Option.bind_eq_some_iff, Option.some.injEq] at h
    obtain ⟨a', ha, rfl⟩ := h
    exact sndT_not (hT _ _ ha)
  · rename_i op a p
    cases op with
    | And => exact sndT_oneA (hT _ _ h)
    | Or => exact sndT_oneO (hT _ _ h)
  · simp only [Option.bind_eq_some_iff, Option.some.injEq] at h
    obtain ⟨a', ha, b', hb, rfl⟩ := h
    exact sndT_and (hT _ _ ha) (hT _ _ hb)
  · simp only [Option.bind_eq_some_iff, Option.some.injEq] at h
    obtain ⟨a', ha, b', hb, rfl⟩ := h
    exact sndT_or (hT _ _ ha) (hT _ _ hb)
  · split at h
    · cases h
    · rename_i hs
      simp only [Option.bind_eq_some_iff, Option.some.injEq] at h
      obtain ⟨a', ha, b', hb, rfl⟩ := h
      exact sndT_cmp K (hE _ _ ha) (hE _ _ hb) (setB_marks (by simpa using hs))
  · split at h
    · cases h
    · rename_i hs
      simp only [Option.bind_eq_some_iff, Option.some.injEq] at h
      obtain ⟨a', ha, b', hb, d', hd, rfl⟩ := h
      exact sndT_chn K (hE _ _ ha) (hE _ _ hb) (hE _ _ hd) (setB_marks (by simpa using hs))
  · split at h
    · rename_i ht
      simp only [Option.bind_eq_some_iff, Option.some.injEq] at h
      obtain ⟨a', ha, rfl⟩ := h
      exact sndT_tv K (hE _ _ ha) (tvB_true ht _)
    · cases h
theorem cA_succ (H : CS W C m cons fns free n) (h1 : c.cons = cons) (h2 : c.fns = fns) (h3 : c.free = free) (K : CtxOk W Wx m X) (st : StatOk X c) (e : List Expr) (ir : E) (h : cA (n + 1) c e = some ir) : SndA W Wx X C e ir := by
  have hE := H.e c Wx X h1 h2 h3 K st
  have hA := H.a c Wx X h1 h2 h3 K st
  unfold cA at h
  split at h
  · rename_i q; cases q
  · cases h; exact sndA_nil
  · rename_i q
    cases q
    simp only [Option.bind_eq_some_iff, Option.some.injEq] at h
    obtain ⟨a', ha, es', he, rfl⟩ := h
    exact sndA_star K (hE _ _ ha) (hA _ _ he)
  · rename_i hn q
    cases q
    simp only [Option.bind_eq_some_iff, Option.some.injEq] at h
    obtain ⟨a', ha, es', he, rfl⟩ := h
    exact sndA_cons (hE _ _ ha) (hA _ _ he) (noStar.each fun x q z => hn x q z)
theorem cI_succ (T : TopOk W cons fns free) (H : CS W C m cons fns free n) (h1 : c.cons = cons) (h2 : c.fns = fns) (h3 : c.free = free) (K : CtxOk W Wx m X) (st : StatOk X c) (tg e : Expr) (ir : E) (h : cI (n + 1) c tg e = some ir) : SndI W Wx X C tg e ir := by
  have hE := H.e c Wx X h1 h2 h3 K st
  unfold cI at h
  have gen : ∀ ir, ((cE n c e).bind fun e' => some (E.itv e')) = some ir → SndI W Wx X C tg e ir := fun ir h => by
    simp only [Option.bind_eq_some_iff, Option.some.injEq] at h
    obtain ⟨a', ha, rfl⟩ := h
    exact sndI_itv K (hE _ _ ha)
  split at h
  · rename_i x p a pos
    split at h
    · rename_i hx
      split at h
      · rename_i hb
        simp only [Bool.and_eq_true, Bool.not_eq_true'] at hb
        simp only [Option.bind_eq_some_iff, Option.some.injEq] at h
        obtain ⟨a', ha, rfl⟩ := h
        subst hx
        exact sndI_rng1 (hE _ _ ha) (stB_no hb.2) (gl_of st hb.1.1) (by rw [K.hg]; exact T.no _ (by rw [← h3]; simpa using hb.1.2))
      · cases h
    · exact gen ir h
  · rename_i x p a b pos
    split at h
    · rename_i hx
      split at h
      · rename_i hb
        simp only [Bool.and_eq_true, Bool.not_eq_true'] at hb
        simp only [Option.bind_eq_some_iff, Option.some.injEq] at h
        obtain ⟨a', ha, b', hb', rfl⟩ := h
        subst hx
        exact sndI_rng2 (hE _ _ ha) (hE _ _ hb') (stB_no hb.1.2) (stB_no hb.2) (gl_of st hb.1.1.1) (by rw [K.hg]; exact T.no _ (by rw [← h3]; simpa using hb.1.1.2))
      · cases h
    · split at h
      · rename_i hx
        split at h
        · split at h
          · rename_i hb
            simp only [Bool.and_eq_true, Bool.not_eq_true'] at hb
            simp only [Option.bind_eq_some_iff, Option.some.injEq] at h
            obtain ⟨a', ha, b', hb', rfl⟩ := h
            subst hx
            exact sndI_zip K (hE _ _ ha) (hE _ _ hb') (stB_no hb.1.2) (stB_no hb.2) (gl_of st hb.1.1.1) (by rw [K.hg]; exact T.no _ (by rw [← h3]; simpa using hb.1.1.2))
          · cases h
        · cases h
      · exact gen ir h
  · exact gen ir h
theorem cC_succ (H : CS W C m cons fns free n) (h1 : c.cons = cons) (h2 : c.fns = fns) (h3 : c.free = free) (K : CtxOk W Wx m X) (st : StatOk X c) (e : List Expr) (ir : E) (h : cC (n + 1) c e = some ir) : SndC W Wx X C e ir := by
  match e, h with
  | [], h =>
    simp only [cC] at h
    cases h
    exact fun c S σ Q sim l e => wTs_of pts_nil (e.here sim rfl)
  | [t], h =>
    simp only [cC] at h
    exact fun c' S σ Q sim l e => wTs_of (pts_one pt_w) (H.t c Wx X h1 h2 h3 K st _ _ h c' S σ Q sim l e)
  | _ :: _ :: _, h => simp [cC] at h
theorem comp_snd (T : TopOk W cons fns free) (O : OrcOk W m C fns) : ∀ n, CS W C m cons fns free n
  | 0 => ⟨fun _ _ _ _ _ _ _ _ _ _ h => by simp [cE] at h, fun _ _ _ _ _ _ _ _ _ _ h => by simp [cT] at h, fun _ _ _ _ _ _ _ _ _ _ h => by simp [cA] at h, fun _ _ _ _ _ _ _ _ _ _ _ h => by simp [cI] at h, fun _ _ _ _ _ _ _ _ _ _ h => by simp [cC] at h⟩
  | n + 1 =>
    have H := comp_snd T O n
    ⟨fun c Wx X h1 h2 h3 K st e ir h => cE_succ T O H h1 h2 h3 K st e ir h, fun c Wx X h1 h2 h3 K st e ir h => cT_succ H h1 h2 h3 K st e ir h, fun c Wx X h1 h2 h3 K st e ir h => cA_succ H h1 h2 h3 K st e ir h,
      fun c Wx X h1 h2 h3 K st tg e ir h => cI_succ T H h1 h2 h3 K st tg e ir h, fun c Wx X h1 h2 h3 K st e ir h => cC_succ H h1 h2 h3 K st e ir h⟩
end
end NT
set_option linter.all false
set_option maxRecDepth 100000
set_option autoImplicit false
namespace NT
open PySem PySem.Spec PyProof.Rows L2
section
variable {W : Wd} {C : Orc} {m n : Nat} {cons : List (Str × AV)} {fns : List (Str × Nat)} {free : List Str} {c : SCtx} {Wx : WX} {X : Cx}
theorem lcB_no {e : Expr} {t : Option Expr} {l : Nat} {env : Env} (h : lcB e = false) : swapsWith e t l env = pure false := by
  cases e <;> first | rfl | cases h
theorem sole {t e : Expr} {l : Nat} {env : Env} : swapsWithSole [t] e l env = swapsWith e (some t) l env := rfl
theorem swap_none {t e : Expr} {env : Env} (h : ∀ ts k p, t ≠ .Tuple ts k p) (h' : ∀ ts p, t ≠ .List ts p) : swappedStores [t] e env = pure none := by
  cases t <;> first | rfl | exact absurd rfl (h _ _ _) | exact absurd rfl (h' _ _)
theorem swap_noneV {t e : Expr} {env : Env} (h : ∀ ts k p, e ≠ .Tuple ts k p) : swappedStores [t] e env = pure none := by
  cases t <;> cases e <;> first | rfl | exact absurd rfl (h _ _ _)
theorem kind_of {X : Cx} {c : SCtx} (st : StatOk X c) (h : stdB c = true) : X.env.scope.kind = .function := by
  unfold stdB at h
  rw [st.hsc]
  split at h
  · assumption
  · cases h
theorem block_kind {env : Env} (h : env.scope.kind = .function) : env.blockKind = .function := by unfold Env.blockKind; rw [h]; rfl
theorem star_match (e : Expr) (h : stB e = false) : (match (generalizing := false) e with | .Starred _ _ => true | _ => false) = false := by
  cases e <;> first | rfl | cases h
theorem swap2 {X : Cx} {x y : Str} {px py pt p2 : Pos} {kt k2 : Nat} {a b : Expr} (hk : X.env.scope.kind = .function) (hx : X.env.scope.names.lookup x = some .local) (hy : X.env.scope.names.lookup y = some .local) (hne : x ≠ y) (hl : py.line = px.line)
    (h1 : stB a = false) (h2 : stB b = false) (hf : [a, b].all (foldedForSure 8) = false) (hc : [a, b].all (constantsAlone 8) = false) : swappedStores [.Tuple [.Name x px, .Name y py] kt pt] (.Tuple [a, b] k2 p2) X.env = pure (some [x, y]) := by
  have e1 : X.env.kindOf x = some .local := hx
  have e2 : X.env.kindOf y = some .local := hy
  have bx : (y == x) = false := by simp [Ne.symm hne]
  simp only [List.all_cons, List.all_nil, Bool.and_true] at hf hc
  unfold swappedStores
  simp only [block_kind hk, List.filterMap_cons, List.filterMap_nil, e1, e2, hl, Expr.pos, List.head?_cons, Option.map_some, Option.getD_some, List.any_cons, List.any_nil, star_match _ h1, star_match _ h2, List.all_cons, List.all_nil, Bool.and_true, hf, hc, List.length_cons, List.length_nil, List.eraseDups, List.eraseDupsBy, List.eraseDupsBy.loop, List.elem, bx]
  simp [List.eraseDupsBy.loop, bx]
  intro hh
  exfalso
  rcases hh with hh | hh
  · cases a <;> first | (simp at hh; done) | cases h1
  · cases b <;> first | (simp at hh; done) | cases h2
theorem swap3 {X : Cx} {x y z : Str} {px py pz pt p2 : Pos} {kt k2 : Nat} {a b d : Expr} (hk : X.env.scope.kind = .function) (hx : X.env.scope.names.lookup x = some .local) (hy : X.env.scope.names.lookup y = some .local) (hz : X.env.scope.names.lookup z = some .local) (hne : x ≠ y) (hne2 : x ≠ z) (hne3 : y ≠ z) (hl : py.line = px.line) (hl2 : pz.line = px.line)
    (h1 : stB a = false) (h2 : stB b = false) (h3 : stB d = false) (hf : [a, b, d].all (foldedForSure 8) = false) (hc : [a, b, d].all (constantsAlone 8) = false) : swappedStores [.Tuple [.Name x px, .Name y py, .Name z pz] kt pt] (.Tuple [a, b, d] k2 p2) X.env = pure (some [x, y, z]) := by
  have e1 : X.env.kindOf x = some .local := hx
  have e2 : X.env.kindOf y = some .local := hy
  have e3 : X.env.kindOf z = some .local := hz
  have bx : (y == x) = false := by simp [Ne.symm hne]
  have bx2 : (z == x) = false := by simp [Ne.symm hne2]
  have bx3 : (z == y) = false := by simp [Ne.symm hne3]
  simp only [List.all_cons, List.all_nil, Bool.and_true] at hf hc
  unfold swappedStores
  simp only [block_kind hk, List.filterMap_cons, List.filterMap_nil, e1, e2, e3, hl, hl2, Expr.pos, List.head?_cons, Option.map_some, Option.getD_some, List.any_cons, List.any_nil, star_match _ h1, star_match _ h2, star_match _ h3, List.all_cons, List.all_nil, Bool.and_true, hf, hc, List.length_cons, List.length_nil, List.eraseDups, List.eraseDupsBy, List.eraseDupsBy.loop, List.elem, bx, bx2, bx3]
  simp [List.eraseDupsBy.loop, bx, bx2, bx3]
  intro hh
  exfalso
  rcases hh with hh | hh | hh
  · cases a <;> first | (simp at hh; done) | cases h1
  · cases b <;> first | (simp at hh; done) | cases h2
  · cases d <;> first | (simp at hh; done) | cases h3
theorem ne_of_place {X : Cx} {x y : Str} {i j : Nat} (hi : X.N[i]? = some x) (hj : X.N[j]? = some y) (h : i ≠ j) (nd : X.N.Nodup) : x ≠ y := fun e => by
  subst e
  exact h (nodup_ix nd hi hj)
theorem cS_all (T : TopOk W cons fns free) (O : OrcOk W m C fns) : ∀ n, (∀ (c : SCtx) (Wx : WX) (X : Cx), c.cons = cons → c.fns = fns → c.free = free → CtxOk W Wx m X → StatOk X c → PassesOwn (model X.prog X.w) X.A X.env X.xe → ∀ s ir, cS n c s = some ir → SndS W Wx X C s ir) ∧
    (∀ (c : SCtx) (Wx : WX) (X : Cx), c.cons = cons → c.fns = fns → c.free = free → CtxOk W Wx m X → StatOk X c → PassesOwn (model X.prog X.w) X.A X.env X.xe → ∀ s ir, cSs n c s = some ir → SndSs W Wx X C s ir)
  | 0 => ⟨fun _ _ _ _ _ _ _ _ _ _ _ h => by simp [cS] at h, fun _ _ _ _ _ _ _ _ _ _ _ h => by simp [cSs] at h⟩
  | n + 1 => by
    obtain ⟨ihS, ihSs⟩ := cS_all T O n
    have H := comp_snd (W := W) (C := C) (m := m) T O n
    refine ⟨fun c Wx X h1 h2 h3 K st po s ir h => ?_, fun c Wx X h1 h2 h3 K st po s ir h => ?_⟩
    · have hE := H.e c Wx X h1 h2 h3 K st
      have hT := H.t c Wx X h1 h2 h3 K st
      have hA := H.a c Wx X h1 h2 h3 K st
      have hI := H.i c Wx X h1 h2 h3 K st
      have hSs := ihSs c Wx X h1 h2 h3 K st po
      unfold cS at h
      split at h
      · cases h; exact snd_pass
      · cases h; exact snd_brk
      · cases h; exact snd_cnt
      · cases h; exact snd_doc
      · split at h
        · cases h
        · rename_i hl
          simp only [Option.bind_eq_some_iff, Option.some.injEq] at h
          obtain ⟨e', he, rfl⟩ := h
          exact snd_expr (hE _ _ he) (lcB_no (by simpa using hl))
      · simp only [Option.bind_eq_some_iff, Option.some.injEq] at h
        obtain ⟨e', he, rfl⟩ := h
        exact snd_ret (hE _ _ he)
      · cases h; exact snd_retN
      · rename_i x p e q
        simp only [Option.bind_eq_some_iff] at h
        obtain ⟨i, hp, h⟩ := h
        obtain ⟨g1, g2, g3⟩ := place_of st hp
        split at h
        · split at h
          · rename_i elt tg iter ifs scope pos _
            split at h
            · rename_i hb
              simp only [Bool.and_eq_true, Bool.not_eq_true'] at hb
              simp only [Option.bind_eq_some_iff, Option.some.injEq] at h
              obtain ⟨e', he, rfl⟩ := h
              cases n with
              | zero => simp [cE] at he
              | succ n =>
                obtain ⟨own, is, tt, te, ok, hg, ht, he', hs, q2⟩ := lc_ok (comp_snd (W := W) (C := C) (m := m) T O n) h1 h2 h3 K st he
                have hl := loc_of st hb.1.1.1
                have hsw : swapsWith (.ListComp elt [⟨tg, iter, ifs, 0⟩] scope pos) (some (.Name x p)) q.line X.env = pure true := sw_true (kind_of st hb.2) hl hb.1.1.2 hb.1.2
                exact fun c' S σ D sim l en => wS_of (ps_setLc K.calm K.nd g1 hl hsw pi_w ok hg ht he' hs) (q2 c' S σ _ sim l (EndF.bind en fun x c1 v _ s1 x1 r1 e1 => EndF.nx e1 s1 ((l.to x1).set r1 i)))
            · cases h
          · cases h
        · rename_i hl
          simp only [Option.bind_eq_some_iff, Option.some.injEq] at h
          obtain ⟨e', he, rfl⟩ := h
          exact snd_asg K g1 g2 g3 (hE _ _ he) (lcB_no (by simpa using hl))
      · rename_i ts kt pt vs k2 p2 q
        split at h
        · rename_i hsw
          split at h
          · cases h
          · rename_i hf
            simp only [Bool.or_eq_true, Bool.not_eq_true', not_or, Bool.not_eq_true, Bool.not_eq_false] at hf
            obtain ⟨⟨hf1, hf2⟩, hf3⟩ := hf
            have hk := kind_of st hf3
            split at h
            · rename_i is hq
              split at h
              · rename_i hnd
                simp only [Option.bind_eq_some_iff, Option.some.injEq] at h
                obtain ⟨vs', hv, rfl⟩ := h
                have NA := names_at st hq
                unfold swapB at hsw
                simp only [Bool.and_eq_true, Bool.or_eq_true, Bool.not_eq_true', beq_iff_eq] at hsw
                obtain ⟨⟨⟨hl, hlv⟩, hst⟩, hall⟩ := hsw
                rcases hl with hl | hl
                · match ts, vs, hl, hlv, NA with
                  | [_, _], [a, b], _, _, .cons (x := x) (p := px) (i := i) u1 u2 u3 (.cons (x := y) (p := py) (i := j) v1 v2 v3 .nil) =>
                    simp only [List.all_cons, List.all_nil, Bool.and_true, Bool.and_eq_true, List.head?_cons, Option.map_some, Option.getD_some, Expr.pos, beq_iff_eq] at hall
                    simp only [List.any_cons, List.any_nil, Bool.or_false, Bool.or_eq_false_iff] at hst
                    have hij : i ≠ j := by
                      simp at hnd; exact hnd
                    exact snd_par2 K u1 v1 hij (loc_of st hall.1.1) (loc_of st hall.2.1) (hA _ _ hv) (swap2 hk (loc_of st hall.1.1) (loc_of st hall.2.1) (ne_of_place u1 v1 hij K.nd) hall.2.2 hst.1 hst.2 hf1 hf2)
                · match ts, vs, hl, hlv, NA with
                  | [_, _, _], [a, b, d], _, _, .cons (x := x) (p := px) (i := i) u1 u2 u3 (.cons (x := y) (p := py) (i := j) v1 v2 v3 (.cons (x := z) (p := pz) (i := k) w1 w2 w3 .nil)) =>
                    simp only [List.all_cons, List.all_nil, Bool.and_true, Bool.and_eq_true, List.head?_cons, Option.map_some, Option.getD_some, Expr.pos, beq_iff_eq] at hall
                    simp only [List.any_cons, List.any_nil, Bool.or_false, Bool.or_eq_false_iff] at hst
                    simp only [List.nodup_cons, List.mem_cons, List.not_mem_nil, or_false, not_or] at hnd
                    exact snd_par3 K u1 v1 w1 hnd.1.1 hnd.1.2 hnd.2.1 (loc_of st hall.1.1) (loc_of st hall.2.1.1) (loc_of st hall.2.2.1) (hA _ _ hv) (swap3 hk (loc_of st hall.1.1) (loc_of st hall.2.1.1) (loc_of st hall.2.2.1) (ne_of_place u1 v1 hnd.1.1 K.nd) (ne_of_place u1 w1 hnd.1.2 K.nd) (ne_of_place v1 w1 hnd.2.1 K.nd) hall.2.1.2 hall.2.2.2 hst.1 hst.2.1 hst.2.2 hf1 hf2)
              · cases h
            · cases h
        · cases h
      · rename_i ts kt pt e q hne
        split at h
        · cases h
        · split at h
          · cases h
          · rename_i hnt hl
            simp only [Option.bind_eq_some_iff, Option.some.injEq] at h
            obtain ⟨is, ht, e', he, rfl⟩ := h
            exact snd_unp K (tgt_of st ht) (hE _ _ he) (sole.trans (lcB_no (by simpa using hl))) (swap_noneV fun a b c z => hnt a b c z)
      · split at h
        · cases h
        · rename_i o i p e q hb
          simp only [Bool.or_eq_true, not_or, Bool.not_eq_true] at hb
          simp only [Option.bind_eq_some_iff, Option.some.injEq] at h
          obtain ⟨o', ho, i', hi, e', he, rfl⟩ := h
          refine snd_setSub K (hE _ _ ho) (hE _ _ hi) (hE _ _ he) (sole.trans (lcB_no hb.2)) (swap_none (fun _ _ _ z => by cases z) (fun _ _ z => by cases z)) fun v => ?_
          have hb1 := hb.1
          cases i <;> first | rfl | cases hb1
      · simp only [Option.bind_eq_some_iff, Option.some.injEq] at h
        obtain ⟨i, hp, e', he, rfl⟩ := h
        obtain ⟨g1, g2, g3⟩ := place_of st hp
        exact snd_aug K g1 g2 g3 (hE _ _ he)
      · simp only [Option.bind_eq_some_iff, Option.some.injEq] at h
        obtain ⟨t', ht, a', ha, b', hb, rfl⟩ := h
        exact snd_ife (hT _ _ ht) (hSs _ _ ha) (hSs _ _ hb)
      · split at h
        · cases h
        · rename_i hs
          simp only [Option.bind_eq_some_iff, Option.some.injEq] at h
          obtain ⟨is, ht, it', hi, b', hb, rfl⟩ := h
          exact snd_for K po (hI _ _ _ hi) (tgt_of st ht) (hSs _ _ hb) (setB_fold (by simpa using hs))
      · simp only [Option.bind_eq_some_iff, Option.some.injEq] at h
        obtain ⟨t', ht, b', hb, rfl⟩ := h
        exact snd_whl po (hT _ _ ht) (hSs _ _ hb)
      · cases h
    · match s, h with
      | [], h =>
        simp only [cSs] at h
        cases h
        exact sndSs_nil
      | s :: ss, h =>
        simp only [cSs, Option.bind_eq_some_iff, Option.some.injEq] at h
        obtain ⟨s', hs, ss', hss, rfl⟩ := h
        exact sndSs_cons (ihS c Wx X h1 h2 h3 K st po s s' hs) (ihSs c Wx X h1 h2 h3 K st po ss ss' hss)
end
end NT
set_option linter.all false
set_option maxRecDepth 100000
set_option autoImplicit false
namespace NT
open PySem PySem.Spec PyProof.Rows L2
def spI (W : Wd) (C : Orc) (f : Nat) : Sp := fun vs H Q E => ∃ (c : Cf) (args : List AV), c.H = H ∧ Sim W c ∧ Reps W c vs args ∧ End W (fun cls d _ H => E cls d H) [] c (Rep W) Q (C f args c.h)
/-- a def of the text -/
structure DD where
  st : Stmt
  name : Str
  qual : Str
  N : List Str
  ps : List Str
structure FnFact (W : Wd) (g : SCtx) (f : Nat) (fd : FD) (D : DD) : Prop where
  sc : FnScope D.N D.ps (defScope D.st)
  nl : fd.nl = D.N.length
  np : D.ps.length = fd.np + (if fd.star then 1 else 0)
  cmp : ∃ k, cSs k { g with N := D.N, sc := defScope D.st, st := (defScope D.st).names } (defBody D.st) = some fd.body
  lk : ∃ (oc : Value) (od : Option Addr) (dV kV doc pm : Value) (an : Option Addr) (cdv ct : Value) (osl : Array (Option Value)),
    W.K.lookup (W.fnA f) = some ⟨oc, od, .func (PySem.W.fnOf D.name D.qual (defArgs D.st) (defBody D.st) (defScope D.st) dV kV doc pm an cdv ct), osl⟩ ∧ PySem.W.codeIn W.K cdv D.qual = true ∧
    (if fd.star = true then ∃ ps pv, D.ps = ps ++ [pv] ∧ ∀ us rest : List Value, us.length = ps.length → bindArgs (PySem.W.fnOf D.name D.qual (defArgs D.st) (defBody D.st) (defScope D.st) dV kV doc pm an cdv ct) ⟨us ++ rest, []⟩ = (newTuple rest >>= fun t => pure (ps.zip us ++ [(pv, t)]))
      else ∀ us : List Value, us.length = D.ps.length → bindArgs (PySem.W.fnOf D.name D.qual (defArgs D.st) (defBody D.st) (defScope D.st) dV kV doc pm an cdv ct) ⟨us, []⟩ = pure (D.ps.zip us))
section
variable {W : Wd} {Wx : WX} {X : Cx} {C : Orc} {n : Nat}
theorem call_snd (K : CtxOk W Wx n X) {f : Nat} (F : FnR W.P W.w W.K W.mg W.base (L2.CX W.P W.w) n (W.fnA f) (spI W C f)) {x : Str} {args : List Expr} {as : E} {p pos : Pos} (hns : ∀ a p' r, args ≠ .Starred a p' :: r) (hnil : args = [] → as = .nil) (ha : SndA W Wx X C args as) (hg : Gl X x) (hd : (x == ("__debug__" : Str)) = false)
    (hm : W.mg x = some (.ref (W.fnA f))) (hk : PySem.W.keepIn W.K (.ref (W.fnA f)) = true) : SndE W Wx X C (.Call (.Name x p) args [] pos) (.call f as) := fun c S σ Q sim l e => by
  have hm : X.mg x = some (.ref (W.fnA f)) := by rw [K.hg]; exact hm
  have hk : PySem.W.keepIn X.K (.ref (W.fnA f)) = true := by rw [K.hK]; exact hk
  have F : FnR X.prog X.w X.K X.mg X.base (L2.CX X.prog X.w) n (W.fnA f) (spI W C f) := by rw [K.hP, K.hw, K.hK, K.hg, K.hb]; exact F
  intro pins s I
  -- the callee, at values that stand for xs
  have go : ∀ (xs : List AV) (c1 : Cf) (vs : List V) (us : List Value) (s1 : Shared), Sim W c1 → Reps W c1 vs xs → End W Wx S c1 (Rep W) Q (C f xs c1.h) → Vals vs us → Inv X pins S c1.H s1 → wpAny (model X.prog X.w) X.A (call (.ref (W.fnA f)) us) (EP X pins S Q) X.xe s1 := by
    intro xs c1 vs us s1 hs r1 e1 ru I1
    have sp : spI W C f vs c1.H Q (fun cls d H' => Wx cls d S H') := by
      refine ⟨c1, xs, rfl, hs, r1, ?_⟩
      cases q : C f xs c1.h with
      | ok a h' => rw [q] at e1; exact e1
      | exc k ks ys h' => rw [q] at e1; exact e1
      | bad => rw [q] at e1; exact e1
    refine wpAny_call (codeAny_mono (F X.A X.stack s1 c1.H us vs Q _ K.room I1.env0 ru sp) fun r s' hq => ?_)
    cases r with
    | error e => exact K.tk e s' (XE.of_call I1 (fun cls d H' h => h) hq)
    | ok fl =>
      cases fl with
      | ret u => exact I1.after hq
      | next => exact False.elim hq
      | brk => exact False.elim hq
      | cont => exact False.elim hq
  have key : wA X args S c.H (fun vs H1 => ∃ (c1 : Cf) (xs : List AV), c1.H = H1 ∧ Sim W c1 ∧ Reps W c1 vs xs ∧ End W Wx S c1 (Rep W) Q (C f xs c1.h)) := ha c S σ _ sim l (End.bind e fun xs c1 vs _ s1 x1 r1 e1 => ⟨c1, xs, rfl, s1, r1, e1⟩)
  refine wpAny_Call_Name_kw (ld_glob I hg hm ?_ hd)
  cases args with
  | nil =>
    have hn := hnil rfl
    subst hn
    exact PySem.W.callWith_K0 I.kIn hk (go [] c [] [] s sim .nil e .nil I)
  | cons a es =>
    have h1 : starEach (a :: es) X.env = (false, eval a X.env) :: starEach es X.env := noStar.each fun y q z => hns y q es (by rw [z])
    cases hst : (backTo pos (starEach es X.env)).any (·.1) with
    | false =>
      refine PySem.W.callWith_K (h₀ := X.base) I.ok.mod.kin hk (thn (key pos pins s I) fun us s1 ⟨vs, H1, I1, r, c1, xs, q1, q2, q3, q4⟩ => ⟨I1.kIn, ?_⟩) h1 hst
      subst q1
      exact go xs c1 vs us s1 q2 q3 q4 r I1
    | true =>
      refine PySem.W.callWith_S2 (h₀ := X.base) I.ok.mod.kin hk (thn (key pos pins s I) fun us s1 ⟨vs, H1, I1, r, c1, xs, q1, q2, q3, q4⟩ => ⟨I1.kIn, ?_⟩) h1 hst
      subst q1
      exact go xs c1 vs us s1 q2 q3 q4 r I1
end

theorem Reps.locR {W : Wd} {c : Cf} {vs : List V} {xs : List AV} (r : Reps W c vs xs) (a b : Nat) (h : vs.length + a = xs.length + b) : LocR W c (vs.map some ++ List.replicate a none) (xs.map some ++ List.replicate b none) := by
  refine ⟨by simp; omega, fun i z e => ?_⟩
  by_cases hi : i < xs.length
  · rw [List.getElem?_append_left (by simpa using hi), List.getElem?_map] at e
    cases q : xs[i]? with
    | none => rw [q] at e; cases e
    | some y =>
      rw [q] at e
      cases e
      obtain ⟨v, h1, h2⟩ := r.get q
      refine ⟨v, ?_, h2⟩
      rw [List.getElem?_append_left (by rw [List.length_map, r.length]; exact hi), List.getElem?_map, h1]
      rfl
  · rw [List.getElem?_append_right (by simpa using hi), List.getElem?_replicate] at e
    split at e <;> cases e
def spB (W : Wd) (C : Orc) (body : S) (N ps : List Str) : Sp := fun vs H Q E => ∃ (c : Cf) (σ : Loc), c.H = H ∧ Sim W c ∧ vs.length = ps.length ∧ LocR W c (L2.start N vs) σ ∧ End W (fun cls d _ H => E cls d H) [] c (Rep W) Q (M.bind (xec C body σ) flowV c.h)
theorem body_ok {W : Wd} {g : SCtx} {C : Orc} {k : Nat} {fd : FD} {D : DD} {f : Addr} {cdv : Value} (T : TopOk W g.cons g.fns g.free) (O : OrcOk W k C g.fns) (sc : FnScope D.N D.ps (defScope D.st)) (cmp : ∃ k, cSs k { g with N := D.N, sc := defScope D.st, st := (defScope D.st).names } (defBody D.st) = some fd.body) :
    ∀ (A : Around) (outer : List Env) (s : Shared) (H : Hp) (vs : List V) (Q : VK) (E : XK), Room k (A.deeper (envOfC D.qual (defScope D.st) s.heap.objs.size f cdv)) → spB W C fd.body D.N D.ps vs H Q E →
      ∃ t, PSs (cxOf (L2.CX W.P W.w) W.P W.w W.K W.mg W.base D.N D.qual (defScope D.st) f cdv A outer s H E) (defBody D.st) t ∧ t { nx := fun _ H' => Q .non H', rt := Q } (L2.start D.N vs) H := by
  rintro A outer s H vs Q E hr ⟨c, σ, rfl, sim, hl, l, en⟩
  obtain ⟨m, hm⟩ := cmp
  have K : CtxOk W (fun cls d _ H => E cls d H) k (cxOf (L2.CX W.P W.w) W.P W.w W.K W.mg W.base D.N D.qual (defScope D.st) f cdv A outer s c.H E) := ⟨rfl, rfl, rfl, rfl, rfl, rfl, hr, takes_of rfl rfl rfl rfl, sc.nd⟩
  have st : StatOk (cxOf (L2.CX W.P W.w) W.P W.w W.K W.mg W.base D.N D.qual (defScope D.st) f cdv A outer s c.H E) { g with N := D.N, sc := defScope D.st, st := (defScope D.st).names } := by
    refine ⟨rfl, rfl, fun x h => ⟨?_, .inl rfl⟩⟩
    unfold canSt at h
    show (defScope D.st).names.lookup x = some .local ∨ (defScope D.st).names.lookup x = some .cell
    split at h
    · exact .inl (by assumption)
    · exact .inr (by assumption)
    · cases h
  refine ⟨_, pss_w, ?_⟩
  refine (cS_all (W := W) (C := C) (m := k) T O m).2 { g with N := D.N, sc := defScope D.st, st := (defScope D.st).names } _ _ rfl rfl rfl K st (passes_of rfl) (defBody D.st) fd.body hm c (L2.start D.N vs) σ _ sim l ?_
  cases q : xec C fd.body σ c.h with
  | bad => unfold M.bind at en; rw [q] at en; exact en
  | exc k ks xs h' =>
    unfold M.bind at en
    rw [q] at en
    exact fun ρ' H' d fs S' => en ρ' H' d fs
  | ok fl h' =>
    unfold M.bind at en
    rw [q] at en
    cases fl with
    | nx σ' => exact fun ρ' H' S' s' x' l' => en ρ' H' .non s' x' .non
    | rt v => exact en
    | bk σ' => exact en.elim
    | ct σ' => exact en.elim
theorem fn_snd {W : Wd} {T : Tab} {g : SCtx} (top : TopOk W g.cons g.fns g.free) {ds : List DD} (facts : ∀ f fd, T.fns[f]? = some fd → ∃ D, FnFact W g f fd D) : ∀ k f, FnR W.P W.w W.K W.mg W.base (L2.CX W.P W.w) k (W.fnA f) (spI W (run T k) f)
  | 0, f => fun A outer s H us vs Q E hr e0 r ⟨c, args, _, _, _, en⟩ => en.elim
  | k + 1, f => by
    have O : OrcOk W k (run T k) g.fns := fun Wx X K x f hf args as p pos h1 h2 h3 h4 h5 => by
      obtain ⟨m1, m2⟩ := top.fn x f hf
      exact call_snd K (fn_snd (ds := ds) top facts k f) h1 h2 h3 h4 h5 m1 m2
    cases hf : T.fns[f]? with
    | none =>
      intro A outer s H us vs Q E hr e0 r ⟨c, args, _, _, _, en⟩
      have z : run T (k + 1) f args = M.bad := by unfold run; rw [hf]
      rw [z] at en
      exact en.elim
    | some fd =>
      obtain ⟨D, F⟩ := facts f fd hf
      obtain ⟨oc, od, dV, kV, doc, pm, an, cdv, ct, osl, lk, hcd, bd⟩ := F.lk
      have body := body_ok (k := k) (fd := fd) (D := D) (f := W.fnA f) (cdv := cdv) top O F.sc F.cmp
      have hrun : ∀ args, run T (k + 1) f args = (match startL fd args with | some σ => M.bind (xec (run T k) fd.body σ) flowV | none => M.bad) := fun args => by rw [run] <;> simp only [hf] <;> cases startL fd args <;> rfl
      have hnp := F.np
      cases hs : fd.star with
      | false =>
        rw [hs] at bd hnp
        have bd : ∀ us : List Value, us.length = D.ps.length → _ := bd
        have G : FnOk W.P W.w W.K W.mg W.base (L2.CX W.P W.w) (k + 1) (W.fnA f) _ D.ps (spB W (run T k) fd.body D.N D.ps) := fn_of lk hcd F.sc (fun vs H Q E ⟨_, _, _, _, hl, _⟩ => hl) body
        refine (FnOk.raw G (Binds.all bd) .nil).imp fun vs H Q E ⟨c, args, hc, sim, ra, en⟩ => ?_
        rw [List.append_nil, hrun] at *
        cases q : startL fd args with
        | none => rw [q] at en; exact en.elim
        | some σ =>
          rw [q] at en
          unfold startL at q
          rw [hs, if_neg (by decide)] at q
          split at q
          · rename_i hl
            cases q
            have h1 := ra.length
            have h2 : vs.length = D.ps.length := by rw [h1, hl]; simpa using hnp.symm
            refine ⟨c, _, hc, sim, h2, ?_, en⟩
            unfold L2.start
            refine Reps.locR ra _ _ ?_
            have h3 := F.nl
            have h4 : D.ps.length ≤ D.N.length := by
              have := congrArg List.length F.sc.pre
              rw [List.length_take] at this
              omega
            omega
          · cases q
      | true =>
        rw [hs] at bd hnp
        obtain ⟨ps, pv, hps, bd⟩ := bd
        have hsc : FnScope D.N (ps ++ [pv]) (defScope D.st) := by rw [← hps]; exact F.sc
        have G := StX.fn_star (sp := spB W (run T k) fd.body D.N D.ps) lk hcd hsc StX.cxUp bd body
        refine FnR.imp G fun vs H Q E ⟨c, args, hc, sim, ra, en⟩ => ?_
        rw [hrun] at en
        cases q : startL fd args with
        | none => rw [q] at en; exact en.elim
        | some σ =>
          rw [q] at en
          unfold startL at q
          rw [hs, if_pos rfl] at q
          split at q
          · rename_i hl
            cases q
            have h1 := ra.length
            have hp2 : ps.length = fd.np := by
              have := congrArg List.length hps
              rw [List.length_append, hnp] at this
              simp at this
              omega
            refine ⟨vs.take fd.np, vs.drop fd.np, (List.take_append_drop _ _).symm, by rw [List.length_take, hp2]; omega, by rw [List.length_drop, line_eq]; omega, fun p hp => ?_⟩
            subst hc
            have x : Ext c { c with H := upd c.H p (.tup (vs.drop fd.np)) } := Ext.new sim hp
            refine ⟨{ c with H := upd c.H p (.tup (vs.drop fd.np)) }, _, rfl, sim.new hp, by rw [hps, List.length_append, List.length_append, List.length_take, hp2]; simp; omega, ?_, End.after x en⟩
            have e1 : (args.take fd.np).map some ++ (some (AV.tup (args.drop fd.np)) :: List.replicate (fd.nl - fd.np - 1) none) = (args.take fd.np ++ [AV.tup (args.drop fd.np)]).map some ++ List.replicate (fd.nl - fd.np - 1) none := by simp
            rw [e1]
            unfold L2.start
            refine Reps.locR (((ra.take fd.np).to x).append (.cons (Rep.newTup sim hp (ra.drop fd.np)) .nil)) _ _ ?_
            have h3 := F.nl
            have h4 : D.ps.length ≤ D.N.length := by
              have := congrArg List.length F.sc.pre
              rw [List.length_take] at this
              omega
            have h5 : D.ps.length = fd.np + 1 := by simpa using hnp
            simp only [List.length_append, List.length_take, List.length_singleton]
            omega
          · cases q
end NT
set_option linter.all false
set_option maxRecDepth 100000
set_option autoImplicit false
namespace NT
open PySem PySem.Spec PyProof.Rows L2
/-- a def as it stands behind the top -/
structure DefIn (K : PySem.W.Frag) (D : DD) (f : Addr) : Prop where
  lk : ∃ (oc : Value) (od : Option Addr) (kV doc pm : Value) (an : Option Addr) (cdv ct : Value) (osl : Array (Option Value)),
    K.lookup f = some ⟨oc, od, .func (PySem.W.fnOf D.name D.qual (defArgs D.st) (defBody D.st) (defScope D.st) .none kV doc pm an cdv ct), osl⟩ ∧ PySem.W.codeIn K cdv D.qual = true
  kp : PySem.W.keepIn K (.ref f) = true
theorem defIn_mk {K : PySem.W.Frag} {D : DD} {f : Addr} {oc : Value} {od : Option Addr} {kV doc pm : Value} {an : Option Addr} {cdv ct : Value} {osl : Array (Option Value)}
    (l : K.lookup f = some ⟨oc, od, .func (PySem.W.fnOf D.name D.qual (defArgs D.st) (defBody D.st) (defScope D.st) .none kV doc pm an cdv ct), osl⟩) (c : PySem.W.codeIn K cdv D.qual = true) (k : PySem.W.keepIn K (.ref f) = true) : DefIn K D f := ⟨⟨oc, od, kV, doc, pm, an, cdv, ct, osl, l, c⟩, k⟩
def BindN (D : DD) : Prop := ∀ (kV doc pm : Value) (an : Option Addr) (cdv ct : Value) (us : List Value), us.length = D.ps.length → bindArgs (PySem.W.fnOf D.name D.qual (defArgs D.st) (defBody D.st) (defScope D.st) .none kV doc pm an cdv ct) ⟨us, []⟩ = pure (D.ps.zip us)
/-- what is checked of a def by its text alone -/
structure Stat (g : SCtx) (fd : FD) (D : DD) : Prop where
  sc : FnScope D.N D.ps (defScope D.st)
  nl : fd.nl = D.N.length
  np : D.ps.length = fd.np
  star : fd.star = false
  cmp : ∃ k, cSs k { g with N := D.N, sc := defScope D.st, st := (defScope D.st).names } (defBody D.st) = some fd.body
  bd : BindN D
theorem Stat.fact {W : Wd} {g : SCtx} {fd : FD} {D : DD} {f : Nat} (s : Stat g fd D) (h : DefIn W.K D (W.fnA f)) : FnFact W g f fd D := by
  obtain ⟨oc, od, kV, doc, pm, an, cdv, ct, osl, lk, hcd⟩ := h.lk
  refine ⟨s.sc, s.nl, by rw [s.np, s.star]; rfl, s.cmp, oc, od, .none, kV, doc, pm, an, cdv, ct, osl, lk, hcd, ?_⟩
  rw [s.star, if_neg (by decide)]
  exact s.bd kV doc pm an cdv ct
def spL (K : PySem.W.Frag) : Sp := fun vs H Q _ => ∃ (a : Addr) (ns : List Int), vs = [.ref a] ∧ ns.length ≤ 63 ∧ (∀ z ∈ ns, Builtin.Int.intBits z ≤ 1048576) ∧ SqL K H a (ns.map V.int) ∧ ∀ H', Q (.bl true) H'
theorem reps_ints {W : Wd} {c : Cf} : ∀ ns : List Int, Reps W c (ns.map V.int) (ns.map AV.int)
  | [] => .nil
  | n :: ns => .cons (.int n) (reps_ints ns)
theorem cxF {P : Program} {w : World} {H : Hp} {s : Shared} {e : Value} {s' : Shared} (h : L2.CX P w [] H s (fun _ _ _ => False) e s') : False := by
  obtain ⟨_, _, _, _, _, _, _, _, _, _, _, _, z⟩ := h
  exact z
theorem law_walk {l : PySem.W.OpenLaw} {q : Program} {loose : List Str} {XP : (Str → Option Value) → Heap → Prop} {YP : World → Heap → Prop} {d : DefRec} {K : Params → PySem.W.Frag} {T : Tab} {g : SCtx} {x : Str} {k fl : Nat} {fd : FD} {D : DD}
    (hn : l.most = some 63) (hdf : d.params.defaults = []) (hr : Room (k + 1) callerA) (hY : ∀ (w : World) (h : Heap), YP w h → (K w.params).In h)
    (hT : T.fns[fl]? = some fd) (hps : D.ps = [x]) (S : Stat g fd D)
    (facts : ∀ (w : World) (mg : Str → Option Value) (fa : Addr) (h : Heap), (K w.params).In h → h.Ns mainGlobals mg → mg d.name = some (.ref fa) → ∃ (clsA fnA : Nat → Addr) (nm : Nat → Str), fnA fl = fa ∧ DefIn (K w.params) D fa ∧
      ∀ base, TopOk ⟨l.prog, w, K w.params, mg, base, clsA, fnA, nm⟩ g.cons g.fns g.free ∧ ∀ f fd, T.fns[f]? = some fd → ∃ D, FnFact ⟨l.prog, w, K w.params, mg, base, clsA, fnA, nm⟩ g f fd D)
    (law : ∀ ns : List Int, ns.length ≤ 63 → (∀ z ∈ ns, Builtin.Int.intBits z ≤ 1048576) → ∃ h', run T (k + 1) fl [.lst (ns.map .int)] [] = .ok (.bl true) h') :
    PySem.W.WalkO q loose XP YP l.row.toRowW d [] (fun f vs => PySem.call f vs) := by
  refine L2.walk_ofB (n := 63) (k := k + 1) (x := x) (CX := fun w => L2.CX l.prog w) (sp := fun w => spL (K w.params)) hn (by decide) hdf hr hY (fun w mg fa h KX G hmg => ?_) (fun w H a ns hl hb _ hS => ⟨a, ns, rfl, hl, hb, hS, fun _ => rfl⟩) fun w H s e s' z => cxF z
  obtain ⟨clsA, fnA, nm, hfa, hD, hall⟩ := facts w mg fa h KX G hmg
  obtain ⟨oc, od, kV, doc, pm, an, cdv, ct, osl, lk, hcd⟩ := hD.lk
  refine ⟨PySem.W.fnOf D.name D.qual (defArgs D.st) (defBody D.st) (defScope D.st) .none kV doc pm an cdv ct, fun s u => .of_eq (by have z := S.bd kV doc pm an cdv ct [u] (by rw [hps]; rfl); rw [hps] at z; exact z), fun base hKb hGb => ?_⟩
  obtain ⟨top, fs⟩ := hall base
  have O : OrcOk ⟨l.prog, w, K w.params, mg, base, clsA, fnA, nm⟩ k (run T k) g.fns := fun Wx X Kx x f hf args as p pos h1 h2 h3 h4 h5 => by
    obtain ⟨m1, m2⟩ := top.fn x f hf
    exact call_snd Kx (fn_snd (ds := []) top fs k f) h1 h2 h3 h4 h5 m1 m2
  have body := body_ok (W := ⟨l.prog, w, K w.params, mg, base, clsA, fnA, nm⟩) (k := k) (fd := fd) (D := D) (f := fa) (cdv := cdv) top O S.sc S.cmp
  have G : FnOk l.prog w (K w.params) mg base (L2.CX l.prog w) (k + 1) fa _ D.ps (spB ⟨l.prog, w, K w.params, mg, base, clsA, fnA, nm⟩ (run T k) fd.body D.N D.ps) := fn_of lk hcd S.sc (fun vs H Q E ⟨_, _, _, _, hl, _⟩ => hl) body
  rw [hps] at G
  refine G.imp fun vs H Q E ⟨a, ns, hv, hl, hb, hS, hq⟩ => ?_
  subst hv
  obtain ⟨h', hrun⟩ := law ns hl hb
  have hst : startL fd [AV.lst (ns.map .int)] = some ([some (AV.lst (ns.map .int))] ++ List.replicate (fd.nl - fd.np) none) := by
    unfold startL
    have h1 : fd.np = 1 := by rw [← S.np, hps]; rfl
    rw [S.star, if_neg (by decide), h1]
    rfl
  have hrun2 : M.bind (xec (run T k) fd.body ([some (AV.lst (ns.map .int))] ++ List.replicate (fd.nl - fd.np) none)) flowV [] = .ok (.bl true) h' := by
    rw [← hrun, run]
    simp only [hT, hst]
  refine ⟨⟨[], [], H, []⟩, _, rfl, ⟨rfl, fun _ _ _ _ _ h => by simp at h, fun _ _ _ h => by simp at h, fun _ h => by cases h⟩, rfl, ?_, by rw [hrun2]; exact fun ρ' H' v _ _ r => by cases r; exact hq H'⟩
  refine Reps.locR (vs := [V.ref a]) (xs := [AV.lst (ns.map .int)]) (.cons (.lst ?_ (reps_ints ns)) .nil) _ _ ?_
  · rcases hS with hS | hS
    · exact .inl ⟨fun lv => by rcases lv with z | ⟨n, o, z, _⟩; · cases z
                               · simp at z, hS⟩
    · exact .inr hS
  · have h3 := S.nl
    have h4 : D.ps.length ≤ D.N.length := by
      have := congrArg List.length S.sc.pre
      rw [List.length_take] at this
      omega
    have h5 := S.np
    rw [hps] at h4 h5
    simp at h4 h5 ⊢
    omega

/-! ### the facts of a law's text, by lists -/
def All2 {α : Type} (P : Nat → α → Prop) : Nat → List α → Prop
  | _, [] => True
  | i, a :: r => P i a ∧ All2 P (i + 1) r
theorem All2.get {α : Type} {P : Nat → α → Prop} : ∀ {l : List α} {i k : Nat} {a : α}, All2 P i l → l[k]? = some a → P (i + k) a
  | [], _, _, _, _, e => by simp at e
  | x :: r, i, 0, a, h, e => by simp at e; subst e; exact h.1
  | x :: r, i, k + 1, a, h, e => by
    have := All2.get h.2 (k := k) (a := a) (by simpa using e)
    rw [show i + (k + 1) = i + 1 + k by omega]; exact this
theorem mem_of_lookup' {α : Type} : ∀ {l : List (Str × α)} {x : Str} {a : α}, l.lookup x = some a → (x, a) ∈ l
  | [], _, _, h => by cases h
  | (y, b) :: r, x, a, h => by
    simp only [List.lookup] at h
    split at h
    · rename_i e; cases h; rw [beq_iff_eq.mp e]; exact List.mem_cons_self
    · exact List.mem_cons_of_mem _ (mem_of_lookup' h)
def AllP {α : Type} (P : α → Prop) : List α → Prop
  | [] => True
  | a :: r => P a ∧ AllP P r
theorem AllP.mem {α : Type} {P : α → Prop} : ∀ {l : List α} {a : α}, AllP P l → a ∈ l → P a
  | x :: r, a, h, m => by
    rcases List.mem_cons.mp m with z | z
    · rw [z]; exact h.1
    · exact AllP.mem h.2 z
/-- a constant of the module in the written part -/
def ConIn (K : PySem.W.Frag) (x : Str) : AV → Prop
  | .int i => ∃ t, PySem.W.nsIn K mainGlobals x = some (some (.int i t))
  | .str s => ∃ t, PySem.W.nsIn K mainGlobals x = some (some (.str s t))
  | .tup xs => ∃ (p : Addr) (o : Obj) (its : Array Value) (n : Nat) (ss : List Str), xs = ss.map .str ∧ PySem.W.nsIn K mainGlobals x = some (some (.ref p)) ∧ K.lookup p = some o ∧ o.cls = .type "tuple" ∧ o.data = .seq its n ∧ its.size ≤ sizeLine ∧ Vals (ss.map V.str) its.toList
  | _ => False
theorem con_tup {K : PySem.W.Frag} {x : Str} {p : Addr} {dd : Option Addr} {its : Array Value} {n : Nat} {sl : Array (Option Value)} (ss : List Str) (h1 : PySem.W.nsIn K mainGlobals x = some (some (.ref p))) (h2 : K.lookup p = some ⟨.type "tuple", dd, .seq its n, sl⟩) (h5 : its.size ≤ sizeLine) (h6 : Vals (ss.map V.str) its.toList) :
    ConIn K x (.tup (ss.map .str)) := ⟨p, _, its, n, ss, rfl, h1, h2, rfl, rfl, h5, h6⟩
theorem con_str {K : PySem.W.Frag} {x s : Str} {t : Tok} (h : PySem.W.nsIn K mainGlobals x = some (some (.str s t))) : ConIn K x (.str s) := ⟨t, h⟩
theorem con_int {K : PySem.W.Frag} {x : Str} {s : Int} {t : Tok} (h : PySem.W.nsIn K mainGlobals x = some (some (.int s t))) : ConIn K x (.int s) := ⟨t, h⟩
theorem reps_strs {W : Wd} {c : Cf} : ∀ ns : List Str, Reps W c (ns.map V.str) (ns.map AV.str)
  | [] => .nil
  | n :: ns => .cons (.str n) (reps_strs ns)
theorem ConIn.ok {W : Wd} {h : Heap} (KX : W.K.In h) (G : h.Ns mainGlobals W.mg) {x : Str} {v : AV} (c : ConIn W.K x v) : ∃ u vv, W.mg x = some u ∧ RelV vv u ∧ ∀ c, Rep W c vv v := by
  cases v with
  | int i => obtain ⟨t, h1⟩ := c; exact ⟨_, .int i, PySem.W.mg_of KX G h1, ⟨t, rfl⟩, fun _ => .int i⟩
  | str s => obtain ⟨t, h1⟩ := c; exact ⟨_, .str s, PySem.W.mg_of KX G h1, ⟨t, rfl⟩, fun _ => .str s⟩
  | tup xs =>
    obtain ⟨p, o, its, n, ss, rfl, h1, h2, h3, h4, h5, h6⟩ := c
    exact ⟨_, .ref p, PySem.W.mg_of KX G h1, rfl, fun _ => .tup (.inr ⟨o, its, n, h2, h3, h4, h5, h6⟩) (reps_strs ss)⟩
  | _ => exact c.elim
theorem top_of {W : Wd} {h : Heap} (KX : W.K.In h) (G : h.Ns mainGlobals W.mg) {cons : List (Str × AV)} {fns : List (Str × Nat)} {free : List Str} (hc : AllP (fun p => ConIn W.K p.1 p.2) cons)
    (hf : AllP (fun p : Str × Nat => PySem.W.nsIn W.K mainGlobals p.1 = some (some (.ref (W.fnA p.2))) ∧ PySem.W.keepIn W.K (.ref (W.fnA p.2)) = true) fns) (hn : AllP (fun x => PySem.W.nsIn W.K mainGlobals x = some none) free) : TopOk W cons fns free where
  con := fun x v e => (hc.mem (mem_of_lookup' e)).ok KX G
  fn := fun x f e => by
    obtain ⟨h1, h2⟩ := hf.mem (mem_of_lookup' e)
    exact ⟨PySem.W.mg_of KX G h1, h2⟩
  no := fun x e => PySem.W.mg_none_of KX G (hn.mem e)
end NT
set_option linter.all false
set_option maxRecDepth 100000
set_option autoImplicit false
namespace NT
open PySem
/-! ### running -/
def Out.bnd {α β : Type} (o : Out α) (f : α → M β) : Out β := match o with
  | .ok a h => f a h
  | .exc c ks vs h => .exc c ks vs h
  | .bad => .bad
theorem Out.bnd_congr {α β : Type} {o o' : Out α} {f : α → M β} (h : o = o') : Out.bnd o f = Out.bnd o' f := by rw [h]
section
variable {α β : Type}
theorem bind_app (m : M α) (f : α → M β) (h : AHeap) : M.bind m f h = Out.bnd (m h) f := by
  unfold M.bind Out.bnd; cases m h <;> rfl
theorem bnd_ok (a : α) (h : AHeap) (f : α → M β) : Out.bnd (.ok a h) f = f a h := rfl
theorem bnd_exc (c : Nat) (ks : List Nat) (vs : List AV) (h : AHeap) (f : α → M β) : Out.bnd (.exc c ks vs h) f = .exc c ks vs h := rfl
theorem pure_app (a : α) (h : AHeap) : M.pure a h = .ok a h := rfl
theorem of_some (a : α) (h : AHeap) : M.of (some a) h = .ok a h := rfl
theorem ok1_true (a : α) (h : AHeap) : ok1 true a h = .ok a h := rfl
theorem guard_true (h : AHeap) : M.guard true h = .ok () h := rfl
theorem ok1_of {k : Bool} (hk : k = true) (a : α) (h : AHeap) : ok1 k a h = .ok a h := by rw [hk]; rfl
theorem ite_app {c : Prop} [Decidable c] (m m' : M α) (h : AHeap) : (if c then m else m') h = if c then m h else m' h := by split <;> rfl
end
section
variable (C : Orc) (σ : Loc) (h : AHeap) (a b c es t : E)
theorem ev_cst (v : AV) : ev C σ (.cst v) h = .ok v h := rfl
theorem ev_var (i : Nat) : ev C σ (.var i) h = M.of (σ[i]?.getD none) h := rfl
theorem ev_bin (op : Operator) : ev C σ (.bin op a b) h = Out.bnd (ev C σ a h) fun x => M.bind (ev C σ b) fun y => binV op x y := bind_app _ _ _
theorem ev_neg : ev C σ (.neg a) h = Out.bnd (ev C σ a h) negV := bind_app _ _ _
theorem ev_cmp (op : CmpOp) : ev C σ (.cmp op a b) h = Out.bnd (ev C σ a h) fun x => M.bind (ev C σ b) fun y => cmpV op x y := bind_app _ _ _
theorem ev_chn (op op' : CmpOp) : ev C σ (.chn op op' a b c) h = Out.bnd (ev C σ a h) fun x => M.bind (ev C σ b) fun y => M.bind (cmpV op x y) fun r => M.bind (asB r) fun k =>
      if k = true then M.bind (ev C σ c) fun z => cmpV op' y z else M.pure (.bl false) := bind_app _ _ _
theorem ev_and : ev C σ (.and a b) h = Out.bnd (ev C σ a h) fun x => M.bind (asB x) fun k => if k = true then ev C σ b else M.pure (.bl false) := bind_app _ _ _
theorem ev_or : ev C σ (.or a b) h = Out.bnd (ev C σ a h) fun x => M.bind (asB x) fun k => if k = true then M.pure (.bl true) else ev C σ b := bind_app _ _ _
theorem ev_notv : ev C σ (.notv a) h = Out.bnd (ev C σ a h) fun x => M.bind (asB x) fun k => M.pure (.bl (!k)) := bind_app _ _ _
theorem ev_ifx : ev C σ (.ifx t a b) h = Out.bnd (evT C σ t h) fun k => if k = true then ev C σ a else ev C σ b := bind_app _ _ _
theorem ev_tup : ev C σ (.tup es) h = Out.bnd (evs C σ es h) fun xs => ok1 (decide (xs.length ≤ line)) (.tup xs) := bind_app _ _ _
theorem ev_lst : ev C σ (.lst es) h = Out.bnd (evs C σ es h) fun xs => ok1 (decide (xs.length ≤ line)) (.lst xs) := bind_app _ _ _
theorem ev_mlst : ev C σ (.mlst es) h = Out.bnd (evs C σ es h) fun xs => if xs.length ≤ line then fun h => .ok (.ref h.length) (h ++ [.lst xs]) else M.bad := bind_app _ _ _
theorem ev_sub : ev C σ (.sub a b) h = Out.bnd (ev C σ a h) fun x => M.bind (ev C σ b) fun y => subV x y := bind_app _ _ _
theorem ev_slc : ev C σ (.slc a b c) h = Out.bnd (ev C σ a h) fun x => M.bind (ev C σ b) fun l => M.bind (asI l) fun l => M.bind (ev C σ c) fun u => M.bind (asI u) fun u => slcV x (some l) (some u) := bind_app _ _ _
theorem ev_slcL : ev C σ (.slcL a b) h = Out.bnd (ev C σ a h) fun x => M.bind (ev C σ b) fun l => M.bind (asI l) fun l => slcV x (some l) none := bind_app _ _ _
theorem ev_slcH : ev C σ (.slcH a b) h = Out.bnd (ev C σ a h) fun x => M.bind (ev C σ b) fun u => M.bind (asI u) fun u => slcV x none (some u) := bind_app _ _ _
theorem ev_call (f : Nat) : ev C σ (.call f es) h = Out.bnd (evs C σ es h) fun xs => C f xs := bind_app _ _ _
theorem ev_blt (bb : B) : ev C σ (.blt bb es) h = Out.bnd (evs C σ es h) fun xs => bltV bb xs := bind_app _ _ _
theorem ev_bm (m : BM) : ev C σ (.bm m a es) h = Out.bnd (ev C σ a h) fun x => M.bind (M.guard (bmTy m x)) fun _ => M.bind (evs C σ es) fun xs => bmV m x xs := bind_app _ _ _
/-- one turn of a comprehension -/
def turn (is vs : List Nat) (cond elt : E) (x : AV) : M (Option AV) := noexc (M.bind (bindT is x (wipeL σ vs)) fun σ2 => M.bind (evT C σ2 cond) fun k => if k = true then M.bind (ev C σ2 elt) fun y => M.pure (some y) else M.pure none)
theorem ev_lc (is vs : List Nat) : ev C σ (.lc is vs t a b) h = Out.bnd (evI C σ t h) fun xs => M.bind (lcL (turn C σ is vs a b) xs) fun ys => ok1 (decide (ys.length ≤ line)) (.lst ys) := bind_app _ _ _
theorem evT_and : evT C σ (.and a b) h = Out.bnd (evT C σ a h) fun k => if k = true then evT C σ b else M.pure false := bind_app _ _ _
theorem evT_or : evT C σ (.or a b) h = Out.bnd (evT C σ a h) fun k => if k = true then M.pure true else evT C σ b := bind_app _ _ _
theorem evT_not : evT C σ (.not a) h = Out.bnd (evT C σ a h) fun k => M.pure (!k) := bind_app _ _ _
theorem evT_cmp (op : CmpOp) : evT C σ (.cmp op a b) h = Out.bnd (ev C σ a h) fun x => M.bind (ev C σ b) fun y => M.bind (cmpV op x y) asB := bind_app _ _ _
theorem evT_chn (op op' : CmpOp) : evT C σ (.chn op op' a b c) h = Out.bnd (ev C σ a h) fun x => M.bind (ev C σ b) fun y => M.bind (cmpV op x y) fun r => M.bind (asB r) fun k =>
      if k = true then M.bind (ev C σ c) fun z => M.bind (cmpV op' y z) asB else M.pure false := bind_app _ _ _
theorem evT_tv : evT C σ (.tv a) h = Out.bnd (ev C σ a h) truV := bind_app _ _ _
theorem evs_nil : evs C σ .nil h = .ok [] h := rfl
theorem evs_cons : evs C σ (.cons a b) h = Out.bnd (ev C σ a h) fun x => M.bind (evs C σ b) fun xs => M.pure (x :: xs) := bind_app _ _ _
theorem evs_starL : evs C σ (.star a b) h = Out.bnd (ev C σ a h) fun x => (match x with
    | .lst ys => M.bind (evs C σ b) fun xs => M.pure (ys ++ xs)
    | .tup ys => M.bind (evs C σ b) fun xs => M.pure (ys ++ xs)
    | _ => M.bad) := bind_app _ _ _
theorem evI_rng : evI C σ (.rng a b) h = Out.bnd (ev C σ a h) fun x => M.bind (ev C σ b) fun y => (match x, y with
    | .int i, .int j => ok1 (rngOk i j) (rngL i j)
    | _, _ => M.bad) := bind_app _ _ _
theorem evI_zip : evI C σ (.zip a b) h = Out.bnd (ev C σ a h) fun x => M.bind (ev C σ b) fun y => M.of (zipV x y) := bind_app _ _ _
theorem evI_itv : evI C σ (.itv a) h = Out.bnd (ev C σ a h) fun x => M.of (items x) := bind_app _ _ _
variable (s s' : S)
noncomputable def seqF (C : Orc) (b : S) : Flow → M Flow
  | .nx σ' => xec C b σ'
  | .rt v => M.pure (.rt v)
  | .bk σ' => M.pure (.bk σ')
  | .ct σ' => M.pure (.ct σ')
theorem xec_skip : xec C .skip σ h = .ok (.nx σ) h := rfl
theorem xec_seq : xec C (.seq s s') σ h = Out.bnd (xec C s σ h) (seqF C s') := by
  show M.bind _ _ _ = _
  rw [bind_app]
  unfold Out.bnd
  cases xec C s σ h with
  | ok f h' => cases f <;> rfl
  | exc _ _ _ _ => rfl
  | bad => rfl
theorem seqF_nx (σ' : Loc) : seqF C s' (.nx σ') h = xec C s' σ' h := rfl
theorem seqF_rt (v : AV) : seqF C s' (.rt v) h = .ok (.rt v) h := rfl
theorem seqF_bk (σ' : Loc) : seqF C s' (.bk σ') h = .ok (.bk σ') h := rfl
theorem seqF_ct (σ' : Loc) : seqF C s' (.ct σ') h = .ok (.ct σ') h := rfl
theorem xec_expr : xec C (.expr a) σ h = Out.bnd (ev C σ a h) fun _ => M.pure (.nx σ) := bind_app _ _ _
theorem xec_ret : xec C (.ret a) σ h = Out.bnd (ev C σ a h) fun v => M.pure (.rt v) := bind_app _ _ _
theorem xec_asg (i : Nat) : xec C (.asg i a) σ h = Out.bnd (ev C σ a h) fun v => M.pure (.nx (σ.set i (some v))) := bind_app _ _ _
theorem xec_unp (is : List Nat) : xec C (.unp is a) σ h = Out.bnd (ev C σ a h) fun v => M.bind (bindT is v σ) fun σ' => M.pure (.nx σ') := bind_app _ _ _
theorem xec_par (is : List Nat) : xec C (.par is es) σ h = Out.bnd (evs C σ es h) fun xs => M.bind (M.of (setAll is xs σ)) fun σ' => M.pure (.nx σ') := bind_app _ _ _
theorem xec_setSub : xec C (.setSub a b c) σ h = Out.bnd (ev C σ c h) fun x => M.bind (ev C σ a) fun y => M.bind (ev C σ b) fun z => M.bind (setSubV y z x) fun _ => M.pure (.nx σ) := bind_app _ _ _
theorem xec_aug (i : Nat) (op : Operator) : xec C (.aug i op a) σ h = Out.bnd (lget σ i h) fun x => M.bind (ev C σ a) fun y => M.bind (augV op x y) fun z => M.pure (.nx (σ.set i (some z))) := bind_app _ _ _
theorem xec_ife : xec C (.ife t s s') σ h = Out.bnd (evT C σ t h) fun k => if k = true then xec C s σ else xec C s' σ := bind_app _ _ _
/-- one turn of a for -/
noncomputable def forB (C : Orc) (ts : List Nat) (b : S) (x : AV) (σ' : Loc) : M Flow := M.bind (bindT ts x σ') fun σ2 => xec C b σ2
theorem forB_app (ts : List Nat) (b : S) (x : AV) (σ' : Loc) : forB C ts b x σ' h = Out.bnd (bindT ts x σ' h) fun σ2 => xec C b σ2 := bind_app _ _ _
theorem xec_for (ts : List Nat) : xec C (.for_ ts a s) σ h = Out.bnd (evI C σ a h) fun xs => forL (forB C ts s) xs σ := bind_app _ _ _
theorem xec_whl : xec C (.whl t s) σ h = whl (fun σ' => evT C σ' t) (fun σ' => xec C s σ') σ h := rfl
theorem xec_brk : xec C .brk σ h = .ok (.bk σ) h := rfl
theorem xec_cnt : xec C .cnt σ h = .ok (.ct σ) h := rfl
end
theorem run_succ {T : Tab} {f : Nat} {fd : FD} (hf : T.fns[f]? = some fd) (n : Nat) (args : List AV) (h : AHeap) {σ : Loc} (hs : startL fd args = some σ) : run T (n + 1) f args h = Out.bnd (xec (run T n) fd.body σ h) flowV := by
  rw [run]
  simp only [hf, hs]
  exact bind_app _ _ _
theorem flowV_nx (σ : Loc) (h : AHeap) : flowV (.nx σ) h = .ok .non h := rfl
theorem flowV_rt (v : AV) (h : AHeap) : flowV (.rt v) h = .ok v h := rfl
theorem bindT_one (i : Nat) (x : AV) (σ : Loc) (h : AHeap) : bindT [i] x σ h = .ok (σ.set i (some x)) h := rfl
theorem bindT_two (i j : Nat) (x y : AV) (σ : Loc) (h : AHeap) : bindT [i, j] (.tup [x, y]) σ h = .ok ((σ.set i (some x)).set j (some y)) h := rfl
/-! ### promises -/
def Rn {α : Type} (o : Out α) (Q : α → AHeap → Prop) : Prop := match o with
  | .ok a h => Q a h
  | _ => False
section
variable {α β : Type} {o : Out α} {f : α → M β} {Q : β → AHeap → Prop} {P P' : α → AHeap → Prop}
theorem Rn.bnd (h : Rn o fun a h' => Rn (f a h') Q) : Rn (Out.bnd o f) Q := by
  cases o <;> first | exact h | exact h.elim
theorem Rn.mono (h : Rn o P) (k : ∀ a h', P a h' → P' a h') : Rn o P' := by
  cases o with
  | ok a h' => exact k a h' h
  | exc _ _ _ _ => exact h
  | bad => exact h
theorem Rn.ok {a : α} {h : AHeap} (q : P a h) : Rn (.ok a h) P := q
theorem Rn.get (h : Rn o P) : ∃ a h', o = .ok a h' ∧ P a h' := by
  cases o with
  | ok a h' => exact ⟨a, h', rfl, h⟩
  | exc _ _ _ _ => exact h.elim
  | bad => exact h.elim
theorem Rn.step (h : Rn o P) (k : ∀ a h', P a h' → Rn (f a h') Q) : Rn (Out.bnd o f) Q := Rn.bnd (h.mono k)
theorem Rn.eq {a : α} {h : AHeap} (e : o = .ok a h) (q : P a h) : Rn o P := by rw [e]; exact q
end
/-- a for by an invariant; what leaves it early is Q -/
theorem rn_for {body : AV → Loc → M Flow} {Q : Flow → AHeap → Prop} (Pv : Nat → Loc → AHeap → Prop) (xs : List AV) (hs : ∀ i x σ h, xs[i]? = some x → Pv i σ h → Rn (body x σ h) fun f h' => match f with
      | .nx σ' => Pv (i + 1) σ' h'
      | .ct σ' => Pv (i + 1) σ' h'
      | .bk σ' => Q (.nx σ') h'
      | .rt v => Q (.rt v) h') (hd : ∀ σ h, Pv xs.length σ h → Q (.nx σ) h) : ∀ σ h, Pv 0 σ h → Rn (forL body xs σ h) Q := by
  have gen : ∀ (k i : Nat) σ h, i + k = xs.length → Pv i σ h → Rn (forL body (xs.drop i) σ h) Q := by
    intro k
    induction k with
    | zero =>
      intro i σ h e p
      have e' : i = xs.length := by omega
      subst e'
      rw [List.drop_length]
      exact hd σ h p
    | succ k ih =>
      intro i σ h e p
      have hi : i < xs.length := by omega
      rw [List.drop_eq_getElem_cons hi]
      show Rn (M.bind _ _ h) Q
      rw [bind_app]
      refine Rn.step (hs i xs[i] σ h (by simp [hi]) p) fun f h' q => ?_
      cases f with
      | nx σ' => exact ih (i + 1) σ' h' (by omega) q
      | ct σ' => exact ih (i + 1) σ' h' (by omega) q
      | bk σ' => exact q
      | rt v => exact q
  intro σ h p
  have := gen xs.length 0 σ h (by omega) p
  rwa [List.drop_zero] at this
/-- a while by a word and a number that falls -/
theorem rn_whl {t : Loc → M Bool} {body : Loc → M Flow} {Q : Flow → AHeap → Prop} (Pv : Loc → AHeap → Prop) (μ : Loc → AHeap → Nat)
    (hs : ∀ σ h, Pv σ h → Rn (t σ h) fun k h1 => if k = true then Rn (body σ h1) fun f h' => (match f with
      | .nx σ' => Pv σ' h' ∧ μ σ' h' < μ σ h
      | .ct σ' => Pv σ' h' ∧ μ σ' h' < μ σ h
      | .bk σ' => Q (.nx σ') h'
      | .rt v => Q (.rt v) h') else Q (.nx σ) h1) : ∀ σ h, Pv σ h → Rn (whl t body σ h) Q := by
  have gen : ∀ (m : Nat) σ h, μ σ h < m → Pv σ h → ∃ n r, whlN t body n σ h = some r ∧ Rn r Q := by
    intro m
    induction m with
    | zero => intro σ h e; omega
    | succ m ih =>
      intro σ h e p
      obtain ⟨k, h1, e1, q⟩ := (hs σ h p).get
      cases k with
      | false =>
        rw [if_neg (by decide)] at q
        exact ⟨1, .ok (.nx σ) h1, by unfold whlN; rw [e1], q⟩
      | true =>
        rw [if_pos rfl] at q
        obtain ⟨f, h2, e2, q2⟩ := q.get
        cases f with
        | nx σ' =>
          obtain ⟨n, r, hn, hr⟩ := ih σ' h2 (by have := q2.2; omega) q2.1
          exact ⟨n + 1, r, by unfold whlN; rw [e1]; simp only [e2]; exact hn, hr⟩
        | ct σ' =>
          obtain ⟨n, r, hn, hr⟩ := ih σ' h2 (by have := q2.2; omega) q2.1
          exact ⟨n + 1, r, by unfold whlN; rw [e1]; simp only [e2]; exact hn, hr⟩
        | bk σ' => exact ⟨1, .ok (.nx σ') h2, by unfold whlN; rw [e1]; simp only [e2], q2⟩
        | rt v => exact ⟨1, .ok (.rt v) h2, by unfold whlN; rw [e1]; simp only [e2], q2⟩
  intro σ h p
  obtain ⟨n, r, hn, hr⟩ := gen (μ σ h + 1) σ h (by omega) p
  rw [whl_of hn]; exact hr
/-- a comprehension by an invariant -/
theorem rn_lc {F : AV → M (Option AV)} {Q : List AV → AHeap → Prop} (Pv : Nat → List AV → AHeap → Prop) (xs : List AV) (hs : ∀ i x acc h, xs[i]? = some x → Pv i acc h → Rn (F x h) fun o h' => Pv (i + 1) (acc ++ consO o []) h')
    (hd : ∀ acc h, Pv xs.length acc h → Q acc h) : ∀ h, Pv 0 [] h → Rn (lcL F xs h) Q := by
  have gen : ∀ (k i : Nat) (acc : List AV) h, i + k = xs.length → Pv i acc h → Rn (lcL F (xs.drop i) h) fun r h' => Q (acc ++ r) h' := by
    intro k
    induction k with
    | zero =>
      intro i acc h e p
      have e' : i = xs.length := by omega
      subst e'
      rw [List.drop_length]
      show Q (acc ++ []) h
      rw [List.append_nil]
      exact hd acc h p
    | succ k ih =>
      intro i acc h e p
      have hi : i < xs.length := by omega
      rw [List.drop_eq_getElem_cons hi]
      show Rn (M.bind _ _ h) _
      rw [bind_app]
      refine Rn.step (hs i xs[i] acc h (by simp [hi]) p) fun o h' q => ?_
      rw [bind_app]
      refine Rn.step (ih (i + 1) _ h' (by omega) q) fun r h2 q2 => ?_
      show Q (acc ++ consO o r) h2
      have z : acc ++ consO o [] ++ r = acc ++ consO o r := by cases o <;> simp [consO]
      rw [← z]; exact q2
  intro h p
  have := gen xs.length 0 [] h (by omega) p
  rwa [List.drop_zero] at this
theorem noexc_rn {α : Type} {m : M α} {h : AHeap} {Q : α → AHeap → Prop} (r : Rn (m h) Q) : Rn (noexc m h) Q := by
  unfold noexc
  cases q : m h with
  | ok a h' => rw [q] at r; exact r
  | exc _ _ _ _ => rw [q] at r; exact r.elim
  | bad => rw [q] at r; exact r
theorem noexc_eq {α : Type} {m : M α} {h h' : AHeap} {a : α} (e : m h = .ok a h') : noexc m h = .ok a h' := by unfold noexc; rw [e]
/-- a comprehension whose turns are told, the heap as it was -/
theorem lcL_map {F : AV → M (Option AV)} {g : AV → AV} {h : AHeap} : ∀ {xs : List AV}, (∀ x ∈ xs, F x h = .ok (some (g x)) h) → lcL F xs h = .ok (xs.map g) h
  | [], _ => rfl
  | x :: xs, hf => by
    show M.bind _ _ h = _
    rw [bind_app, hf x List.mem_cons_self, bnd_ok, bind_app, lcL_map fun y hy => hf y (List.mem_cons_of_mem _ hy)]
    rfl
theorem lcL_filter {F : AV → M (Option AV)} {p : AV → Bool} {g : AV → AV} {h : AHeap} : ∀ {xs : List AV}, (∀ x ∈ xs, F x h = .ok (if p x then some (g x) else none) h) → lcL F xs h = .ok ((xs.filter p).map g) h
  | [], _ => rfl
  | x :: xs, hf => by
    show M.bind _ _ h = _
    rw [bind_app, hf x List.mem_cons_self, bnd_ok, bind_app, lcL_filter fun y hy => hf y (List.mem_cons_of_mem _ hy)]
    cases hp : p x <;> simp [hp, bnd_ok, pure_app, consO]
theorem turn_app (C : Orc) (σ : Loc) (is vs : List Nat) (cond elt : E) (x : AV) (h : AHeap) {o : Option AV} {h' : AHeap}
    (e : (Out.bnd (bindT is x (wipeL σ vs) h) fun σ2 => M.bind (evT C σ2 cond) fun k => if k = true then M.bind (ev C σ2 elt) fun y => M.pure (some y) else M.pure none) = .ok o h') : turn C σ is vs cond elt x h = .ok o h' := by
  unfold turn
  refine noexc_eq ?_
  rw [bind_app]; exact e
theorem turn_rn (C : Orc) (σ : Loc) (is vs : List Nat) (cond elt : E) (x : AV) (h : AHeap) {Q : Option AV → AHeap → Prop}
    (e : Rn (Out.bnd (bindT is x (wipeL σ vs) h) fun σ2 => M.bind (evT C σ2 cond) fun k => if k = true then M.bind (ev C σ2 elt) fun y => M.pure (some y) else M.pure none) Q) : Rn (turn C σ is vs cond elt x h) Q := by
  unfold turn
  refine noexc_rn ?_
  rw [bind_app]; exact e
end NT
set_option linter.all false
set_option maxRecDepth 100000
set_option autoImplicit false
namespace NT
open PySem
/-! ### values: what is told of them when they stand there -/
section
variable (h : AHeap) (i j : Int)
theorem lget_app (σ : Loc) (n : Nat) : lget σ n h = M.of (σ[n]?.getD none) h := rfl
theorem cmp_eqI : cmpV .Eq (.int i) (.int j) h = .ok (.bl (decide (i = j))) h := rfl
theorem cmp_neI : cmpV .NotEq (.int i) (.int j) h = .ok (.bl (!decide (i = j))) h := rfl
theorem cmp_ltI : cmpV .Lt (.int i) (.int j) h = .ok (.bl (decide (i < j))) h := rfl
theorem cmp_leI : cmpV .LtE (.int i) (.int j) h = .ok (.bl (decide (i ≤ j))) h := rfl
theorem cmp_gtI : cmpV .Gt (.int i) (.int j) h = .ok (.bl (decide (j < i))) h := rfl
theorem cmp_geI : cmpV .GtE (.int i) (.int j) h = .ok (.bl (decide (j ≤ i))) h := rfl
theorem cmp_eqB (a b : Bool) : cmpV .Eq (.bl a) (.bl b) h = .ok (.bl (a == b)) h := rfl
theorem cmp_eqS (a b : Str) : cmpV .Eq (.str a) (.str b) h = .ok (.bl (a == b)) h := rfl
theorem cmp_isN (a : AV) : cmpV .Is a .non h = .ok (.bl (match a with | .non => true | _ => false)) h := by cases a <;> rfl
theorem cmp_notN (a : AV) : cmpV .IsNot a .non h = .ok (.bl (match a with | .non => false | _ => true)) h := by cases a <;> rfl
theorem bin_addI : binV .Add (.int i) (.int j) h = .ok (.int (i + j)) h := rfl
theorem bin_subI : binV .Sub (.int i) (.int j) h = .ok (.int (i - j)) h := rfl
theorem bin_mulI : binV .Mult (.int i) (.int j) h = ok1 (mulOk i j) (.int (i * j)) h := rfl
theorem bin_divI : binV .FloorDiv (.int i) (.int j) h = ok1 (divOk j) (.int (i.fdiv j)) h := rfl
theorem bin_modI : binV .Mod (.int i) (.int j) h = ok1 (decide (j ≠ 0)) (.int (i.fmod j)) h := rfl
theorem bin_powI : binV .Pow (.int i) (.int j) h = ok1 (powOk i j) (.int (i ^ j.toNat)) h := rfl
theorem asB_app (b : Bool) : asB (.bl b) h = .ok b h := rfl
theorem asI_app : asI (.int i) h = .ok i h := rfl
theorem tru_bl (b : Bool) : truV (.bl b) h = .ok b h := rfl
theorem blt_abs : bltV .abs [.int i] h = .ok (.int (if i < 0 then -i else i)) h := rfl
theorem blt_int : bltV .int [.int i] h = .ok (.int i) h := rfl
theorem blt_lenL (xs : List AV) : bltV .len [.lst xs] h = .ok (.int xs.length) h := rfl
theorem blt_lenT (xs : List AV) : bltV .len [.tup xs] h = .ok (.int xs.length) h := rfl
theorem blt_lenS (s : Str) : bltV .len [.str s] h = ok1 (decide (s.length ≤ line)) (.int s.length) h := rfl
theorem blt_list (xs : List AV) : bltV .list [.lst xs] h = .ok (.lst xs) h := rfl
theorem blt_listT (xs : List AV) : bltV .list [.tup xs] h = .ok (.lst xs) h := rfl
theorem blt_isinst (a : AV) (T : String) : bltV .isinstance [a, .ty T] h = M.of ((isTy a T).map .bl) h := rfl
theorem blt_all (xs : List AV) : bltV .all [.lst xs] h = M.of ((allB xs).map fun bs => .bl (bs.all id)) h := rfl
theorem blt_any (xs : List AV) : bltV .any [.lst xs] h = M.of ((allB xs).map fun bs => .bl (bs.any id)) h := rfl
theorem sub_L (xs : List AV) : subV (.lst xs) (.int i) h = M.of (L2.atI xs i) h := rfl
theorem sub_T (xs : List AV) : subV (.tup xs) (.int i) h = M.of (L2.atI xs i) h := rfl
end
theorem mulOk_l {i j : Int} (h : i.natAbs < 18446744073709551616) : mulOk i j = true := by simp [mulOk, h]
theorem mulOk_r {i j : Int} (h : j.natAbs < 18446744073709551616) : mulOk i j = true := by simp [mulOk, h]
theorem divOk_s {j : Int} (h : 0 < j) (h2 : j < 1073741824) : divOk j = true := by
  simp only [divOk, Bool.and_eq_true, Bool.or_eq_true, decide_eq_true_eq]; omega
theorem fmod_nn {a b : Int} (h : 0 < b) : 0 ≤ a.fmod b := Int.fmod_nonneg_of_pos a h
theorem fmod_lt {a b : Int} (h : 0 < b) : a.fmod b < b := Int.fmod_lt_of_pos a h
theorem fdiv_nn {a b : Int} (ha : 0 ≤ a) (h : 0 < b) : 0 ≤ a.fdiv b := by
  rw [Int.fdiv_eq_ediv_of_nonneg a (by omega)]; exact Int.ediv_nonneg ha (by omega)

/-! ### the bag -/
structure Bag where
  cs : List Int
  i : Nat
  r : Int
  x : Int
def Bag.Ok (b : Bag) : Prop := 0 ≤ b.r ∧ 0 ≤ b.x ∧ b.x < 2147483648
def bagO (b : Bag) : AObj := .lst [.lst (b.cs.map .int), .int b.i, .int b.r, .int b.x]
section
variable (b : Bag) (hs : AHeap) (v : Int)
theorem bag0 : subV (.ref 0) (.int 0) (bagO b :: hs) = .ok (.lst (b.cs.map .int)) (bagO b :: hs) := rfl
theorem bag1 : subV (.ref 0) (.int 1) (bagO b :: hs) = .ok (.int b.i) (bagO b :: hs) := rfl
theorem bag2 : subV (.ref 0) (.int 2) (bagO b :: hs) = .ok (.int b.r) (bagO b :: hs) := rfl
theorem bag3 : subV (.ref 0) (.int 3) (bagO b :: hs) = .ok (.int b.x) (bagO b :: hs) := rfl
theorem bagS1 (n : Nat) : setSubV (.ref 0) (.int 1) (.int ((n : Int) + 1)) (bagO b :: hs) = .ok () (bagO { b with i := n + 1 } :: hs) := rfl
theorem bagS2 : setSubV (.ref 0) (.int 2) (.int v) (bagO b :: hs) = .ok () (bagO { b with r := v } :: hs) := rfl
theorem bagS3 : setSubV (.ref 0) (.int 3) (.int v) (bagO b :: hs) = .ok () (bagO { b with x := v } :: hs) := rfl
end
structure DP where
  k1 : Int
  m0 : Int
  k2 : Int
  k3 : Int
  m1 : Int
  k4 : Int
  k5 : Int
  m2 : Int
  dv : Int
def DP.Ok (p : DP) : Prop := 0 < p.m0 ∧ p.m0 < 2147483648 ∧ 0 < p.m1 ∧ p.m1 < 2147483648 ∧ 0 < p.m2 ∧ p.m2 < 2147483648 ∧ 0 < p.dv ∧ p.dv < 1073741824
instance (p : DP) : Decidable p.Ok := inferInstanceAs (Decidable (_ ∧ _))
def irDraw (p : DP) : S :=
    .seq (.ife (.and (.cmp .Eq (.sub (.var 0) (.cst (.int 2))) (.cst (.int 0))) (.cmp .Lt (.sub (.var 0) (.cst (.int 1))) (.blt .len (.cons (.sub (.var 0) (.cst (.int 0))) (.nil))))) (.seq (.asg 2 (.sub (.sub (.var 0) (.cst (.int 0))) (.sub (.var 0) (.cst (.int 1)))))
    (.seq (.setSub (.var 0) (.cst (.int 1)) (.bin .Add (.sub (.var 0) (.cst (.int 1))) (.cst (.int 1))))
    (.seq (.ife (.cmp .GtE (.blt .abs (.cons (.var 2) (.nil))) (.bin .Pow (.cst (.int 10)) (.cst (.int 18)))) (.seq (.setSub (.var 0) (.cst (.int 2)) (.blt .abs (.cons (.var 2) (.nil))))
    (.skip)) (.seq (.setSub (.var 0) (.cst (.int 3)) (.bin .Mod (.blt .int (.cons (.bin .Add (.bin .Add (.bin .Mult (.sub (.var 0) (.cst (.int 3))) (.cst (.int p.k1))) (.bin .Mult (.bin .Mod (.blt .int (.cons (.var 2) (.nil))) (.cst (.int p.m0))) (.cst (.int p.k2)))) (.cst (.int p.k3))) (.nil))) (.cst (.int p.m1))))
    (.skip)))
    (.skip)))) (.skip))
    (.seq (.ife (.cmp .Gt (.sub (.var 0) (.cst (.int 2))) (.cst (.int 0))) (.seq (.asg 3 (.bin .Mod (.blt .int (.cons (.sub (.var 0) (.cst (.int 2))) (.nil))) (.var 1)))
    (.seq (.setSub (.var 0) (.cst (.int 2)) (.bin .FloorDiv (.sub (.var 0) (.cst (.int 2))) (.var 1)))
    (.seq (.ret (.var 3))
    (.skip)))) (.skip))
    (.seq (.setSub (.var 0) (.cst (.int 3)) (.bin .Mod (.blt .int (.cons (.bin .Add (.bin .Add (.bin .Mult (.bin .Mult (.sub (.var 0) (.cst (.int 3))) (.sub (.var 0) (.cst (.int 3)))) (.cst (.int 3))) (.bin .Mult (.sub (.var 0) (.cst (.int 3))) (.cst (.int p.k4)))) (.cst (.int p.k5))) (.nil))) (.cst (.int p.m2))))
    (.seq (.ret (.bin .Mod (.blt .int (.cons (.bin .FloorDiv (.sub (.var 0) (.cst (.int 3))) (.cst (.int p.dv))) (.nil))) (.var 1)))
    (.skip))))
theorem atI_map (cs : List Int) (i : Nat) (hi : i < cs.length) : L2.atI (cs.map AV.int) (i : Int) = some (.int (cs[i])) := by
  unfold L2.atI L2.ixN
  simp [hi]
theorem ty_non_int  : isTy .non "int" = some false := rfl
theorem ty_non_bool  : isTy .non "bool" = some false := rfl
theorem ty_non_str  : isTy .non "str" = some false := rfl
theorem ty_non_list  : isTy .non "list" = some false := rfl
theorem ty_non_tuple  : isTy .non "tuple" = some false := rfl
theorem ty_bl_int (b : Bool) : isTy (.bl b) "int" = some true := rfl
theorem ty_bl_bool (b : Bool) : isTy (.bl b) "bool" = some true := rfl
theorem ty_bl_str (b : Bool) : isTy (.bl b) "str" = some false := rfl
theorem ty_bl_list (b : Bool) : isTy (.bl b) "list" = some false := rfl
theorem ty_bl_tuple (b : Bool) : isTy (.bl b) "tuple" = some false := rfl
theorem ty_int_int (i : Int) : isTy (.int i) "int" = some true := rfl
theorem ty_int_bool (i : Int) : isTy (.int i) "bool" = some false := rfl
theorem ty_int_str (i : Int) : isTy (.int i) "str" = some false := rfl
theorem ty_int_list (i : Int) : isTy (.int i) "list" = some false := rfl
theorem ty_int_tuple (i : Int) : isTy (.int i) "tuple" = some false := rfl
theorem ty_str_int (s : Str) : isTy (.str s) "int" = some false := rfl
theorem ty_str_bool (s : Str) : isTy (.str s) "bool" = some false := rfl
theorem ty_str_str (s : Str) : isTy (.str s) "str" = some true := rfl
theorem ty_str_list (s : Str) : isTy (.str s) "list" = some false := rfl
theorem ty_str_tuple (s : Str) : isTy (.str s) "tuple" = some false := rfl
theorem ty_tup_int (xs : List AV) : isTy (.tup xs) "int" = some false := rfl
theorem ty_tup_bool (xs : List AV) : isTy (.tup xs) "bool" = some false := rfl
theorem ty_tup_str (xs : List AV) : isTy (.tup xs) "str" = some false := rfl
theorem ty_tup_list (xs : List AV) : isTy (.tup xs) "list" = some false := rfl
theorem ty_tup_tuple (xs : List AV) : isTy (.tup xs) "tuple" = some true := rfl
theorem ty_lst_int (xs : List AV) : isTy (.lst xs) "int" = some false := rfl
theorem ty_lst_bool (xs : List AV) : isTy (.lst xs) "bool" = some false := rfl
theorem ty_lst_str (xs : List AV) : isTy (.lst xs) "str" = some false := rfl
theorem ty_lst_list (xs : List AV) : isTy (.lst xs) "list" = some true := rfl
theorem ty_lst_tuple (xs : List AV) : isTy (.lst xs) "tuple" = some false := rfl
theorem ln_0 : (0 ≤ line) = True := by simp [line]
theorem ln_1 : (1 ≤ line) = True := by simp [line]
theorem ln_2 : (2 ≤ line) = True := by simp [line]
theorem ln_3 : (3 ≤ line) = True := by simp [line]
theorem ln_4 : (4 ≤ line) = True := by simp [line]
theorem ln_5 : (5 ≤ line) = True := by simp [line]
theorem ln_6 : (6 ≤ line) = True := by simp [line]
theorem ln_7 : (7 ≤ line) = True := by simp [line]
theorem ln_8 : (8 ≤ line) = True := by simp [line]
theorem ln_9 : (9 ≤ line) = True := by simp [line]
theorem ln_10 : (10 ≤ line) = True := by simp [line]
theorem ln_11 : (11 ≤ line) = True := by simp [line]
theorem ln_12 : (12 ≤ line) = True := by simp [line]
theorem ln_13 : (13 ≤ line) = True := by simp [line]
theorem ln_14 : (14 ≤ line) = True := by simp [line]
theorem ln_15 : (15 ≤ line) = True := by simp [line]
theorem ln_16 : (16 ≤ line) = True := by simp [line]
theorem ln_17 : (17 ≤ line) = True := by simp [line]
theorem ln_18 : (18 ≤ line) = True := by simp [line]
theorem ln_19 : (19 ≤ line) = True := by simp [line]
theorem ln_20 : (20 ≤ line) = True := by simp [line]
theorem ln_21 : (21 ≤ line) = True := by simp [line]
theorem ln_22 : (22 ≤ line) = True := by simp [line]
theorem ln_23 : (23 ≤ line) = True := by simp [line]
theorem ln_24 : (24 ≤ line) = True := by simp [line]
theorem bmTy_join (s : Str) : bmTy .join (.str s) = true := rfl
theorem bmV_join (s : Str) (xs : List AV) (h : AHeap) : bmV .join (.str s) [.lst xs] h = joinV s (allS xs) h := rfl
theorem slc_S (s : Str) (l u : Option Int) (h : AHeap) : slcV (.str s) l u h = ok1 (decide (s.length ≤ line)) (.str (L2.cutS s l u)) h := rfl
theorem bin_addS (x y : Str) (h : AHeap) : binV .Add (.str x) (.str y) h = ok1 (decide (x.length + y.length ≤ line)) (.str (x ++ y)) h := rfl
local macro_rules | `(tactic| walk_at "exe") => `(tactic| simp only [bnd_ok, bind_app, pure_app, of_some, ok1_true, guard_true, ite_app, ev_cst, ev_var, ev_bin, ev_neg, ev_cmp, ev_chn, ev_and, ev_or, ev_notv, ev_ifx, ev_tup, ev_lst, ev_mlst, ev_sub, ev_slc, ev_slcL, ev_slcH, ev_call, ev_blt, ev_bm, ev_lc, evT_and, evT_or, evT_not, evT_cmp, evT_chn, evT_tv, evs_nil, evs_cons, evI_rng, evI_zip, evI_itv, xec_skip, xec_seq, seqF_nx, seqF_rt, seqF_bk, seqF_ct, xec_expr, xec_ret, xec_asg, xec_unp, xec_par, xec_setSub, xec_aug, xec_ife, xec_for, xec_brk, xec_cnt, flowV_nx, flowV_rt, bindT_one, bindT_two, lget_app, cmp_eqI, cmp_neI, cmp_ltI, cmp_leI, cmp_gtI, cmp_geI, cmp_eqB, cmp_eqS, cmp_isN, cmp_notN, bin_addI, bin_subI, bin_mulI, bin_divI, bin_modI, bin_powI, asB_app, asI_app, tru_bl, blt_abs, blt_int, blt_lenL, blt_lenT, blt_lenS, blt_list, blt_listT, blt_isinst, blt_all, blt_any, sub_L, sub_T, setAll, bmTy_join, bmV_join, slc_S, bin_addS, ln_0, ln_1, ln_2, ln_3, ln_4, ln_5, ln_6, ln_7, ln_8, ln_9, ln_10, ln_11, ln_12, ln_13, ln_14, ln_15, ln_16, ln_17, ln_18, ln_19, ln_20, ln_21, ln_22, ln_23, ln_24, ty_non_int, ty_non_bool, ty_non_str, ty_non_list, ty_non_tuple, ty_bl_int, ty_bl_bool, ty_bl_str, ty_bl_list, ty_bl_tuple, ty_int_int, ty_int_bool, ty_int_str, ty_int_list, ty_int_tuple, ty_str_int, ty_str_bool, ty_str_str, ty_str_list, ty_str_tuple, ty_tup_int, ty_tup_bool, ty_tup_str, ty_tup_list, ty_tup_tuple, ty_lst_int, ty_lst_bool, ty_lst_str, ty_lst_list, ty_lst_tuple, bag0, bag1, bag2, bag3, bagS1, bagS2, bagS3, List.getElem?_cons_zero, List.getElem?_cons_succ, List.getElem?_nil, Option.getD_some, Option.getD_none, List.set_cons_zero, List.set_cons_succ, List.length_cons, List.length_nil, Option.map_some, decide_eq_true_eq, Bool.and_true, Bool.true_and, Bool.and_false, Bool.false_and, Bool.not_true, Bool.not_false, if_true, if_false, ite_true, ite_false, Bool.false_eq_true, reduceIte, decide_true, decide_false, Nat.reduceAdd, Int.cast_ofNat_Int, Int.reduceEq, Int.reduceLT, Int.reduceLE, Int.reduceAdd, Int.reduceSub, Int.reduceMul, Int.reduceNeg, Nat.zero_add])
local macro_rules | `(tactic| walk_at "exh") => `(tactic| simp only [bnd_ok, bind_app, pure_app, of_some, ok1_true, guard_true, ite_app, ev_cst, ev_var, ev_bin, ev_neg, ev_cmp, ev_chn, ev_and, ev_or, ev_notv, ev_ifx, ev_tup, ev_lst, ev_mlst, ev_sub, ev_slc, ev_slcL, ev_slcH, ev_call, ev_blt, ev_bm, ev_lc, evT_and, evT_or, evT_not, evT_cmp, evT_chn, evT_tv, evs_nil, evs_cons, evI_rng, evI_zip, evI_itv, xec_skip, xec_seq, seqF_nx, seqF_rt, seqF_bk, seqF_ct, xec_expr, xec_ret, xec_asg, xec_unp, xec_par, xec_setSub, xec_aug, xec_ife, xec_for, xec_brk, xec_cnt, flowV_nx, flowV_rt, bindT_one, bindT_two, lget_app, cmp_eqI, cmp_neI, cmp_ltI, cmp_leI, cmp_gtI, cmp_geI, cmp_eqB, cmp_eqS, cmp_isN, cmp_notN, bin_addI, bin_subI, bin_mulI, bin_divI, bin_modI, bin_powI, asB_app, asI_app, tru_bl, blt_abs, blt_int, blt_lenL, blt_lenT, blt_lenS, blt_list, blt_listT, blt_isinst, blt_all, blt_any, sub_L, sub_T, setAll, bmTy_join, bmV_join, slc_S, bin_addS, ln_0, ln_1, ln_2, ln_3, ln_4, ln_5, ln_6, ln_7, ln_8, ln_9, ln_10, ln_11, ln_12, ln_13, ln_14, ln_15, ln_16, ln_17, ln_18, ln_19, ln_20, ln_21, ln_22, ln_23, ln_24, ty_non_int, ty_non_bool, ty_non_str, ty_non_list, ty_non_tuple, ty_bl_int, ty_bl_bool, ty_bl_str, ty_bl_list, ty_bl_tuple, ty_int_int, ty_int_bool, ty_int_str, ty_int_list, ty_int_tuple, ty_str_int, ty_str_bool, ty_str_str, ty_str_list, ty_str_tuple, ty_tup_int, ty_tup_bool, ty_tup_str, ty_tup_list, ty_tup_tuple, ty_lst_int, ty_lst_bool, ty_lst_str, ty_lst_list, ty_lst_tuple, bag0, bag1, bag2, bag3, bagS1, bagS2, bagS3, List.getElem?_cons_zero, List.getElem?_cons_succ, List.getElem?_nil, Option.getD_some, Option.getD_none, List.set_cons_zero, List.set_cons_succ, List.length_cons, List.length_nil, Option.map_some, decide_eq_true_eq, Bool.and_true, Bool.true_and, Bool.and_false, Bool.false_and, Bool.not_true, Bool.not_false, if_true, if_false, ite_true, ite_false, Bool.false_eq_true, reduceIte, decide_true, decide_false, Nat.reduceAdd, Int.cast_ofNat_Int, Int.reduceEq, Int.reduceLT, Int.reduceLE, Int.reduceAdd, Int.reduceSub, Int.reduceMul, Int.reduceNeg, Nat.zero_add, *])
/-- what a draw promises -/
def Drawn (m : Int) (hs : AHeap) (v : AV) (h' : AHeap) : Prop := ∃ d b', v = .int d ∧ 0 ≤ d ∧ d < m ∧ Bag.Ok b' ∧ h' = bagO b' :: hs
theorem pow18 : (10 : Int) ^ ((18 : Int).toNat) = 1000000000000000000 := by decide
theorem abs_nn (i : Int) : 0 ≤ (if i < 0 then -i else i) := by split <;> omega
/-- the first half of a draw -/
theorem draw_in (C : Orc) (p : DP) (hp : p.Ok) (b : Bag) (hb : b.Ok) (hs : AHeap) (m : Int) (s : S) :
    ∃ b' σ2, b'.Ok ∧ xec C (.seq (.ife (.and (.cmp .Eq (.sub (.var 0) (.cst (.int 2))) (.cst (.int 0))) (.cmp .Lt (.sub (.var 0) (.cst (.int 1))) (.blt .len (.cons (.sub (.var 0) (.cst (.int 0))) (.nil))))) (.seq (.asg 2 (.sub (.sub (.var 0) (.cst (.int 0))) (.sub (.var 0) (.cst (.int 1)))))
    (.seq (.setSub (.var 0) (.cst (.int 1)) (.bin .Add (.sub (.var 0) (.cst (.int 1))) (.cst (.int 1))))
    (.seq (.ife (.cmp .GtE (.blt .abs (.cons (.var 2) (.nil))) (.bin .Pow (.cst (.int 10)) (.cst (.int 18)))) (.seq (.setSub (.var 0) (.cst (.int 2)) (.blt .abs (.cons (.var 2) (.nil))))
    (.skip)) (.seq (.setSub (.var 0) (.cst (.int 3)) (.bin .Mod (.blt .int (.cons (.bin .Add (.bin .Add (.bin .Mult (.sub (.var 0) (.cst (.int 3))) (.cst (.int p.k1))) (.bin .Mult (.bin .Mod (.blt .int (.cons (.var 2) (.nil))) (.cst (.int p.m0))) (.cst (.int p.k2)))) (.cst (.int p.k3))) (.nil))) (.cst (.int p.m1))))
    (.skip)))
    (.skip)))) (.skip)) s) [some (.ref 0), some (.int m), none, none] (bagO b :: hs) = xec C s [some (.ref 0), some (.int m), σ2, none] (bagO b' :: hs) := by
  obtain ⟨h0, h1, h2, h3, h4, h5, h6, h7⟩ := hp
  obtain ⟨q0, q1, q2⟩ := hb
  have w18 : powOk 10 18 = true := by decide
  have w19 := pow18
  by_cases e0 : b.r = 0
  · by_cases e1 : b.i < b.cs.length
    · have e1' : ((b.i : Int) < ((b.cs.map AV.int).length : Int)) := by rw [List.length_map]; omega
      have ea := atI_map b.cs b.i e1
      by_cases e2 : (1000000000000000000 : Int) ≤ (if b.cs[b.i] < 0 then -b.cs[b.i] else b.cs[b.i])
      · refine ⟨{ b with i := b.i + 1, r := if b.cs[b.i] < 0 then -b.cs[b.i] else b.cs[b.i] }, some (.int (b.cs[b.i])), ⟨abs_nn _, q1, q2⟩, ?_⟩
        walk_at "exh"
      · refine ⟨{ b with i := b.i + 1, x := (b.x * p.k1 + (b.cs[b.i]).fmod p.m0 * p.k2 + p.k3).fmod p.m1 }, some (.int (b.cs[b.i])), ⟨q0, fmod_nn h2, Int.lt_trans (fmod_lt h2) h3⟩, ?_⟩
        have g1 : mulOk b.x p.k1 = true := mulOk_l (by omega)
        have g2 : mulOk ((b.cs[b.i]).fmod p.m0) p.k2 = true := mulOk_l (by have := fmod_nn (a := b.cs[b.i]) h0; have := fmod_lt (a := b.cs[b.i]) h0; omega)
        have g3 : decide (p.m0 ≠ 0) = true := by simp; omega
        have g4 : decide (p.m1 ≠ 0) = true := by simp; omega
        walk_at "exh"
    · have e1' : ¬ ((b.i : Int) < ((b.cs.map AV.int).length : Int)) := by rw [List.length_map]; omega
      refine ⟨b, none, ⟨q0, q1, q2⟩, ?_⟩
      walk_at "exe"
      simp only [e0, e1']
      walk_at "exe"
  · refine ⟨b, none, ⟨q0, q1, q2⟩, ?_⟩
    walk_at "exe"
    simp only [e0]
    walk_at "exe"
theorem rn_draw (C : Orc) (p : DP) (hp : p.Ok) (b : Bag) (hb : b.Ok) (hs : AHeap) (m : Int) (hm : 0 < m) (hd : divOk m = true) :
    Rn (Out.bnd (xec C (irDraw p) [some (.ref 0), some (.int m), none, none] (bagO b :: hs)) flowV) (Drawn m hs) := by
  obtain ⟨b', σ2, hb', e⟩ := draw_in C p hp b hb hs m _
  unfold irDraw
  rw [e]
  obtain ⟨h0, h1, h2, h3, h4, h5, h6, h7⟩ := hp
  obtain ⟨q0, q1, q2⟩ := hb'
  have g0 : decide (m ≠ 0) = true := by simp; omega
  by_cases e0 : 0 < b'.r
  · walk_at "exe"
    simp only [e0]
    walk_at "exe"
    simp only [g0, hd]
    walk_at "exe"
    simp only [g0, hd]
    walk_at "exe"
    exact ⟨_, { b' with r := b'.r.fdiv m }, rfl, fmod_nn hm, fmod_lt hm, ⟨fdiv_nn q0 hm, q1, q2⟩, rfl⟩
  · have g1 : mulOk b'.x b'.x = true := mulOk_l (by omega)
    have g2 : mulOk (b'.x * b'.x) 3 = true := mulOk_r (by decide)
    have g3 : mulOk b'.x p.k4 = true := mulOk_l (by omega)
    have g4 : decide (p.m2 ≠ 0) = true := by simp; omega
    have g5 : divOk p.dv = true := divOk_s h6 h7
    walk_at "exe"
    walk_at "exh"
    exact ⟨_, { b' with x := (b'.x * b'.x * 3 + b'.x * p.k4 + p.k5).fmod p.m2 }, rfl, fmod_nn hm, fmod_lt hm, ⟨q0, fmod_nn h4, Int.lt_trans (fmod_lt h4) h5⟩, rfl⟩

section
variable {T : Tab} {f : Nat}
theorem run_draw {p : DP} (hf : T.fns[f]? = some ⟨2, false, 4, irDraw p⟩) (hp : p.Ok) (n : Nat) {b : Bag} (hb : b.Ok) (hs : AHeap) {m : Int} (hm : 0 < m) (hd : divOk m = true) :
    Rn (run T (n + 1) f [.ref 0, .int m] (bagO b :: hs)) (Drawn m hs) := by
  rw [run_succ hf n _ _ (σ := [some (.ref 0), some (.int m), none, none]) rfl]
  exact rn_draw _ p hp b hb hs m hm hd
/-- what a pick promises -/
def Picked (xs : List AV) (hs : AHeap) (v : AV) (h' : AHeap) : Prop := ∃ b', v ∈ xs ∧ Bag.Ok b' ∧ h' = bagO b' :: hs
def irPick (fd : Nat) : S := .seq (.ret (.sub (.var 1) (.call fd (.cons (.var 0) (.cons (.blt .len (.cons (.var 1) (.nil))) (.nil)))))) (.skip)
theorem atI_get {α : Type} (xs : List α) (d : Int) (h0 : 0 ≤ d) (h1 : d < xs.length) : ∃ v, v ∈ xs ∧ L2.atI xs d = some v := by
  obtain ⟨k, rfl⟩ : ∃ k : Nat, d = k := ⟨d.toNat, by omega⟩
  have hk : k < xs.length := by omega
  refine ⟨xs[k], List.getElem_mem hk, ?_⟩
  unfold L2.atI L2.ixN
  simp [hk]
theorem run_pick {fd : Nat} {p : DP} (hf : T.fns[f]? = some ⟨2, false, 2, irPick fd⟩) (hfd : T.fns[fd]? = some ⟨2, false, 4, irDraw p⟩) (hp : p.Ok) (n : Nat) {b : Bag} (hb : b.Ok) (hs : AHeap) (xs : List AV) (h1 : 0 < xs.length) (h2 : xs.length < 1073741824) :
    Rn (run T (n + 2) f [.ref 0, .lst xs] (bagO b :: hs)) (Picked xs hs) := by
  rw [run_succ hf (n + 1) _ _ (σ := [some (.ref 0), some (.lst xs)]) rfl]
  unfold irPick
  walk_at "exe"
  obtain ⟨v, h', e, d, b', rfl, q0, q1, hb', rfl⟩ := (run_draw hfd hp n hb hs (m := (xs.length : Int)) (by omega) (divOk_s (by omega) (by omega))).get
  obtain ⟨v, hv, ev⟩ := atI_get xs d q0 q1
  walk_at "exh"
  exact ⟨b', hv, hb', rfl⟩
theorem run_pickS {fd : Nat} {p : DP} (hf : T.fns[f]? = some ⟨2, false, 2, irPick fd⟩) (hfd : T.fns[fd]? = some ⟨2, false, 4, irDraw p⟩) (hp : p.Ok) (n : Nat) {b : Bag} (hb : b.Ok) (hs : AHeap) (s : Str) (h1 : 0 < s.length) (h2 : s.length < 16777216) :
    Rn (run T (n + 2) f [.ref 0, .str s] (bagO b :: hs)) (Picked (s.cps.toList.map chr1) hs) := by
  rw [run_succ hf (n + 1) _ _ (σ := [some (.ref 0), some (.str s)]) rfl]
  unfold irPick
  walk_at "exe"
  have hl : s.length ≤ line := by unfold line; omega
  obtain ⟨v, h', e, d, b', rfl, q0, q1, hb', rfl⟩ := (run_draw hfd hp n hb hs (m := (s.length : Int)) (by omega) (divOk_s (by omega) (by omega))).get
  obtain ⟨v, hv, ev⟩ := atI_get s.cps.toList d q0 (by have : s.cps.toList.length = s.length := Array.length_toList; omega)
  have hl' : decide (s.length ≤ line) = true := by simpa using hl
  have es : subV (.str s) (.int d) (bagO b' :: hs) = .ok (chr1 v) (bagO b' :: hs) := by
    unfold subV; simp only [hl, if_true, ev]; rfl
  walk_at "exh"
  exact ⟨b', List.mem_map.2 ⟨v, hv, rfl⟩, hb', rfl⟩
def irBag (c0 c1 : Int) : S :=
    .seq (.asg 1 (.blt .list (.cons (.slcH (.var 0) (.cst (.int 63))) (.nil))))
    (.seq (.ret (.mlst (.cons (.var 1) (.cons (.cst (.int 0)) (.cons (.cst (.int 0)) (.cons (.bin .Add (.cst (.int c0)) (.bin .Mult (.cst (.int c1)) (.blt .len (.cons (.var 1) (.nil))))) (.nil)))))))
    (.skip))
theorem cut63 (ns : List Int) (h : ns.length ≤ 63) : cut (ns.map AV.int) none (some 63) = ns.map AV.int := by
  unfold cut HT.sIx
  simp only [List.length_map, List.drop_zero, Nat.sub_zero]
  apply List.take_of_length_le
  rw [List.length_map, if_neg (by decide)]
  have : (Int.toNat 63) = 63 := rfl
  omega
theorem run_bag {c0 c1 : Int} (hf : T.fns[f]? = some ⟨1, false, 2, irBag c0 c1⟩) (h0 : 0 ≤ c0 ∧ c0 < 1000000000 ∧ 0 ≤ c1 ∧ c1 < 10000000) (n : Nat) (ns : List Int) (hn : ns.length ≤ 63) :
    Rn (run T (n + 1) f [.lst (ns.map .int)] []) fun v h' => v = .ref 0 ∧ ∃ b, Bag.Ok b ∧ h' = [bagO b] := by
  rw [run_succ hf n _ _ (σ := [some (.lst (ns.map .int)), none]) rfl]
  unfold irBag
  have g1 : mulOk c1 ((ns.map AV.int).length : Int) = true := mulOk_l (by omega)
  have g2 : slcV (.lst (ns.map .int)) none (some 63) [] = .ok (.lst (ns.map .int)) [] := by
    show Out.ok _ _ = _
    rw [cut63 ns hn]
  walk_at "exh"
  refine ⟨rfl, ⟨ns, 0, 0, c0 + c1 * (ns.length : Int)⟩, ⟨Int.le_refl 0, ?_, ?_⟩, ?_⟩
  · have : 0 ≤ c1 * (ns.length : Int) := Int.mul_nonneg h0.2.2.1 (by omega)
    show 0 ≤ c0 + c1 * (ns.length : Int); omega
  · have : c1 * (ns.length : Int) ≤ 10000000 * 63 := Int.mul_le_mul (by omega) (by omega) (by omega) (by decide)
    show c0 + c1 * (ns.length : Int) < _; omega
  · simp [bagO]

/-! ### _law_same -/
mutual
def same (a : AV) : AV → Bool
  | .lst ys => (match a with | .lst xs => sames xs ys | _ => false)
  | .tup ys => (match a with | .tup xs => sames xs ys | _ => false)
  | .non => (match a with | .non => true | _ => false)
  | .bl b => (match a with | .bl a => a == b | _ => false)
  | .int j => (match a with | .int i => decide (i = j) | _ => false)
  | .str t => (match a with | .str s => s == t | _ => false)
  | _ => false
def sames (xs : List AV) : List AV → Bool
  | [] => xs.isEmpty
  | y :: ys => match xs with
    | x :: xs => same x y && sames xs ys
    | [] => false
end
/-- data of depth d -/
def fine : Nat → AV → Bool
  | 0, v => flat v
  | d + 1, v => match v with
    | .lst xs => decide (xs.length ≤ line) && xs.all (fine d)
    | .tup xs => decide (xs.length ≤ line) && xs.all (fine d)
    | v => flat v
def irSame (f : Nat) : S :=
    .seq (.ife (.tv (.blt .isinstance (.cons (.var 1) (.cons (.cst (.ty "list")) (.nil))))) (.seq (.ret (.and (.blt .isinstance (.cons (.var 0) (.cons (.cst (.ty "list")) (.nil)))) (.and (.cmp .Eq (.blt .len (.cons (.var 0) (.nil))) (.blt .len (.cons (.var 1) (.nil)))) (.blt .all (.cons (.lc [2, 3] [2, 3] (.zip (.var 0) (.var 1)) (.tv (.cst (.bl true))) (.call f (.cons (.var 2) (.cons (.var 3) (.nil))))) (.nil))))))
    (.skip)) (.skip))
    (.seq (.ife (.tv (.blt .isinstance (.cons (.var 1) (.cons (.cst (.ty "tuple")) (.nil))))) (.seq (.ret (.and (.blt .isinstance (.cons (.var 0) (.cons (.cst (.ty "tuple")) (.nil)))) (.and (.cmp .Eq (.blt .len (.cons (.var 0) (.nil))) (.blt .len (.cons (.var 1) (.nil)))) (.blt .all (.cons (.lc [2, 3] [2, 3] (.zip (.var 0) (.var 1)) (.tv (.cst (.bl true))) (.call f (.cons (.var 2) (.cons (.var 3) (.nil))))) (.nil))))))
    (.skip)) (.skip))
    (.seq (.ife (.or (.cmp .Is (.var 1) (.cst .non)) (.cmp .Is (.var 0) (.cst .non))) (.seq (.ret (.and (.cmp .Is (.var 1) (.cst .non)) (.cmp .Is (.var 0) (.cst .non))))
    (.skip)) (.skip))
    (.seq (.ife (.or (.tv (.blt .isinstance (.cons (.var 1) (.cons (.cst (.ty "bool")) (.nil))))) (.tv (.blt .isinstance (.cons (.var 0) (.cons (.cst (.ty "bool")) (.nil)))))) (.seq (.ret (.and (.blt .isinstance (.cons (.var 1) (.cons (.cst (.ty "bool")) (.nil)))) (.and (.blt .isinstance (.cons (.var 0) (.cons (.cst (.ty "bool")) (.nil)))) (.cmp .Eq (.var 0) (.var 1)))))
    (.skip)) (.skip))
    (.seq (.ife (.tv (.blt .isinstance (.cons (.var 1) (.cons (.cst (.ty "int")) (.nil))))) (.seq (.ret (.and (.blt .isinstance (.cons (.var 0) (.cons (.cst (.ty "int")) (.nil)))) (.cmp .Eq (.var 0) (.var 1))))
    (.skip)) (.skip))
    (.seq (.ret (.and (.blt .isinstance (.cons (.var 0) (.cons (.cst (.ty "str")) (.nil)))) (.and (.blt .isinstance (.cons (.var 1) (.cons (.cst (.ty "str")) (.nil)))) (.cmp .Eq (.var 0) (.var 1)))))
    (.skip))))))
theorem isTy_of {a : AV} {n : String} (h : tyN a = some n) (T : String) : isTy a T = if T = "int" ∨ T = "bool" ∨ T = "str" ∨ T = "list" ∨ T = "tuple" then some (decide (n = T) || (decide (n = "bool") && decide (T = "int"))) else none := by
  unfold isTy; rw [h]
def kd : AV → Nat
  | .non => 0 | .bl _ => 1 | .int _ => 2 | .str _ => 3 | .tup _ => 4 | .lst _ => 5 | _ => 6
theorem ty_list (a : AV) (h : kd a < 6) : isTy a "list" = some (decide (kd a = 5)) := by cases a <;> first | rfl | simp [kd] at h
theorem ty_tuple (a : AV) (h : kd a < 6) : isTy a "tuple" = some (decide (kd a = 4)) := by cases a <;> first | rfl | simp [kd] at h
theorem ty_str (a : AV) (h : kd a < 6) : isTy a "str" = some (decide (kd a = 3)) := by cases a <;> first | rfl | simp [kd] at h
theorem ty_bool (a : AV) (h : kd a < 6) : isTy a "bool" = some (decide (kd a = 1)) := by cases a <;> first | rfl | simp [kd] at h
theorem ty_int (a : AV) (h : kd a < 6) : isTy a "int" = some (decide (kd a = 2 ∨ kd a = 1)) := by cases a <;> first | rfl | simp [kd] at h
theorem isN (a : AV) : (match a with | .non => true | _ => false) = decide (kd a = 0) := by cases a <;> rfl
theorem fine_kd : ∀ (d : Nat) {v : AV}, fine d v = true → kd v < 6
  | 0, v, h => by cases v <;> simp_all [fine, flat, kd]
  | d + 1, v, h => by cases v <;> simp_all [fine, flat, kd]
theorem same_nf {a b : AV} (hb : kd b < 6) (h : kd a ≠ kd b) : same a b = false := by
  cases b <;> cases a <;> first | rfl | (exact absurd rfl h) | (exact absurd hb (by decide)) | simp [same]
theorem allB_bl : ∀ (bs : List Bool), allB (bs.map .bl) = some bs
  | [] => rfl
  | b :: bs => by simp [allB, allB_bl bs]
theorem sames_all : ∀ (xs ys : List AV), xs.length = ys.length → ((List.zipWith (fun x y => same x y) xs ys).all id) = sames xs ys
  | [], [], _ => by simp [sames]
  | x :: xs, y :: ys, h => by simp [sames, sames_all xs ys (by simpa using h)]
  | [], _ :: _, h => by cases h
  | _ :: _, [], h => by cases h
theorem sames_ne : ∀ (xs ys : List AV), xs.length ≠ ys.length → sames xs ys = false
  | [], [], h => absurd rfl h
  | x :: xs, y :: ys, h => by simp [sames, sames_ne xs ys (by simpa using h)]
  | [], _ :: _, h => by simp [sames]
  | _ :: _, [], h => by simp [sames]
theorem lcL_zip {F : AV → M (Option AV)} {g : AV → AV → AV} {h : AHeap} : ∀ {xs ys : List AV}, (∀ x ∈ xs, ∀ y ∈ ys, F (.tup [x, y]) h = .ok (some (g x y)) h) → lcL F (List.zipWith (fun x y => AV.tup [x, y]) xs ys) h = .ok (List.zipWith g xs ys) h
  | [], ys, _ => by simp [lcL, M.pure]
  | x :: xs, [], _ => by simp [lcL, M.pure]
  | x :: xs, y :: ys, hf => by
    show M.bind _ _ h = _
    rw [bind_app, hf x List.mem_cons_self y List.mem_cons_self, bnd_ok, bind_app]
    have ih := lcL_zip (F := F) (g := g) (h := h) (xs := xs) (ys := ys) fun x hx y hy => hf x (List.mem_cons_of_mem _ hx) y (List.mem_cons_of_mem _ hy)
    show Out.bnd (lcL F (List.zipWith (fun x y => AV.tup [x, y]) xs ys) h) _ = _
    rw [ih]
    rfl
theorem same_lists (C : Orc) (xs ys : List AV) (h : AHeap) (hl : ys.length ≤ line) (a b : AV)
    (hC : ∀ x ∈ xs, ∀ y ∈ ys, C f [x, y] h = .ok (.bl (same x y)) h) (e : xs.length = ys.length) :
    lcL (turn C [some a, some b, none, none] [2, 3] [2, 3] (.tv (.cst (.bl true))) (.call f (.cons (.var 2) (.cons (.var 3) (.nil))))) (List.zipWith (fun x y => AV.tup [x, y]) xs ys) h = .ok (List.zipWith (fun x y => AV.bl (same x y)) xs ys) h
    ∧ (List.zipWith (fun x y => AV.bl (same x y)) xs ys).length ≤ line ∧ allB (List.zipWith (fun x y => AV.bl (same x y)) xs ys) = some (List.zipWith (fun x y => same x y) xs ys) ∧ ((List.zipWith (fun x y => same x y) xs ys).all id) = sames xs ys := by
  refine ⟨?_, ?_, ?_, sames_all xs ys e⟩
  · refine lcL_zip (g := fun x y => .bl (same x y)) ?_
    intro x hx y hy
    apply turn_app
    have := hC x hx y hy
    simp only [wipeL]
    walk_at "exh"
  · rw [List.length_zipWith]; omega
  · rw [← allB_bl, List.map_zipWith]
theorem run_same (hf : T.fns[f]? = some ⟨2, false, 4, irSame f⟩) : ∀ (d n : Nat) (a b : AV) (h : AHeap), fine d a = true → fine d b = true → run T (n + d + 1) f [a, b] h = .ok (.bl (same a b)) h := by
  have flatC : ∀ (d n : Nat) (a b : AV) (h : AHeap), fine d a = true → flat b = true → run T (n + 1) f [a, b] h = .ok (.bl (same a b)) h := by
    intro d n a b h ha hb
    have ha := fine_kd d ha
    rw [run_succ hf n _ _ (σ := [some a, some b, none, none]) rfl]
    unfold irSame
    cases b <;> first | (simp [flat] at hb; done) | skip
    all_goals (cases a <;> first | (simp [kd] at ha; done) | skip)
    all_goals (walk_at "exe"; try simp [same])
  intro d
  induction d with
  | zero => exact fun n a b h ha hb => flatC 0 n a b h ha hb
  | succ d ih =>
    intro n a b h ha hb
    by_cases hfl : flat b = true
    · exact flatC (d + 1) _ a b h ha hfl
    · have ka := fine_kd _ ha
      have eN : n + (d + 1) + 1 = (n + d + 1) + 1 := by omega
      rw [eN, run_succ hf (n + d + 1) _ _ (σ := [some a, some b, none, none]) rfl]
      cases b with
      | lst ys =>
        simp only [fine, Bool.and_eq_true, decide_eq_true_eq, List.all_eq_true] at hb
        cases a with
        | lst xs =>
          simp only [fine, Bool.and_eq_true, decide_eq_true_eq, List.all_eq_true] at ha
          unfold irSame
          by_cases e : xs.length = ys.length
          · obtain ⟨q1, q2, q3, q4⟩ := same_lists (f := f) (run T (n + d + 1)) xs ys h hb.1 (.lst xs) (.lst ys) (fun x hx y hy => ih n x y h (ha.2 x hx) (hb.2 y hy)) e
            have e' : ((xs.length : Int) = (ys.length : Int)) := by omega
            have q5 : zipV (.lst xs) (.lst ys) = some (List.zipWith (fun x y => AV.tup [x, y]) xs ys) := rfl
            clear ih flatC eN hf
            walk_at "exe"
            simp only [e', q5, eq_self, if_true]
            walk_at "exh"
            simp [same]
          · have e' : ¬ ((xs.length : Int) = (ys.length : Int)) := by omega
            have q := sames_ne xs ys e
            walk_at "exe"
            simp only [e']
            walk_at "exe"
            simp [same, q]
        | _ => first | (simp [kd] at ka; done) | (unfold irSame; walk_at "exe"; simp [same])
      | tup ys =>
        simp only [fine, Bool.and_eq_true, decide_eq_true_eq, List.all_eq_true] at hb
        cases a with
        | tup xs =>
          simp only [fine, Bool.and_eq_true, decide_eq_true_eq, List.all_eq_true] at ha
          unfold irSame
          by_cases e : xs.length = ys.length
          · obtain ⟨q1, q2, q3, q4⟩ := same_lists (f := f) (run T (n + d + 1)) xs ys h hb.1 (.tup xs) (.tup ys) (fun x hx y hy => ih n x y h (ha.2 x hx) (hb.2 y hy)) e
            have e' : ((xs.length : Int) = (ys.length : Int)) := by omega
            have q5 : zipV (.tup xs) (.tup ys) = some (List.zipWith (fun x y => AV.tup [x, y]) xs ys) := rfl
            clear ih flatC eN hf
            walk_at "exe"
            simp only [e', q5, eq_self, if_true]
            walk_at "exh"
            simp [same]
          · have e' : ¬ ((xs.length : Int) = (ys.length : Int)) := by omega
            have q := sames_ne xs ys e
            walk_at "exe"
            simp only [e']
            walk_at "exe"
            simp [same, q]
        | _ => first | (simp [kd] at ka; done) | (unfold irSame; walk_at "exe"; simp [same])
      | _ => first | (simp [flat] at hfl; done) | (simp [fine, flat] at hb; done)

/-! ### gcd -/
def irGcd : S :=
    .seq (.par [2, 3] (.cons (.blt .abs (.cons (.var 0) (.nil))) (.cons (.blt .abs (.cons (.var 1) (.nil))) (.nil))))
    (.seq (.whl (.cmp .Gt (.var 3) (.cst (.int 0))) (.seq (.par [2, 3] (.cons (.var 3) (.cons (.bin .Mod (.blt .int (.cons (.var 2) (.nil))) (.var 3)) (.nil))))
    (.skip)))
    (.seq (.ret (.var 2))
    (.skip)))
theorem whl_gcd (C : Orc) (a b : AV) (h : AHeap) (l r : Nat) :
    xec C (.whl (.cmp .Gt (.var 3) (.cst (.int 0))) (.seq (.par [2, 3] (.cons (.var 3) (.cons (.bin .Mod (.blt .int (.cons (.var 2) (.nil))) (.var 3)) (.nil)))) (.skip))) [some a, some b, some (.int l), some (.int r)] h
      = .ok (.nx [some a, some b, some (.int (Nat.gcd l r : Nat)), some (.int 0)]) h := by
  rw [xec_whl]
  have key := rn_whl (t := fun σ' => evT C σ' (.cmp .Gt (.var 3) (.cst (.int 0)))) (body := fun σ' => xec C (.seq (.par [2, 3] (.cons (.var 3) (.cons (.bin .Mod (.blt .int (.cons (.var 2) (.nil))) (.var 3)) (.nil)))) (.skip)) σ')
    (Q := fun f h' => f = .nx [some a, some b, some (.int (Nat.gcd l r : Nat)), some (.int 0)] ∧ h' = h)
    (fun σ h' => h' = h ∧ ∃ l' r' : Nat, σ = [some a, some b, some (.int l'), some (.int r')] ∧ Nat.gcd l' r' = Nat.gcd l r)
    (fun σ _ => match σ with | [_, _, _, some (.int r)] => r.toNat | _ => 0) (by
      rintro σ _ ⟨rfl, l', r', rfl, hg⟩
      by_cases e : 0 < r'
      · have e' : (0 : Int) < (r' : Int) := by omega
        have e2 : decide ((r' : Int) ≠ 0) = true := by simp; omega
        walk_at "exe"
        simp only [e', e2]
        show Rn _ _
        walk_at "exe"
        show Rn _ _
        have hm : (Int.fmod (l' : Int) (r' : Int)) = ((l' % r' : Nat) : Int) := by
          rw [Int.fmod_eq_emod_of_nonneg _ (by omega)]; rfl
        simp only [Rn, if_true]
        refine ⟨⟨trivial, r', l' % r', ?_, ?_⟩, ?_⟩
        · rw [hm]
        · rw [← hg, Nat.gcd_comm r' (l' % r'), ← Nat.gcd_rec, Nat.gcd_comm]
        · simp only [hm]
          show (((l' % r' : Nat) : Int)).toNat < ((r' : Int)).toNat
          have := Nat.mod_lt l' e
          omega
      · have e0 : r' = 0 := by omega
        subst e0
        walk_at "exe"
        simp only [Nat.gcd_zero_right] at hg
        refine ⟨?_, rfl⟩
        rw [hg] <;> rfl)
  obtain ⟨f, h', e, rfl, rfl⟩ := (key [some a, some b, some (.int l), some (.int r)] h ⟨rfl, l, r, rfl, rfl⟩).get
  exact e
theorem abs_nat (i : Int) : (if i < 0 then -i else i) = (i.natAbs : Int) := by split <;> omega
theorem run_gcd (hf : T.fns[f]? = some ⟨2, false, 4, irGcd⟩) (n : Nat) (a b : Int) (h : AHeap) : run T (n + 1) f [.int a, .int b] h = .ok (.int (Int.gcd a b : Nat)) h := by
  rw [run_succ hf n _ _ (σ := [some (.int a), some (.int b), none, none]) rfl]
  unfold irGcd
  walk_at "exe"
  simp only [abs_nat, whl_gcd]
  walk_at "exe"
  rfl

/-! ### words out of picked letters -/
theorem allS_chr : ∀ cs : List Nat, allS (cs.map chr1) = some (cs.map fun c => (⟨#[c]⟩ : Str))
  | [] => rfl
  | c :: cs => by
    show (allS (cs.map chr1)).map _ = _
    rw [allS_chr cs]; rfl
theorem joinL_one : ∀ cs : List Nat, TL.joinL [] (cs.map fun c => [c]) = cs
  | [] => rfl
  | [c] => rfl
  | c :: d :: r => by
    show [c] ++ ([] ++ TL.joinL [] ((d :: r).map fun c => [c])) = _
    rw [joinL_one (d :: r)]; rfl
theorem join_chr (cs : List Nat) (hl : cs.length ≤ line) (h : AHeap) : joinV "" (allS (cs.map chr1)) h = .ok (.str (SX.S cs)) h := by
  rw [allS_chr]
  have e : Txt.join "" (cs.map fun c => (⟨#[c]⟩ : Str)) = SX.S cs := by
    have := SX.join_S [] (cs.map fun c => [c])
    rw [joinL_one, List.map_map] at this
    exact this
  have l : ∀ cs : List Nat, ((cs.map fun c => (⟨#[c]⟩ : Str)).map (·.length)).sum = cs.length := by
    intro cs
    induction cs with
    | nil => rfl
    | cons c r ih => rw [List.map_cons, List.map_cons, List.sum_cons, ih, List.length_cons, Nat.add_comm]; rfl
  show ok1 _ _ h = _
  rw [e]
  apply ok1_of
  rw [l]
  have : (("" : Str)).length = 0 := rfl
  rw [this]
  simpa using hl
end
end NT
set_option linter.all false
set_option maxRecDepth 100000
namespace K02
open PySem PySem.Spec PyProof.Rows L2 NT
def top (i : Nat) : Stmt := PySem.Challenge.pw_numbertypes_k02_integers_names_and_share.main.body.getD i (.Pass ⟨0, 0, 0, 0⟩)
abbrev f_is_int : Nat := 0
abbrev f_is_name : Nat := 1
abbrev f_is_share : Nat := 2
abbrev f_gcd : Nat := 3
abbrev f__law_bag : Nat := 4
abbrev f__law_draw : Nat := 5
abbrev f__law_pick : Nat := 6
abbrev f__law_letters : Nat := 7
abbrev f__law_same : Nat := 8
abbrev f__law_odd : Nat := 9
abbrev f__law_gcd : Nat := 10
abbrev f_law : Nat := 11
def ir_is_int : S :=
    .seq (.ret (.and (.blt .isinstance (.cons (.var 0) (.cons (.cst (.ty "int")) (.nil)))) (.notv (.blt .isinstance (.cons (.var 0) (.cons (.cst (.ty "bool")) (.nil)))))))
    (.skip)
def ir_is_name : S :=
    .seq (.ife (.or (.not (.tv (.blt .isinstance (.cons (.var 0) (.cons (.cst (.ty "str")) (.nil)))))) (.or (.not (.chn .LtE .LtE (.cst (.int 1)) (.blt .len (.cons (.var 0) (.nil))) (.cst (.int 6)))) (.cmp .In (.var 0) (.cst (.tup [(.str "in" : AV), (.str "out" : AV), (.str "proc" : AV), (.str "give" : AV)]))))) (.seq (.ret (.cst (.bl false)))
    (.skip)) (.skip))
    (.seq (.ret (.blt .all (.cons (.lc [1] [1] (.itv (.var 0)) (.tv (.cst (.bl true))) (.cmp .In (.var 1) (.cst (.str "abcdefghijklmnopqrstuvwxyz")))) (.nil))))
    (.skip))
def ir_is_share : S :=
    .seq (.ife (.or (.not (.tv (.blt .isinstance (.cons (.var 0) (.cons (.cst (.ty "tuple")) (.nil)))))) (.cmp .NotEq (.blt .len (.cons (.var 0) (.nil))) (.cst (.int 2)))) (.seq (.ret (.cst (.bl false)))
    (.skip)) (.skip))
    (.seq (.ife (.or (.not (.tv (.call f_is_int (.cons (.sub (.var 0) (.cst (.int 0))) (.nil))))) (.or (.not (.tv (.call f_is_int (.cons (.sub (.var 0) (.cst (.int 1))) (.nil))))) (.cmp .Lt (.sub (.var 0) (.cst (.int 1))) (.cst (.int 1))))) (.seq (.ret (.cst (.bl false)))
    (.skip)) (.skip))
    (.seq (.ret (.cmp .Eq (.call f_gcd (.cons (.sub (.var 0) (.cst (.int 0))) (.cons (.sub (.var 0) (.cst (.int 1))) (.nil)))) (.cst (.int 1))))
    (.skip)))
def ir_gcd : S :=
    .seq (.par [2, 3] (.cons (.blt .abs (.cons (.var 0) (.nil))) (.cons (.blt .abs (.cons (.var 1) (.nil))) (.nil))))
    (.seq (.whl (.cmp .Gt (.var 3) (.cst (.int 0))) (.seq (.par [2, 3] (.cons (.var 3) (.cons (.bin .Mod (.blt .int (.cons (.var 2) (.nil))) (.var 3)) (.nil))))
    (.skip)))
    (.seq (.ret (.var 2))
    (.skip)))
def ir__law_bag : S :=
    .seq (.asg 1 (.blt .list (.cons (.slcH (.var 0) (.cst (.int 63))) (.nil))))
    (.seq (.ret (.mlst (.cons (.var 1) (.cons (.cst (.int 0)) (.cons (.cst (.int 0)) (.cons (.bin .Add (.cst (.int 12024)) (.bin .Mult (.cst (.int 17)) (.blt .len (.cons (.var 1) (.nil))))) (.nil)))))))
    (.skip))
def ir__law_draw : S :=
    .seq (.ife (.and (.cmp .Eq (.sub (.var 0) (.cst (.int 2))) (.cst (.int 0))) (.cmp .Lt (.sub (.var 0) (.cst (.int 1))) (.blt .len (.cons (.sub (.var 0) (.cst (.int 0))) (.nil))))) (.seq (.asg 2 (.sub (.sub (.var 0) (.cst (.int 0))) (.sub (.var 0) (.cst (.int 1)))))
    (.seq (.setSub (.var 0) (.cst (.int 1)) (.bin .Add (.sub (.var 0) (.cst (.int 1))) (.cst (.int 1))))
    (.seq (.ife (.cmp .GtE (.blt .abs (.cons (.var 2) (.nil))) (.bin .Pow (.cst (.int 10)) (.cst (.int 18)))) (.seq (.setSub (.var 0) (.cst (.int 2)) (.blt .abs (.cons (.var 2) (.nil))))
    (.skip)) (.seq (.setSub (.var 0) (.cst (.int 3)) (.bin .Mod (.blt .int (.cons (.bin .Add (.bin .Add (.bin .Mult (.sub (.var 0) (.cst (.int 3))) (.cst (.int 41177))) (.bin .Mult (.bin .Mod (.blt .int (.cons (.var 2) (.nil))) (.cst (.int 1000171))) (.cst (.int 907)))) (.cst (.int 59))) (.nil))) (.cst (.int 2147483563))))
    (.skip)))
    (.skip)))) (.skip))
    (.seq (.ife (.cmp .Gt (.sub (.var 0) (.cst (.int 2))) (.cst (.int 0))) (.seq (.asg 3 (.bin .Mod (.blt .int (.cons (.sub (.var 0) (.cst (.int 2))) (.nil))) (.var 1)))
    (.seq (.setSub (.var 0) (.cst (.int 2)) (.bin .FloorDiv (.sub (.var 0) (.cst (.int 2))) (.var 1)))
    (.seq (.ret (.var 3))
    (.skip)))) (.skip))
    (.seq (.setSub (.var 0) (.cst (.int 3)) (.bin .Mod (.blt .int (.cons (.bin .Add (.bin .Add (.bin .Mult (.bin .Mult (.sub (.var 0) (.cst (.int 3))) (.sub (.var 0) (.cst (.int 3)))) (.cst (.int 3))) (.bin .Mult (.sub (.var 0) (.cst (.int 3))) (.cst (.int 30089)))) (.cst (.int 1700047))) (.nil))) (.cst (.int 2147483579))))
    (.seq (.ret (.bin .Mod (.blt .int (.cons (.bin .FloorDiv (.sub (.var 0) (.cst (.int 3))) (.cst (.int 64))) (.nil))) (.var 1)))
    (.skip))))
def ir__law_pick : S :=
    .seq (.ret (.sub (.var 1) (.call f__law_draw (.cons (.var 0) (.cons (.blt .len (.cons (.var 1) (.nil))) (.nil))))))
    (.skip)
def ir__law_letters : S :=
    .seq (.ret (.cst (.str "abcdefghijklmnopqrstuvwxyz")))
    (.skip)
def ir__law_same : S :=
    .seq (.ife (.tv (.blt .isinstance (.cons (.var 1) (.cons (.cst (.ty "list")) (.nil))))) (.seq (.ret (.and (.blt .isinstance (.cons (.var 0) (.cons (.cst (.ty "list")) (.nil)))) (.and (.cmp .Eq (.blt .len (.cons (.var 0) (.nil))) (.blt .len (.cons (.var 1) (.nil)))) (.blt .all (.cons (.lc [2, 3] [2, 3] (.zip (.var 0) (.var 1)) (.tv (.cst (.bl true))) (.call f__law_same (.cons (.var 2) (.cons (.var 3) (.nil))))) (.nil))))))
    (.skip)) (.skip))
    (.seq (.ife (.tv (.blt .isinstance (.cons (.var 1) (.cons (.cst (.ty "tuple")) (.nil))))) (.seq (.ret (.and (.blt .isinstance (.cons (.var 0) (.cons (.cst (.ty "tuple")) (.nil)))) (.and (.cmp .Eq (.blt .len (.cons (.var 0) (.nil))) (.blt .len (.cons (.var 1) (.nil)))) (.blt .all (.cons (.lc [2, 3] [2, 3] (.zip (.var 0) (.var 1)) (.tv (.cst (.bl true))) (.call f__law_same (.cons (.var 2) (.cons (.var 3) (.nil))))) (.nil))))))
    (.skip)) (.skip))
    (.seq (.ife (.or (.cmp .Is (.var 1) (.cst .non)) (.cmp .Is (.var 0) (.cst .non))) (.seq (.ret (.and (.cmp .Is (.var 1) (.cst .non)) (.cmp .Is (.var 0) (.cst .non))))
    (.skip)) (.skip))
    (.seq (.ife (.or (.tv (.blt .isinstance (.cons (.var 1) (.cons (.cst (.ty "bool")) (.nil))))) (.tv (.blt .isinstance (.cons (.var 0) (.cons (.cst (.ty "bool")) (.nil)))))) (.seq (.ret (.and (.blt .isinstance (.cons (.var 1) (.cons (.cst (.ty "bool")) (.nil)))) (.and (.blt .isinstance (.cons (.var 0) (.cons (.cst (.ty "bool")) (.nil)))) (.cmp .Eq (.var 0) (.var 1)))))
    (.skip)) (.skip))
    (.seq (.ife (.tv (.blt .isinstance (.cons (.var 1) (.cons (.cst (.ty "int")) (.nil))))) (.seq (.ret (.and (.blt .isinstance (.cons (.var 0) (.cons (.cst (.ty "int")) (.nil)))) (.cmp .Eq (.var 0) (.var 1))))
    (.skip)) (.skip))
    (.seq (.ret (.and (.blt .isinstance (.cons (.var 0) (.cons (.cst (.ty "str")) (.nil)))) (.and (.blt .isinstance (.cons (.var 1) (.cons (.cst (.ty "str")) (.nil)))) (.cmp .Eq (.var 0) (.var 1)))))
    (.skip))))))
def ir__law_odd : S :=
    .seq (.ret (.call f__law_pick (.cons (.var 0) (.cons (.lst (.cons (.cst .non) (.cons (.cst (.bl true)) (.cons (.cst (.bl false)) (.cons (.cst (.str "")) (.cons (.cst (.str "A")) (.cons (.cst (.str "in")) (.cons (.cst (.str "a b")) (.cons (.tup (.nil)) (.cons (.tup (.cons (.cst (.int 1)) (.nil))) (.cons (.lst (.nil)) (.cons (.lst (.cons (.cst (.str "a")) (.nil))) (.cons (.cst (.str "7")) (.nil)))))))))))))) (.nil)))))
    (.skip)
def ir__law_gcd : S :=
    .seq (.par [2, 3] (.cons (.blt .abs (.cons (.var 0) (.nil))) (.cons (.blt .abs (.cons (.var 1) (.nil))) (.nil))))
    (.seq (.whl (.cmp .Gt (.var 3) (.cst (.int 0))) (.seq (.par [2, 3] (.cons (.var 3) (.cons (.bin .Mod (.blt .int (.cons (.var 2) (.nil))) (.var 3)) (.nil))))
    (.skip)))
    (.seq (.ret (.var 2))
    (.skip)))
def ir_law : S :=
    .seq (.asg 1 (.call f__law_bag (.cons (.var 0) (.nil))))
    (.seq (.for_ [2] (.rng (.cst (.int 0)) (.cst (.int 8))) (.seq (.asg 3 (.bin .Sub (.call f__law_draw (.cons (.var 1) (.cons (.bin .Pow (.cst (.int 10)) (.cst (.int 30))) (.nil)))) (.call f__law_draw (.cons (.var 1) (.cons (.bin .Pow (.cst (.int 10)) (.cst (.int 30))) (.nil))))))
    (.seq (.asg 4 (.call f__law_odd (.cons (.var 1) (.nil))))
    (.seq (.ife (.not (.tv (.call f__law_same (.cons (.lst (.cons (.call f_is_int (.cons (.var 3) (.nil))) (.cons (.call f_is_int (.cons (.cst (.int 0)) (.nil))) (.cons (.call f_is_int (.cons (.var 4) (.nil))) (.cons (.call f_is_int (.cons (.cmp .Gt (.var 2) (.cst (.int 2))) (.nil))) (.nil)))))) (.cons (.lst (.cons (.cst (.bl true)) (.cons (.cst (.bl true)) (.cons (.cst (.bl false)) (.cons (.cst (.bl false)) (.nil)))))) (.nil)))))) (.seq (.ret (.cst (.bl false)))
    (.skip)) (.skip))
    (.seq (.asg 5 (.call f__law_draw (.cons (.var 1) (.cons (.cst (.int 9)) (.nil)))))
    (.seq (.asg 6 (.bm .join (.cst (.str "")) (.cons (.lc [14] [14] (.rng (.cst (.int 0)) (.var 5)) (.tv (.cst (.bl true))) (.call f__law_pick (.cons (.var 1) (.cons (.call f__law_letters (.nil)) (.nil))))) (.nil))))
    (.seq (.asg 7 (.call f__law_draw (.cons (.var 1) (.cons (.bin .Add (.var 5) (.cst (.int 1))) (.nil)))))
    (.seq (.asg 8 (.bin .Add (.bin .Add (.slcH (.var 6) (.var 7)) (.call f__law_pick (.cons (.var 1) (.cons (.lst (.cons (.cst (.str "A")) (.cons (.cst (.str "0")) (.cons (.cst (.str "_")) (.cons (.cst (.str " ")) (.cons (.cst (.str "-")) (.nil))))))) (.nil))))) (.slcL (.var 6) (.var 7))))
    (.seq (.asg 9 (.call f__law_pick (.cons (.var 1) (.cons (.lst (.cons (.cst (.str "in")) (.cons (.cst (.str "out")) (.cons (.cst (.str "proc")) (.cons (.cst (.str "give")) (.nil)))))) (.nil)))))
    (.seq (.asg 10 (.and (.chn .LtE .LtE (.cst (.int 1)) (.var 5) (.cst (.int 6))) (.cmp .NotIn (.var 6) (.lst (.cons (.cst (.str "in")) (.cons (.cst (.str "out")) (.cons (.cst (.str "proc")) (.cons (.cst (.str "give")) (.nil)))))))))
    (.seq (.ife (.not (.tv (.call f__law_same (.cons (.lst (.cons (.call f_is_name (.cons (.var 6) (.nil))) (.cons (.call f_is_name (.cons (.var 8) (.nil))) (.cons (.call f_is_name (.cons (.var 9) (.nil))) (.cons (.call f_is_name (.cons (.var 3) (.nil))) (.cons (.call f_is_name (.cons (.var 4) (.nil))) (.cons (.call f_is_name (.cons (.tup (.cons (.var 6) (.nil))) (.nil))) (.cons (.call f_is_name (.cons (.bin .Add (.slcH (.var 9) (.cst (.int 5))) (.cst (.str "s"))) (.nil))) (.nil))))))))) (.cons (.lst (.cons (.var 10) (.cons (.cst (.bl false)) (.cons (.cst (.bl false)) (.cons (.cst (.bl false)) (.cons (.cst (.bl false)) (.cons (.cst (.bl false)) (.cons (.cst (.bl true)) (.nil))))))))) (.nil)))))) (.seq (.ret (.cst (.bl false)))
    (.skip)) (.skip))
    (.seq (.par [11, 12] (.cons (.bin .Sub (.call f__law_draw (.cons (.var 1) (.cons (.cst (.int 41)) (.nil)))) (.cst (.int 20))) (.cons (.bin .Sub (.call f__law_draw (.cons (.var 1) (.cons (.cst (.int 21)) (.nil)))) (.cst (.int 4))) (.nil))))
    (.seq (.asg 10 (.and (.cmp .Gt (.var 12) (.cst (.int 0))) (.cmp .Eq (.call f__law_gcd (.cons (.var 11) (.cons (.var 12) (.nil)))) (.cst (.int 1)))))
    (.seq (.asg 13 (.lst (.cons (.call f_is_share (.cons (.tup (.cons (.var 11) (.cons (.var 12) (.nil)))) (.nil))) (.cons (.call f_is_share (.cons (.lst (.cons (.var 11) (.cons (.var 12) (.nil)))) (.nil))) (.cons (.call f_is_share (.cons (.tup (.cons (.var 11) (.cons (.var 12) (.cons (.cst (.int 1)) (.nil))))) (.nil))) (.cons (.call f_is_share (.cons (.tup (.cons (.var 11) (.nil))) (.nil))) (.cons (.call f_is_share (.cons (.var 11) (.nil))) (.cons (.call f_is_share (.cons (.tup (.cons (.cst (.bl true)) (.cons (.cst (.int 1)) (.nil)))) (.nil))) (.cons (.call f_is_share (.cons (.tup (.cons (.var 11) (.cons (.cst (.str "1")) (.nil)))) (.nil))) (.cons (.call f_is_share (.cons (.var 4) (.nil))) (.cons (.call f_is_share (.cons (.tup (.cons (.cst (.int 0)) (.cons (.cst (.int 1)) (.nil)))) (.nil))) (.cons (.call f_is_share (.cons (.tup (.cons (.cst (.int 0)) (.cons (.cst (.int 2)) (.nil)))) (.nil))) (.nil)))))))))))))
    (.seq (.ife (.not (.tv (.call f__law_same (.cons (.var 13) (.cons (.lst (.cons (.var 10) (.cons (.cst (.bl false)) (.cons (.cst (.bl false)) (.cons (.cst (.bl false)) (.cons (.cst (.bl false)) (.cons (.cst (.bl false)) (.cons (.cst (.bl false)) (.cons (.cst (.bl false)) (.cons (.cst (.bl true)) (.cons (.cst (.bl false)) (.nil)))))))))))) (.nil)))))) (.seq (.ret (.cst (.bl false)))
    (.skip)) (.skip))
    (.skip))))))))))))))))
    (.seq (.ret (.cst (.bl true)))
    (.skip)))
def fd_is_int : FD := ⟨1, false, 1, ir_is_int⟩
def dd_is_int : DD := ⟨top 3, "is_int", "is_int", ["value"], ["value"]⟩
def fd_is_name : FD := ⟨1, false, 2, ir_is_name⟩
def dd_is_name : DD := ⟨top 4, "is_name", "is_name", ["value", "sign"], ["value"]⟩
def fd_is_share : FD := ⟨1, false, 1, ir_is_share⟩
def dd_is_share : DD := ⟨top 5, "is_share", "is_share", ["value"], ["value"]⟩
def fd_gcd : FD := ⟨2, false, 4, ir_gcd⟩
def dd_gcd : DD := ⟨top 6, "gcd", "gcd", ["a", "b", "left", "right"], ["a", "b"]⟩
def fd__law_bag : FD := ⟨1, false, 2, ir__law_bag⟩
def dd__law_bag : DD := ⟨top 8, "_law_bag", "_law_bag", ["_law_script", "_law_cells"], ["_law_script"]⟩
def fd__law_draw : FD := ⟨2, false, 4, ir__law_draw⟩
def dd__law_draw : DD := ⟨top 9, "_law_draw", "_law_draw", ["_law_bag_here", "_law_many", "_law_cell", "_law_got"], ["_law_bag_here", "_law_many"]⟩
def fd__law_pick : FD := ⟨2, false, 2, ir__law_pick⟩
def dd__law_pick : DD := ⟨top 10, "_law_pick", "_law_pick", ["_law_bag_here", "_law_some"], ["_law_bag_here", "_law_some"]⟩
def fd__law_letters : FD := ⟨0, false, 0, ir__law_letters⟩
def dd__law_letters : DD := ⟨top 11, "_law_letters", "_law_letters", [], []⟩
def fd__law_same : FD := ⟨2, false, 4, ir__law_same⟩
def dd__law_same : DD := ⟨top 12, "_law_same", "_law_same", ["_law_found", "_law_due", "_law_a", "_law_b"], ["_law_found", "_law_due"]⟩
def fd__law_odd : FD := ⟨1, false, 1, ir__law_odd⟩
def dd__law_odd : DD := ⟨top 13, "_law_odd", "_law_odd", ["_law_bag_here"], ["_law_bag_here"]⟩
def fd__law_gcd : FD := ⟨2, false, 4, ir__law_gcd⟩
def dd__law_gcd : DD := ⟨top 14, "_law_gcd", "_law_gcd", ["_law_a", "_law_b", "_law_left_z", "_law_right_z"], ["_law_a", "_law_b"]⟩
def fd_law : FD := ⟨1, false, 15, ir_law⟩
def dd_law : DD := ⟨top 15, "law", "law", ["_law_script", "_law_bag_here", "_law_turn", "_law_number", "_law_odd_here", "_law_length", "_law_word", "_law_spot", "_law_bent", "_law_reserved", "_law_due", "_law_p", "_law_q", "_law_asks", "_law_k"], ["_law_script"]⟩
def tab : Tab := ⟨[fd_is_int, fd_is_name, fd_is_share, fd_gcd, fd__law_bag, fd__law_draw, fd__law_pick, fd__law_letters, fd__law_same, fd__law_odd, fd__law_gcd, fd_law], [], [], [], []⟩
def gc : SCtx := ⟨[], defScope (top 3), [], [("WORDS", (.tup [(.str "in" : AV), (.str "out" : AV), (.str "proc" : AV), (.str "give" : AV)] : AV)), ("LETTERS", (.str "abcdefghijklmnopqrstuvwxyz" : AV))], [("is_int", 0), ("is_name", 1), ("is_share", 2), ("gcd", 3), ("_law_bag", 4), ("_law_draw", 5), ("_law_pick", 6), ("_law_letters", 7), ("_law_same", 8), ("_law_odd", 9), ("_law_gcd", 10), ("law", 11)], ["len", "abs", "int", "bool", "str", "isinstance", "all", "list", "tuple", "range", "zip"], [(24, 11)]⟩
theorem st_is_int : Stat gc fd_is_int dd_is_int := ⟨⟨rfl, rfl, rfl, by decide +kernel, rfl, by decide +kernel, by decide +kernel⟩, rfl, rfl, rfl, ⟨60, by kernel_rfl⟩, fun _ _ _ _ _ _ us hl => match us, hl with | [_], _ => rfl⟩
theorem st_is_name : Stat gc fd_is_name dd_is_name := ⟨⟨rfl, rfl, rfl, by decide +kernel, rfl, by decide +kernel, by decide +kernel⟩, rfl, rfl, rfl, ⟨60, by kernel_rfl⟩, fun _ _ _ _ _ _ us hl => match us, hl with | [_], _ => rfl⟩
theorem st_is_share : Stat gc fd_is_share dd_is_share := ⟨⟨rfl, rfl, rfl, by decide +kernel, rfl, by decide +kernel, by decide +kernel⟩, rfl, rfl, rfl, ⟨60, by kernel_rfl⟩, fun _ _ _ _ _ _ us hl => match us, hl with | [_], _ => rfl⟩
theorem st_gcd : Stat gc fd_gcd dd_gcd := ⟨⟨rfl, rfl, rfl, by decide +kernel, rfl, by decide +kernel, by decide +kernel⟩, rfl, rfl, rfl, ⟨60, by kernel_rfl⟩, fun _ _ _ _ _ _ us hl => match us, hl with | [_, _], _ => rfl⟩
theorem st__law_bag : Stat gc fd__law_bag dd__law_bag := ⟨⟨rfl, rfl, rfl, by decide +kernel, rfl, by decide +kernel, by decide +kernel⟩, rfl, rfl, rfl, ⟨60, by kernel_rfl⟩, fun _ _ _ _ _ _ us hl => match us, hl with | [_], _ => rfl⟩
theorem st__law_draw : Stat gc fd__law_draw dd__law_draw := ⟨⟨rfl, rfl, rfl, by decide +kernel, rfl, by decide +kernel, by decide +kernel⟩, rfl, rfl, rfl, ⟨60, by kernel_rfl⟩, fun _ _ _ _ _ _ us hl => match us, hl with | [_, _], _ => rfl⟩
theorem st__law_pick : Stat gc fd__law_pick dd__law_pick := ⟨⟨rfl, rfl, rfl, by decide +kernel, rfl, by decide +kernel, by decide +kernel⟩, rfl, rfl, rfl, ⟨60, by kernel_rfl⟩, fun _ _ _ _ _ _ us hl => match us, hl with | [_, _], _ => rfl⟩
theorem st__law_letters : Stat gc fd__law_letters dd__law_letters := ⟨⟨rfl, rfl, rfl, by decide +kernel, rfl, by decide +kernel, by decide +kernel⟩, rfl, rfl, rfl, ⟨60, by kernel_rfl⟩, fun _ _ _ _ _ _ us hl => match us, hl with | [], _ => rfl⟩
theorem st__law_same : Stat gc fd__law_same dd__law_same := ⟨⟨rfl, rfl, rfl, by decide +kernel, rfl, by decide +kernel, by decide +kernel⟩, rfl, rfl, rfl, ⟨60, by kernel_rfl⟩, fun _ _ _ _ _ _ us hl => match us, hl with | [_, _], _ => rfl⟩
theorem st__law_odd : Stat gc fd__law_odd dd__law_odd := ⟨⟨rfl, rfl, rfl, by decide +kernel, rfl, by decide +kernel, by decide +kernel⟩, rfl, rfl, rfl, ⟨60, by kernel_rfl⟩, fun _ _ _ _ _ _ us hl => match us, hl with | [_], _ => rfl⟩
theorem st__law_gcd : Stat gc fd__law_gcd dd__law_gcd := ⟨⟨rfl, rfl, rfl, by decide +kernel, rfl, by decide +kernel, by decide +kernel⟩, rfl, rfl, rfl, ⟨60, by kernel_rfl⟩, fun _ _ _ _ _ _ us hl => match us, hl with | [_, _], _ => rfl⟩
theorem st_law : Stat gc fd_law dd_law := ⟨⟨rfl, rfl, rfl, by decide +kernel, rfl, by decide +kernel, by decide +kernel⟩, rfl, rfl, rfl, ⟨60, by kernel_rfl⟩, fun _ _ _ _ _ _ us hl => match us, hl with | [_], _ => rfl⟩
theorem facts {P : Program} {w : World} {K : PySem.W.Frag} {h : Heap} {mg : Str → Option Value} {fa a0 a1 a2 a3 a4 a5 a6 a7 a8 a9 a10 a11 : Addr} (KX : K.In h) (G : h.Ns mainGlobals mg) (hfa : mg "law" = some (.ref fa))
    (n0 : PySem.W.nsIn K mainGlobals "is_int" = some (some (.ref a0))) (d0 : DefIn K dd_is_int a0)
    (n1 : PySem.W.nsIn K mainGlobals "is_name" = some (some (.ref a1))) (d1 : DefIn K dd_is_name a1)
    (n2 : PySem.W.nsIn K mainGlobals "is_share" = some (some (.ref a2))) (d2 : DefIn K dd_is_share a2)
    (n3 : PySem.W.nsIn K mainGlobals "gcd" = some (some (.ref a3))) (d3 : DefIn K dd_gcd a3)
    (n4 : PySem.W.nsIn K mainGlobals "_law_bag" = some (some (.ref a4))) (d4 : DefIn K dd__law_bag a4)
    (n5 : PySem.W.nsIn K mainGlobals "_law_draw" = some (some (.ref a5))) (d5 : DefIn K dd__law_draw a5)
    (n6 : PySem.W.nsIn K mainGlobals "_law_pick" = some (some (.ref a6))) (d6 : DefIn K dd__law_pick a6)
    (n7 : PySem.W.nsIn K mainGlobals "_law_letters" = some (some (.ref a7))) (d7 : DefIn K dd__law_letters a7)
    (n8 : PySem.W.nsIn K mainGlobals "_law_same" = some (some (.ref a8))) (d8 : DefIn K dd__law_same a8)
    (n9 : PySem.W.nsIn K mainGlobals "_law_odd" = some (some (.ref a9))) (d9 : DefIn K dd__law_odd a9)
    (n10 : PySem.W.nsIn K mainGlobals "_law_gcd" = some (some (.ref a10))) (d10 : DefIn K dd__law_gcd a10)
    (n11 : PySem.W.nsIn K mainGlobals "law" = some (some (.ref a11))) (d11 : DefIn K dd_law a11)
    (c0 : ConIn K "WORDS" (.tup [(.str "in" : AV), (.str "out" : AV), (.str "proc" : AV), (.str "give" : AV)]))
    (c1 : ConIn K "LETTERS" (.str "abcdefghijklmnopqrstuvwxyz"))
    (z0 : PySem.W.nsIn K mainGlobals "len" = some none)
    (z1 : PySem.W.nsIn K mainGlobals "abs" = some none)
    (z2 : PySem.W.nsIn K mainGlobals "int" = some none)
    (z3 : PySem.W.nsIn K mainGlobals "bool" = some none)
    (z4 : PySem.W.nsIn K mainGlobals "str" = some none)
    (z5 : PySem.W.nsIn K mainGlobals "isinstance" = some none)
    (z6 : PySem.W.nsIn K mainGlobals "all" = some none)
    (z7 : PySem.W.nsIn K mainGlobals "list" = some none)
    (z8 : PySem.W.nsIn K mainGlobals "tuple" = some none)
    (z9 : PySem.W.nsIn K mainGlobals "range" = some none)
    (z10 : PySem.W.nsIn K mainGlobals "zip" = some none)
    : ∃ (clsA fnA : Nat → Addr) (nm : Nat → Str), fnA 11 = fa ∧ DefIn K dd_law fa ∧ ∀ base, TopOk ⟨P, w, K, mg, base, clsA, fnA, nm⟩ gc.cons gc.fns gc.free ∧ ∀ f fd, tab.fns[f]? = some fd → ∃ D, FnFact ⟨P, w, K, mg, base, clsA, fnA, nm⟩ gc f fd D := by
  have e := hfa.symm.trans (PySem.W.mg_of KX G n11)
  cases e
  refine ⟨fun _ => 0, fun i => [a0, a1, a2, a3, a4, a5, a6, a7, a8, a9, a10, fa].getD i 0, fun _ => "", rfl, d11, fun base => ⟨top_of KX G ⟨c0, c1, trivial⟩ ⟨⟨n0, d0.kp⟩, ⟨n1, d1.kp⟩, ⟨n2, d2.kp⟩, ⟨n3, d3.kp⟩, ⟨n4, d4.kp⟩, ⟨n5, d5.kp⟩, ⟨n6, d6.kp⟩, ⟨n7, d7.kp⟩, ⟨n8, d8.kp⟩, ⟨n9, d9.kp⟩, ⟨n10, d10.kp⟩, ⟨n11, d11.kp⟩, trivial⟩ ⟨z0, z1, z2, z3, z4, z5, z6, z7, z8, z9, z10, trivial⟩, fun f fd hf => ?_⟩⟩
  have z := All2.get (P := fun i fd => ∃ D, FnFact ⟨P, w, K, mg, base, fun _ => 0, fun i => [a0, a1, a2, a3, a4, a5, a6, a7, a8, a9, a10, fa].getD i 0, fun _ => ""⟩ gc i fd D) (i := 0) (l := tab.fns) ⟨⟨_, st_is_int.fact d0⟩, ⟨_, st_is_name.fact d1⟩, ⟨_, st_is_share.fact d2⟩, ⟨_, st_gcd.fact d3⟩, ⟨_, st__law_bag.fact d4⟩, ⟨_, st__law_draw.fact d5⟩, ⟨_, st__law_pick.fact d6⟩, ⟨_, st__law_letters.fact d7⟩, ⟨_, st__law_same.fact d8⟩, ⟨_, st__law_odd.fact d9⟩, ⟨_, st__law_gcd.fact d10⟩, ⟨_, st_law.fact d11⟩, trivial⟩ hf
  rw [Nat.zero_add] at z
  exact z
-- FREE ['len', 'abs', 'int', 'bool', 'str', 'isinstance', 'all', 'list', 'tuple', 'range', 'zip'] CONS ['WORDS', 'LETTERS']
end K02
set_option linter.all false
set_option maxRecDepth 100000
namespace K02
open PySem NT
local macro_rules | `(tactic| walk_at "exe") => `(tactic| simp only [bnd_ok, bind_app, pure_app, of_some, ok1_true, guard_true, ite_app, ev_cst, ev_var, ev_bin, ev_neg, ev_cmp, ev_chn, ev_and, ev_or, ev_notv, ev_ifx, ev_tup, ev_lst, ev_mlst, ev_sub, ev_slc, ev_slcL, ev_slcH, ev_call, ev_blt, ev_bm, ev_lc, evT_and, evT_or, evT_not, evT_cmp, evT_chn, evT_tv, evs_nil, evs_cons, evI_rng, evI_zip, evI_itv, xec_skip, xec_seq, seqF_nx, seqF_rt, seqF_bk, seqF_ct, xec_expr, xec_ret, xec_asg, xec_unp, xec_par, xec_setSub, xec_aug, xec_ife, xec_for, xec_brk, xec_cnt, flowV_nx, flowV_rt, bindT_one, bindT_two, lget_app, cmp_eqI, cmp_neI, cmp_ltI, cmp_leI, cmp_gtI, cmp_geI, cmp_eqB, cmp_eqS, cmp_isN, cmp_notN, bin_addI, bin_subI, bin_mulI, bin_divI, bin_modI, bin_powI, asB_app, asI_app, tru_bl, blt_abs, blt_int, blt_lenL, blt_lenT, blt_lenS, blt_list, blt_listT, blt_isinst, blt_all, blt_any, sub_L, sub_T, setAll, bmTy_join, bmV_join, slc_S, bin_addS, ln_0, ln_1, ln_2, ln_3, ln_4, ln_5, ln_6, ln_7, ln_8, ln_9, ln_10, ln_11, ln_12, ln_13, ln_14, ln_15, ln_16, ln_17, ln_18, ln_19, ln_20, ln_21, ln_22, ln_23, ln_24, ty_non_int, ty_non_bool, ty_non_str, ty_non_list, ty_non_tuple, ty_bl_int, ty_bl_bool, ty_bl_str, ty_bl_list, ty_bl_tuple, ty_int_int, ty_int_bool, ty_int_str, ty_int_list, ty_int_tuple, ty_str_int, ty_str_bool, ty_str_str, ty_str_list, ty_str_tuple, ty_tup_int, ty_tup_bool, ty_tup_str, ty_tup_list, ty_tup_tuple, ty_lst_int, ty_lst_bool, ty_lst_str, ty_lst_list, ty_lst_tuple, bag0, bag1, bag2, bag3, bagS1, bagS2, bagS3, List.getElem?_cons_zero, List.getElem?_cons_succ, List.getElem?_nil, Option.getD_some, Option.getD_none, List.set_cons_zero, List.set_cons_succ, List.length_cons, List.length_nil, Option.map_some, decide_eq_true_eq, Bool.and_true, Bool.true_and, Bool.and_false, Bool.false_and, Bool.not_true, Bool.not_false, if_true, if_false, ite_true, ite_false, Bool.false_eq_true, reduceIte, decide_true, decide_false, Nat.reduceAdd, Int.cast_ofNat_Int, Int.reduceEq, Int.reduceLT, Int.reduceLE, Int.reduceAdd, Int.reduceSub, Int.reduceMul, Int.reduceNeg, Nat.zero_add])
local macro_rules | `(tactic| walk_at "exh") => `(tactic| simp only [bnd_ok, bind_app, pure_app, of_some, ok1_true, guard_true, ite_app, ev_cst, ev_var, ev_bin, ev_neg, ev_cmp, ev_chn, ev_and, ev_or, ev_notv, ev_ifx, ev_tup, ev_lst, ev_mlst, ev_sub, ev_slc, ev_slcL, ev_slcH, ev_call, ev_blt, ev_bm, ev_lc, evT_and, evT_or, evT_not, evT_cmp, evT_chn, evT_tv, evs_nil, evs_cons, evI_rng, evI_zip, evI_itv, xec_skip, xec_seq, seqF_nx, seqF_rt, seqF_bk, seqF_ct, xec_expr, xec_ret, xec_asg, xec_unp, xec_par, xec_setSub, xec_aug, xec_ife, xec_for, xec_brk, xec_cnt, flowV_nx, flowV_rt, bindT_one, bindT_two, lget_app, cmp_eqI, cmp_neI, cmp_ltI, cmp_leI, cmp_gtI, cmp_geI, cmp_eqB, cmp_eqS, cmp_isN, cmp_notN, bin_addI, bin_subI, bin_mulI, bin_divI, bin_modI, bin_powI, asB_app, asI_app, tru_bl, blt_abs, blt_int, blt_lenL, blt_lenT, blt_lenS, blt_list, blt_listT, blt_isinst, blt_all, blt_any, sub_L, sub_T, setAll, bmTy_join, bmV_join, slc_S, bin_addS, ln_0, ln_1, ln_2, ln_3, ln_4, ln_5, ln_6, ln_7, ln_8, ln_9, ln_10, ln_11, ln_12, ln_13, ln_14, ln_15, ln_16, ln_17, ln_18, ln_19, ln_20, ln_21, ln_22, ln_23, ln_24, ty_non_int, ty_non_bool, ty_non_str, ty_non_list, ty_non_tuple, ty_bl_int, ty_bl_bool, ty_bl_str, ty_bl_list, ty_bl_tuple, ty_int_int, ty_int_bool, ty_int_str, ty_int_list, ty_int_tuple, ty_str_int, ty_str_bool, ty_str_str, ty_str_list, ty_str_tuple, ty_tup_int, ty_tup_bool, ty_tup_str, ty_tup_list, ty_tup_tuple, ty_lst_int, ty_lst_bool, ty_lst_str, ty_lst_list, ty_lst_tuple, bag0, bag1, bag2, bag3, bagS1, bagS2, bagS3, List.getElem?_cons_zero, List.getElem?_cons_succ, List.getElem?_nil, Option.getD_some, Option.getD_none, List.set_cons_zero, List.set_cons_succ, List.length_cons, List.length_nil, Option.map_some, decide_eq_true_eq, Bool.and_true, Bool.true_and, Bool.and_false, Bool.false_and, Bool.not_true, Bool.not_false, if_true, if_false, ite_true, ite_false, Bool.false_eq_true, reduceIte, decide_true, decide_false, Nat.reduceAdd, Int.cast_ofNat_Int, Int.reduceEq, Int.reduceLT, Int.reduceLE, Int.reduceAdd, Int.reduceSub, Int.reduceMul, Int.reduceNeg, Nat.zero_add, *])

def lev : Nat := 40
def dp : DP := ⟨41177, 1000171, 907, 59, 2147483563, 30089, 1700047, 2147483579, 64⟩
theorem hdp : dp.Ok := by decide
theorem hbag : tab.fns[4]? = some ⟨1, false, 2, irBag 12024 17⟩ := rfl
theorem hdraw : tab.fns[5]? = some ⟨2, false, 4, irDraw dp⟩ := rfl
theorem hpick : tab.fns[6]? = some ⟨2, false, 2, irPick 5⟩ := rfl
theorem hsame : tab.fns[8]? = some ⟨2, false, 4, irSame 8⟩ := rfl
theorem hgcd : tab.fns[3]? = some ⟨2, false, 4, irGcd⟩ := rfl
theorem hgcd2 : tab.fns[10]? = some ⟨2, false, 4, irGcd⟩ := rfl
def LETS : Str := "abcdefghijklmnopqrstuvwxyz"
def g (c : Nat) : Bool := !(Builtin.Str.occurrences LETS ⟨#[c]⟩ 0 LETS.length 1).isEmpty
theorem g_let : ∀ c ∈ LETS.cps.toList, g c = true := by decide +kernel
theorem g_bad : ∀ c ∈ [65, 48, 95, 32, 45], g c = false := by decide +kernel
theorem run_int (n : Nat) (v : AV) (hv : kd v < 6) (h : AHeap) : run tab (n + 1) 0 [v] h = .ok (.bl (decide (kd v = 2))) h := by
  rw [run_succ (show tab.fns[0]? = some fd_is_int from rfl) n _ _ (σ := [some v]) rfl]
  show Out.bnd (xec _ ir_is_int _ _) _ = _
  unfold ir_is_int
  cases v <;> first | (simp [kd] at hv; done) | (walk_at "exe"; rfl)
def WS : List AV := [(.str "in" : AV), (.str "out" : AV), (.str "proc" : AV), (.str "give" : AV)]
def nameP (s : Str) : Bool := decide (1 ≤ s.length) && decide (s.length ≤ 6) && !inF (.str s) WS && s.cps.toList.all g
theorem run_nameS (n : Nat) (s : Str) (hl : s.length ≤ line) (h : AHeap) : run tab (n + 1) 1 [.str s] h = .ok (.bl (nameP s)) h := by
  rw [run_succ (show tab.fns[1]? = some fd_is_name from rfl) n _ _ (σ := [some (.str s), none]) rfl]
  show Out.bnd (xec _ ir_is_name _ _) _ = _
  unfold ir_is_name
  have q1 : cmpV .In (.str s) (.tup [(.str "in" : AV), (.str "out" : AV), (.str "proc" : AV), (.str "give" : AV)]) h = .ok (.bl (inF (.str s) WS)) h := rfl
  have ls : s.cps.toList.length = s.length := Array.length_toList
  have lc := lcL_map (F := turn (NT.run tab n) [some (.str s), none] [1] [1] (.tv (.cst (.bl true))) (.cmp .In (.var 1) (.cst (.str "abcdefghijklmnopqrstuvwxyz")))) (g := fun v => match v with | .str z => .bl (!(Builtin.Str.occurrences LETS z 0 LETS.length 1).isEmpty) | _ => .non) (h := h) (xs := s.cps.toList.map chr1) (by
    intro x hx
    obtain ⟨c, hc, rfl⟩ := List.mem_map.1 hx
    apply turn_app
    simp only [wipeL]
    have q2 : cmpV .In (chr1 c) (.str "abcdefghijklmnopqrstuvwxyz") h = .ok (.bl (g c)) h := rfl
    walk_at "exh"
    rfl)
  have e3 : (s.cps.toList.map chr1).map (fun v => match v with | AV.str z => AV.bl (!(Builtin.Str.occurrences LETS z 0 LETS.length 1).isEmpty) | _ => .non) = (s.cps.toList.map g).map .bl := by
    rw [List.map_map, List.map_map]; rfl
  rw [e3] at lc
  have e4 := allB_bl (s.cps.toList.map g)
  have e5 : ((s.cps.toList.map g).map AV.bl).length ≤ line := by rw [List.length_map, List.length_map, ls]; exact hl
  have e6 : ((s.cps.toList.map g).all id) = s.cps.toList.all g := by rw [List.all_map]; rfl
  have e7 : items (.str s) = some (s.cps.toList.map chr1) := rfl
  have e8 : (1 : Int) ≤ (s.length : Int) ↔ 1 ≤ s.length := by omega
  have e9 : (s.length : Int) ≤ 6 ↔ s.length ≤ 6 := by omega
  unfold nameP
  by_cases a1 : 1 ≤ s.length <;> by_cases a2 : s.length ≤ 6 <;> cases a3 : inF (.str s) WS
  all_goals simp only [a3] at q1
  all_goals walk_at "exh"
theorem run_nameN (n : Nat) (v : AV) (hk : kd v < 6) (hv : kd v ≠ 3) (h : AHeap) : run tab (n + 1) 1 [v] h = .ok (.bl false) h := by
  rw [run_succ (show tab.fns[1]? = some fd_is_name from rfl) n _ _ (σ := [some v, none]) rfl]
  show Out.bnd (xec _ ir_is_name _ _) _ = _
  unfold ir_is_name
  cases v <;> first | (simp [kd] at hv hk; done) | (walk_at "exe")
theorem run_shareN (n : Nat) (v : AV) (hk : kd v < 6) (hv : kd v ≠ 4) (h : AHeap) : run tab (n + 2) 2 [v] h = .ok (.bl false) h := by
  rw [run_succ (show tab.fns[2]? = some fd_is_share from rfl) (n + 1) _ _ (σ := [some v]) rfl]
  show Out.bnd (xec _ ir_is_share _ _) _ = _
  unfold ir_is_share
  cases v <;> first | (simp [kd] at hv hk; done) | (walk_at "exe")
theorem run_shareL (n : Nat) (xs : List AV) (hl : xs.length ≠ 2) (h : AHeap) : run tab (n + 2) 2 [.tup xs] h = .ok (.bl false) h := by
  rw [run_succ (show tab.fns[2]? = some fd_is_share from rfl) (n + 1) _ _ (σ := [some (.tup xs)]) rfl]
  show Out.bnd (xec _ ir_is_share _ _) _ = _
  unfold ir_is_share
  have : ¬ ((xs.length : Int) = 2) := by omega
  walk_at "exh"
theorem run_share2 (n : Nat) (a b : AV) (ha : kd a < 6) (hb : kd b < 6) (h : AHeap) : run tab (n + 2) 2 [.tup [a, b]] h = .ok (.bl (match a, b with | .int p, .int q => decide (1 ≤ q) && decide (Int.gcd p q = 1) | _, _ => false)) h := by
  rw [run_succ (show tab.fns[2]? = some fd_is_share from rfl) (n + 1) _ _ (σ := [some (.tup [a, b])]) rfl]
  show Out.bnd (xec _ ir_is_share _ _) _ = _
  unfold ir_is_share
  have e0 : L2.atI [a, b] 0 = some a := rfl
  have e1 : L2.atI [a, b] 1 = some b := rfl
  have r0 := run_int n a ha h
  have r1 := run_int n b hb h
  by_cases ka : kd a = 2
  · by_cases kb : kd b = 2
    · cases a <;> first | (simp [kd] at ka; done) | skip
      cases b <;> first | (simp [kd] at kb; done) | skip
      rename_i p q
      have r2 := run_gcd hgcd n p q h
      have e3 : ((Int.gcd p q : Nat) : Int) = 1 ↔ Int.gcd p q = 1 := by omega
      by_cases e4 : q < 1
      · have e5 : ¬ 1 ≤ q := by omega
        simp only [ka, kb] at r0 r1
        walk_at "exh"
      · have e5 : 1 ≤ q := by omega
        simp only [ka, kb] at r0 r1
        walk_at "exh"
    · simp only [ka, kb] at r0 r1
      walk_at "exh"
      cases a <;> cases b <;> first | rfl | (simp [kd] at kb; done)
  · simp only [ka] at r0 r1
    walk_at "exh"
    cases a <;> first | rfl | (simp [kd] at ka; done)

def ODDS : List AV := [.non, .bl true, .bl false, .str "", .str "A", .str "in", .str "a b", .tup [], .tup [.int 1], .lst [], .lst [.str "a"], .str "7"]
theorem run_odd (n : Nat) {b : Bag} (hb : b.Ok) (hs : AHeap) : Rn (run tab (n + 3) 9 [.ref 0] (bagO b :: hs)) (Picked ODDS hs) := by
  rw [run_succ (show tab.fns[9]? = some fd__law_odd from rfl) (n + 2) _ _ (σ := [some (.ref 0)]) rfl]
  show Rn (Out.bnd (xec _ ir__law_odd _ _) _) _
  unfold ir__law_odd
  obtain ⟨v, h', e, b', hv, hb', rfl⟩ := (run_pick hpick hdraw hdp n hb hs ODDS (by decide) (by decide)).get
  unfold ODDS at e
  walk_at "exe"
  simp only [e]
  walk_at "exe"
  exact ⟨b', hv, hb', rfl⟩
/-- what is asked of an odd value -/
def OddOk (v : AV) : Prop := kd v < 6 ∧ (∀ h, run tab 40 0 [v] h = .ok (.bl false) h) ∧ (∀ h, run tab 40 1 [v] h = .ok (.bl false) h) ∧ (∀ h, run tab 40 2 [v] h = .ok (.bl false) h)
theorem odd_ok : ∀ v ∈ ODDS, OddOk v := by
  have A : ∀ v, kd v < 6 → kd v ≠ 2 → kd v ≠ 3 → kd v ≠ 4 → OddOk v := fun v h1 h2 h3 h4 =>
    ⟨h1, fun h => by have := run_int 39 v h1 h; simpa [h2] using this, fun h => run_nameN 39 v h1 h3 h, fun h => run_shareN 38 v h1 h4 h⟩
  have B : ∀ s : Str, s.length ≤ line → nameP s = false → OddOk (.str s) := fun s h1 h2 =>
    ⟨by simp [kd], fun h => run_int 39 (.str s) (by simp [kd]) h, fun h => by have := run_nameS 39 s h1 h; rw [h2] at this; exact this, fun h => run_shareN 38 (.str s) (by simp [kd]) (by simp [kd]) h⟩
  have D : ∀ xs : List AV, xs.length ≠ 2 → OddOk (.tup xs) := fun xs h1 =>
    ⟨by simp [kd], fun h => run_int 39 (.tup xs) (by simp [kd]) h, fun h => run_nameN 39 _ (by simp [kd]) (by simp [kd]) h, fun h => run_shareL 38 xs h1 h⟩
  intro v hv
  simp only [ODDS, List.mem_cons, List.not_mem_nil, or_false] at hv
  rcases hv with rfl | rfl | rfl | rfl | rfl | rfl | rfl | rfl | rfl | rfl | rfl | rfl
  · exact A _ (by decide) (by decide) (by decide) (by decide)
  · exact A _ (by decide) (by decide) (by decide) (by decide)
  · exact A _ (by decide) (by decide) (by decide) (by decide)
  · exact B _ (by decide) (by decide +kernel)
  · exact B _ (by decide) (by decide +kernel)
  · exact B _ (by decide) (by decide +kernel)
  · exact B _ (by decide) (by decide +kernel)
  · exact D _ (by decide)
  · exact D _ (by decide)
  · exact A _ (by decide) (by decide) (by decide) (by decide)
  · exact A _ (by decide) (by decide) (by decide) (by decide)
  · exact B _ (by decide) (by decide +kernel)
theorem res_ok : ∀ v ∈ WS, ∃ s : Str, v = .str s ∧ s.length ≤ 5 ∧ nameP s = false ∧ nameP (L2.cutS s none (some 5) ++ "s") = true ∧ (L2.cutS s none (some 5)).length ≤ 5 := by
  intro v hv
  simp only [WS, List.mem_cons, List.not_mem_nil, or_false] at hv
  rcases hv with rfl | rfl | rfl | rfl
  all_goals exact ⟨_, rfl, by decide, by decide +kernel, by decide +kernel, by decide +kernel⟩
def BADS : List AV := [.str "A", .str "0", .str "_", .str " ", .str "-"]
theorem bad_ok : ∀ v ∈ BADS, ∃ c, v = .str (SX.S [c]) ∧ g c = false := by
  intro v hv
  simp only [BADS, List.mem_cons, List.not_mem_nil, or_false] at hv
  rcases hv with rfl | rfl | rfl | rfl | rfl
  · exact ⟨65, rfl, g_bad 65 (by decide)⟩
  · exact ⟨48, rfl, g_bad 48 (by decide)⟩
  · exact ⟨95, rfl, g_bad 95 (by decide)⟩
  · exact ⟨32, rfl, g_bad 32 (by decide)⟩
  · exact ⟨45, rfl, g_bad 45 (by decide)⟩
theorem run_letters (n : Nat) (h : AHeap) : run tab (n + 1) 7 [] h = .ok (.str LETS) h := rfl
/-- the word -/
theorem word_lc (σ : NT.Loc) {b : Bag} (hb : b.Ok) (hs : AHeap) (k : Int) (h1 : σ[1]? = some (some (.ref 0))) :
    Rn (lcL (turn (NT.run tab 40) σ [14] [14] (.tv (.cst (.bl true))) (.call 6 (.cons (.var 1) (.cons (.call 7 (.nil)) (.nil))))) (rngL 0 k) (bagO b :: hs))
      fun r h' => ∃ (cs : List Nat) (b' : Bag), r = cs.map chr1 ∧ cs.length = k.toNat ∧ (∀ c ∈ cs, g c = true) ∧ b'.Ok ∧ h' = bagO b' :: hs := by
  have hl : (rngL 0 k).length = k.toNat := by unfold rngL; rw [List.length_map, List.length_range]; congr 1; omega
  refine rn_lc (fun i acc h => ∃ (cs : List Nat) (b' : Bag), acc = cs.map chr1 ∧ cs.length = i ∧ (∀ c ∈ cs, g c = true) ∧ b'.Ok ∧ h = bagO b' :: hs) _ ?_ ?_ _ ⟨[], b, rfl, rfl, by simp, hb, rfl⟩
  · rintro i x acc h hx ⟨cs, b', rfl, hc, hg, hb', rfl⟩
    apply turn_rn
    simp only [wipeL]
    have e1 : ((σ.set 14 none).set 14 (some x))[1]?.getD none = some (.ref 0) := by
      simp [h1]
    have e2 := run_letters 39 (bagO b' :: hs)
    obtain ⟨v, h', e, b2, hv, hb2, rfl⟩ := (run_pickS hpick hdraw hdp 38 hb' hs LETS (by decide) (by decide)).get
    obtain ⟨c, hcm, rfl⟩ := List.mem_map.1 hv
    walk_at "exh"
    refine ⟨cs ++ [c], b2, by simp [consO], by simp [hc], ?_, hb2, rfl⟩
    intro d hd
    rcases List.mem_append.1 hd with q | q
    · exact hg d q
    · rw [List.mem_singleton.1 q]; exact g_let c hcm
  · rintro acc h ⟨cs, b', e1, e2, e3, e4, e5⟩
    exact ⟨cs, b', e1, by rw [e2, hl], e3, e4, e5⟩

theorem len_app (x y : Str) : (x ++ y).length = x.length + y.length := by
  have := congrArg List.length (TL.tl_append x y)
  rw [List.length_append] at this
  have a : ∀ z : Str, (TL.tl z).length = z.length := fun z => Array.length_toList
  rw [a, a, a] at this
  exact this
theorem bent_bad (x y : Str) (c : Nat) (hc : g c = false) : nameP (x ++ SX.S [c] ++ y) = false := by
  have e : (x ++ SX.S [c] ++ y).cps.toList = (x.cps.toList ++ [c]) ++ y.cps.toList := by
    have h1 := TL.tl_append (x ++ SX.S [c]) y
    have h2 := TL.tl_append x (SX.S [c])
    rw [h2] at h1
    exact h1
  unfold nameP
  rw [e]
  simp [hc]
def turnS : S := match ir_law with
  | .seq _ (.seq (.for_ _ _ b) _) => b
  | s => s
def Pv (s : AV) (_ : Nat) (σ : NT.Loc) (h : AHeap) : Prop := ∃ (b : Bag) (v2 v3 v4 v5 v6 v7 v8 v9 v10 v11 v12 v13 v14 : Option AV), b.Ok ∧ h = [bagO b] ∧ σ = [some s, some (.ref 0), v2, v3, v4, v5, v6, v7, v8, v9, v10, v11, v12, v13, v14]
theorem turn_ok (s : AV) (i : Nat) (k : Int) (σ : NT.Loc) (h : AHeap) (hp : Pv s i σ h) : Rn (xec (NT.run tab 40) turnS (σ.set 2 (some (.int k))) h) fun f h' => match f with
    | .nx σ' => Pv s (i + 1) σ' h'
    | _ => False := by
  obtain ⟨b, v2, v3, v4, v5, v6, v7, v8, v9, v10, v11, v12, v13, v14, hb, rfl, rfl⟩ := hp
  have p30 : powOk 10 30 = true := by decide
  have d30 : divOk (10 ^ ((30 : Int).toNat)) = true := by decide +kernel
  obtain ⟨_, _, e1, d1, b1, rfl, _, _, hb1, rfl⟩ := (run_draw hdraw hdp 39 hb [] (m := 10 ^ ((30 : Int).toNat)) (by decide) d30).get
  obtain ⟨_, _, e2, d2, b2, rfl, _, _, hb2, rfl⟩ := (run_draw hdraw hdp 39 hb1 [] (m := 10 ^ ((30 : Int).toNat)) (by decide) d30).get
  obtain ⟨odd, _, e3, b3, hodd, hb3, rfl⟩ := (run_odd 37 hb2 []).get
  obtain ⟨ok, o1, o2, o3⟩ := odd_ok odd hodd
  obtain ⟨_, _, e4, d5, b4, rfl, f1, f2, hb4, rfl⟩ := (run_draw hdraw hdp 39 hb3 [] (m := 9) (by decide) (by decide)).get
  have i1 : ∀ (i : Int) h, NT.run tab 40 0 [.int i] h = .ok (.bl true) h := fun i h => run_int 39 (.int i) (by simp [kd]) h
  have i2 : ∀ (i : Bool) h, NT.run tab 40 0 [.bl i] h = .ok (.bl false) h := fun i h => run_int 39 (.bl i) (by simp [kd]) h
  have hsm : ∀ a b h, fine 1 a = true → fine 1 b = true → NT.run tab 40 8 [a, b] h = .ok (.bl (same a b)) h := fun a b h => run_same hsame 1 38 a b h
  have s1 := hsm (.lst [.bl true, .bl true, .bl false, .bl false]) (.lst [.bl true, .bl true, .bl false, .bl false]) [bagO b3] rfl rfl
  have s1' : same (.lst [.bl true, .bl true, .bl false, .bl false]) (.lst [.bl true, .bl true, .bl false, .bl false]) = true := rfl
  rw [s1'] at s1
  obtain ⟨_, _, e5, cs, b5, rfl, c1, c2, hb5, rfl⟩ := (word_lc [some s, some (.ref 0), some (.int k), some (.int (d1 - d2)), some odd, some (.int d5), v6, v7, v8, v9, v10, v11, v12, v13, v14] hb4 [] d5 rfl).get
  have r1 : rngOk 0 d5 = true := by simp [rngOk]; omega
  have lw : cs.length ≤ line := by unfold line; omega
  have lw' : (cs.map chr1).length ≤ line := by rw [List.length_map]; exact lw
  have jn := join_chr cs lw
  obtain ⟨_, _, e6, d7, b6, rfl, f3, f4, hb6, rfl⟩ := (run_draw hdraw hdp 39 hb5 [] (m := d5 + 1) (by omega) (divOk_s (by omega) (by omega))).get
  obtain ⟨bad, _, e7, b7, hbad, hb7, rfl⟩ := (run_pick hpick hdraw hdp 38 hb6 [] BADS (by decide) (by decide)).get
  obtain ⟨c, rfl, hc⟩ := bad_ok bad hbad
  obtain ⟨res, _, e8, b8, hres, hb8, rfl⟩ := (run_pick hpick hdraw hdp 38 hb7 [] WS (by decide) (by decide)).get
  obtain ⟨rs, rfl, l5, n3, n7, l6⟩ := res_ok res hres
  obtain ⟨_, _, e9, d11, b9, rfl, f5, f6, hb9, rfl⟩ := (run_draw hdraw hdp 39 hb8 [] (m := 41) (by decide) (by decide)).get
  obtain ⟨_, _, e10, d12, b10, rfl, f7, f8, hb10, rfl⟩ := (run_draw hdraw hdp 39 hb9 [] (m := 21) (by decide) (by decide)).get
  unfold BADS at e7
  unfold WS at e8
  have lS : (SX.S cs).length = cs.length := SX.S_len cs
  have lS' : (SX.S cs).length ≤ line := by rw [lS]; exact lw
  have k1 := L2.cutS_length (SX.S cs) none (some d7)
  have k2 := L2.cutS_length (SX.S cs) (some d7) none
  have k3 : (SX.S [c]).length = 1 := rfl
  have g1 : (L2.cutS (SX.S cs) none (some d7)).length + (SX.S [c]).length ≤ line := by unfold line; omega
  have g2 : (L2.cutS (SX.S cs) none (some d7) ++ SX.S [c]).length + (L2.cutS (SX.S cs) (some d7) none).length ≤ line := by rw [len_app]; unfold line; omega
  have g3 : (L2.cutS (SX.S cs) none (some d7) ++ SX.S [c] ++ L2.cutS (SX.S cs) (some d7) none).length ≤ line := by rw [len_app]; exact g2
  have g4 : rs.length ≤ line := by unfold line; omega
  have g5 : (L2.cutS rs none (some 5)).length + (("s" : Str)).length ≤ line := by have : (("s" : Str)).length = 1 := rfl; unfold line; omega
  have g6 : (L2.cutS rs none (some 5) ++ ("s" : Str)).length ≤ line := by rw [len_app]; exact g5
  have q1 : ∀ h, NT.run tab 40 1 [.str (SX.S cs)] h = .ok (.bl (nameP (SX.S cs))) h := fun h => run_nameS 39 _ lS' h
  have q2 : ∀ h, NT.run tab 40 1 [.str (L2.cutS (SX.S cs) none (some d7) ++ SX.S [c] ++ L2.cutS (SX.S cs) (some d7) none)] h = .ok (.bl false) h := fun h => by
    have := run_nameS 39 _ g3 h; rw [bent_bad _ _ _ hc] at this; exact this
  have q3 : ∀ h, NT.run tab 40 1 [.str rs] h = .ok (.bl false) h := fun h => by have := run_nameS 39 _ g4 h; rw [n3] at this; exact this
  have q4 : ∀ (i : Int) h, NT.run tab 40 1 [.int i] h = .ok (.bl false) h := fun i h => run_nameN 39 (.int i) (by simp [kd]) (by simp [kd]) h
  have q5 : ∀ xs h, NT.run tab 40 1 [.tup xs] h = .ok (.bl false) h := fun xs h => run_nameN 39 (.tup xs) (by simp [kd]) (by simp [kd]) h
  have q6 : ∀ h, NT.run tab 40 1 [.str (L2.cutS rs none (some 5) ++ ("s" : Str))] h = .ok (.bl true) h := fun h => by have := run_nameS 39 _ g6 h; rw [n7] at this; exact this
  have q7 : ∀ h, cmpV .NotIn (.str (SX.S cs)) (.lst [.str "in", .str "out", .str "proc", .str "give"]) h = .ok (.bl (!inF (.str (SX.S cs)) WS)) h := fun h => rfl
  have nm : nameP (SX.S cs) = (decide (1 ≤ d5) && decide (d5 ≤ 6) && !inF (.str (SX.S cs)) WS) := by
    unfold nameP
    have : (SX.S cs).cps.toList.all g = true := List.all_eq_true.2 c2
    rw [this, lS, c1, Bool.and_true]
    have z1 : decide (1 ≤ d5.toNat) = decide (1 ≤ d5) := by apply decide_eq_decide.2; omega
    have z2 : decide (d5.toNat ≤ 6) = decide (d5 ≤ 6) := by apply decide_eq_decide.2; omega
    rw [z1, z2]
  have s2 : ∀ (x : Bool) h, NT.run tab 40 8 [.lst [.bl x, .bl false, .bl false, .bl false, .bl false, .bl false, .bl true], .lst [.bl x, .bl false, .bl false, .bl false, .bl false, .bl false, .bl true]] h = .ok (.bl true) h := fun x h => by
    rw [hsm _ _ h rfl rfl]; simp [same, sames]
  have s3 : ∀ (x : Bool) h, NT.run tab 40 8 [.lst [.bl x, .bl false, .bl false, .bl false, .bl false, .bl false, .bl false, .bl false, .bl true, .bl false], .lst [.bl x, .bl false, .bl false, .bl false, .bl false, .bl false, .bl false, .bl false, .bl true, .bl false]] h = .ok (.bl true) h := fun x h => by
    rw [hsm _ _ h rfl rfl]; simp [same, sames]
  have t1 : ∀ (p q : Int) h, NT.run tab 40 2 [.tup [.int p, .int q]] h = .ok (.bl (decide (1 ≤ q) && decide (Int.gcd p q = 1))) h := fun p q h => run_share2 38 (.int p) (.int q) (by simp [kd]) (by simp [kd]) h
  have t2 : ∀ (xs : List AV) h, NT.run tab 40 2 [.lst xs] h = .ok (.bl false) h := fun xs h => run_shareN 38 (.lst xs) (by simp [kd]) (by simp [kd]) h
  have t3 : ∀ (a b c : AV) h, NT.run tab 40 2 [.tup [a, b, c]] h = .ok (.bl false) h := fun a b c h => run_shareL 38 [a, b, c] (by simp) h
  have t4 : ∀ (a : AV) h, NT.run tab 40 2 [.tup [a]] h = .ok (.bl false) h := fun a h => run_shareL 38 [a] (by simp) h
  have t5 : ∀ (i : Int) h, NT.run tab 40 2 [.int i] h = .ok (.bl false) h := fun i h => run_shareN 38 (.int i) (by simp [kd]) (by simp [kd]) h
  have t6 : ∀ h, NT.run tab 40 2 [.tup [.bl true, .int 1]] h = .ok (.bl false) h := fun h => run_share2 38 (.bl true) (.int 1) (by simp [kd]) (by simp [kd]) h
  have t7 : ∀ (p : Int) h, NT.run tab 40 2 [.tup [.int p, .str "1"]] h = .ok (.bl false) h := fun p h => run_share2 38 (.int p) (.str "1") (by simp [kd]) (by simp [kd]) h
  have t8 : ∀ h, NT.run tab 40 2 [.tup [.int 0, .int 1]] h = .ok (.bl true) h := fun h => run_share2 38 (.int 0) (.int 1) (by simp [kd]) (by simp [kd]) h
  have t9 : ∀ h, NT.run tab 40 2 [.tup [.int 0, .int 2]] h = .ok (.bl false) h := fun h => run_share2 38 (.int 0) (.int 2) (by simp [kd]) (by simp [kd]) h
  have u1 : ∀ (p q : Int) h, NT.run tab 40 10 [.int p, .int q] h = .ok (.int (Int.gcd p q : Nat)) h := fun p q h => run_gcd hgcd2 39 p q h
  have u2 : ∀ p q : Int, ((Int.gcd p q : Nat) : Int) = 1 ↔ Int.gcd p q = 1 := fun p q => by omega
  have u3 : ∀ q : Int, 0 < q ↔ 1 ≤ q := fun q => by omega
  have w1 : Int.gcd 0 1 = 1 := rfl
  have w2 : (Int.gcd 0 2 = 1) = False := by decide
  rw [nm] at q1
  clear hsm nm lS c1 k1 k2 k3 s1'
  unfold turnS ir_law
  simp only [List.set_cons_succ, List.set_cons_zero]
  rw [xec_seq]
  by_cases y1 : 1 ≤ d5 <;> by_cases y2 : d5 ≤ 6 <;> by_cases y3 : 1 ≤ d12 - 4
  all_goals simp only [y1, y2, y3, decide_true, decide_false, Bool.true_and, Bool.and_true, Bool.false_and, Bool.and_false] at q1
  all_goals walk_at "exh"
  all_goals exact ⟨b10, _, _, _, _, _, _, _, _, _, _, _, _, _, hb10, rfl, rfl⟩
theorem law_true : ∀ ns : List Int, ns.length ≤ 63 → (∀ z ∈ ns, Builtin.Int.intBits z ≤ 1048576) → ∃ h', run tab (lev + 1) 11 [.lst (ns.map .int)] [] = .ok (.bl true) h' := by
  intro ns hn _
  have key : Rn (run tab (lev + 1) 11 [.lst (ns.map .int)] []) fun v h' => v = .bl true := by
    rw [run_succ (show tab.fns[11]? = some fd_law from rfl) lev _ _ (σ := [some (.lst (ns.map .int)), none, none, none, none, none, none, none, none, none, none, none, none, none, none]) rfl]
    show Rn (Out.bnd (xec (NT.run tab 40) ir_law _ _) _) _
    obtain ⟨_, _, e1, rfl, b, hb, rfl⟩ := (run_bag hbag (by decide) 39 ns hn).get
    have r1 : rngOk 0 8 = true := by decide
    unfold ir_law
    walk_at "exh"
    have inv := rn_for (body := forB (NT.run tab 40) [2] turnS) (Q := fun f h' => ∃ σ', f = .nx σ') (Pv (.lst (ns.map .int))) (rngL 0 8) (by
      intro i x σ h hx hp
      have hk : ∃ k : Int, x = .int k := by
        have := List.mem_of_getElem? hx
        unfold rngL at this
        obtain ⟨k, _, rfl⟩ := List.mem_map.1 this
        exact ⟨_, rfl⟩
      obtain ⟨k, rfl⟩ := hk
      rw [forB_app, bindT_one, bnd_ok]
      refine (turn_ok _ i k σ h hp).mono fun f h' q => ?_
      cases f with
      | nx σ' => exact q
      | _ => exact q.elim) (fun σ h _ => ⟨σ, rfl⟩)
      [some (.lst (ns.map .int)), some (.ref 0), none, none, none, none, none, none, none, none, none, none, none, none, none] [bagO b] ⟨b, _, _, _, _, _, _, _, _, _, _, _, _, _, hb, rfl, rfl⟩
    obtain ⟨_, h', e, σ', rfl⟩ := inv.get
    have e' := e
    unfold turnS ir_law at e'
    simp only [e']
    walk_at "exe"
    rfl
  obtain ⟨v, h', e, rfl⟩ := key.get
  exact ⟨h', e⟩
end K02
open PySem PySem.W PyProof.Rows in
set_option maxRecDepth 100000 in
set_option maxHeartbeats 0 in
theorem PySem.Challenge.cw_numbertypes_k02_integers_names_and_share_holds : PySem.Challenge.rw_numbertypes_k02_integers_names_and_share.Holds := by
  w_on; o_law; k_head; (case hw => w_witness2)
  k_fill
  refine NT.law_walk (l := PySem.Challenge.rw_numbertypes_k02_integers_names_and_share) (T := K02.tab) (g := K02.gc) (x := "_law_script") (k := K02.lev) (fl := 11) (fd := K02.fd_law) (D := K02.dd_law) rfl rfl ⟨rfl, by decide, by decide⟩ (fun w h Y => PySem.W.kIn_of Y) rfl rfl K02.st_law ?F K02.law_true
  case F =>
    intro w mg fa h KX G hmg
    refine' K02.facts KX G hmg ?n0 ?d0 ?n1 ?d1 ?n2 ?d2 ?n3 ?d3 ?n4 ?d4 ?n5 ?d5 ?n6 ?d6 ?n7 ?d7 ?n8 ?d8 ?n9 ?d9 ?n10 ?d10 ?n11 ?d11 ?c0 ?c1 ?z0 ?z1 ?z2 ?z3 ?z4 ?z5 ?z6 ?z7 ?z8 ?z9 ?z10
    (case n0 => k_is)
    (case n1 => k_is)
    (case n2 => k_is)
    (case n3 => k_is)
    (case n4 => k_is)
    (case n5 => k_is)
    (case n6 => k_is)
    (case n7 => k_is)
    (case n8 => k_is)
    (case n9 => k_is)
    (case n10 => k_is)
    (case n11 => k_is)
    (case z0 => k_is)
    (case z1 => k_is)
    (case z2 => k_is)
    (case z3 => k_is)
    (case z4 => k_is)
    (case z5 => k_is)
    (case z6 => k_is)
    (case z7 => k_is)
    (case z8 => k_is)
    (case z9 => k_is)
    (case z10 => k_is)
    (case d0 => refine' NT.defIn_mk ?l ?c ?k; (case l => k_is); (case c => k_is); (case k => k_is))
    (case d1 => refine' NT.defIn_mk ?l ?c ?k; (case l => k_is); (case c => k_is); (case k => k_is))
    (case d2 => refine' NT.defIn_mk ?l ?c ?k; (case l => k_is); (case c => k_is); (case k => k_is))
    (case d3 => refine' NT.defIn_mk ?l ?c ?k; (case l => k_is); (case c => k_is); (case k => k_is))
    (case d4 => refine' NT.defIn_mk ?l ?c ?k; (case l => k_is); (case c => k_is); (case k => k_is))
    (case d5 => refine' NT.defIn_mk ?l ?c ?k; (case l => k_is); (case c => k_is); (case k => k_is))
    (case d6 => refine' NT.defIn_mk ?l ?c ?k; (case l => k_is); (case c => k_is); (case k => k_is))
    (case d7 => refine' NT.defIn_mk ?l ?c ?k; (case l => k_is); (case c => k_is); (case k => k_is))
    (case d8 => refine' NT.defIn_mk ?l ?c ?k; (case l => k_is); (case c => k_is); (case k => k_is))
    (case d9 => refine' NT.defIn_mk ?l ?c ?k; (case l => k_is); (case c => k_is); (case k => k_is))
    (case d10 => refine' NT.defIn_mk ?l ?c ?k; (case l => k_is); (case c => k_is); (case k => k_is))
    (case d11 => refine' NT.defIn_mk ?l ?c ?k; (case l => k_is); (case c => k_is); (case k => k_is))
    (case c0 => refine' NT.con_tup ["in", "out", "proc", "give"] ?a ?b ?c ?d; (case a => k_is); (case b => k_is); (case c => decide); (case d => exact .cons ⟨_, rfl⟩ (.cons ⟨_, rfl⟩ (.cons ⟨_, rfl⟩ (.cons ⟨_, rfl⟩ (.nil))))))
    (case c1 => refine' NT.con_str ?a; (case a => k_is))

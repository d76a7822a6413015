import PyProof.Rows.All
import Wide.All
import OpenK.AllK
import Wide.FinOn
import HandS.ForMost
import HandS.ForExc
import HandS.IsInst
import HandS.TupAny
import HandS.Zip
import HandS.Wide
import HandS.Star
import HandS.Walk
import HandS.NoneIn
import HandS.Flow
import HandS.Style
import HandS.HotCalls
import HandS.ExcField
import HandS.ExcInit
import HandS.Lambda
import KE.KExcSuper
import KE.KSuper
import HandS.StrMore
import HandS.Property
import KE.GoesEnum
import HandS.FStr
import PyProof.FString3
import PyProof.Rows.StrIntSpec
import KE.KTryMore
import HandS.Defaults
import HandS.EndOwn
import HandS.EndBits
import HandS.Codes
import HandS.Head0
import HandS.Head1
import HandS.Head2
import HandS.HeadHook1
import HandS.HeadHook2
import HandS.HeadNt
import PySem.Challenge.RW_numbertypes_k72_whole_costs_of_nested_sc
set_option Elab.async false
set_option linter.all false
namespace NT
open PySem

/-- abstract values: tuples, lists, finished objects by value; what is mutated by its place in the heap -/
inductive AV where
  | non | bl (b : Bool) | int (i : Int) | str (s : Str) | ty (n : String)
  | tup (xs : List AV) | lst (xs : List AV) | obj (c : Nat) (ks : List Nat) (vs : List AV)
  | ref (n : Nat) | cls (c : Nat) | fn (f : Nat)
  | dct (ks vs : List AV) | exo (c : Nat) (ks : List Nat) (vs : List AV)
  deriving Inhabited

inductive AObj where
  | dead | lst (xs : List AV) | ins (c : Nat) (ks : List Nat) (vs : List AV) | dct (ks vs : List AV)
  deriving Inhabited
abbrev AHeap := List AObj
abbrev Loc := List (Option AV)

/-- what a piece of code comes to -/
inductive Out (α : Type) where
  | ok (a : α) (h : AHeap) | exc (c : Nat) (ks : List Nat) (vs : List AV) (h : AHeap) | bad
abbrev M (α : Type) := AHeap → Out α
def M.bind {α β : Type} (m : M α) (f : α → M β) : M β := fun h => match m h with
  | .ok a h' => f a h'
  | .exc c ks vs h' => .exc c ks vs h'
  | .bad => .bad
def M.pure {α : Type} (a : α) : M α := fun h => .ok a h
def M.bad {α : Type} : M α := fun _ => .bad
instance : Monad M where
  pure := M.pure
  bind := M.bind
def M.guard (b : Bool) : M Unit := fun h => if b = true then .ok () h else .bad
def M.of {α : Type} : Option α → M α
  | some a => M.pure a
  | none => M.bad

/-- built-in functions and classes that are called -/
inductive B where
  | len | abs | int | bool | str | isinstance | all | any | sum | max | min | list | tuple | sorted | repr | type
  deriving DecidableEq, Inhabited
/-- methods of built-in classes -/
inductive BM where
  | join | append | index | get | split | partition | isdigit | startswith | rjust | pop | clear | insert | replace | items | values | count
  deriving DecidableEq, Inhabited

/-- an argument: the one that was written there, or a default -/
inductive AI where
  | pl (i : Nat) | dv (j : Nat) (v : AV)
  deriving Inhabited
/-- a form of call: so many values by place, these names, where the values go -/
structure Pat where
  np : Nat
  ks : List Str
  ix : List AI
  deriving Inhabited
inductive E where
  | cst (v : AV) | var (i : Nat)
  | bin (op : Operator) (a b : E) | neg (a : E)
  | cmp (op : CmpOp) (a b : E) | chn (op op' : CmpOp) (a b c : E)
  | and (a b : E) | or (a b : E) | not (a : E) | notv (a : E) | ifx (t a b : E)
  | nil | cons (a r : E) | star (a r : E)
  | tup (es : E) | lst (es : E)
  | sub (a i : E) | slc (a lo hi : E) | slcL (a lo : E) | slcH (a hi : E) | attr (a : E) (f : Nat)
  | call (f : Nat) (es : E) | meth (o : E) (m : Nat) (es : E) | new (c : Nat) (es : E) | blt (b : B) (es : E) | bm (m : BM) (o es : E)
  | rng (a b : E) | zip (a b : E) | enm (a : E)
  | lc (tg : List Nat) (vs : List Nat) (it cond elt : E)
  | mlst (es : E) | tv (a : E) | itv (a : E) | got (cat : List Nat) (a : E)
  | arr (ix : List AI) (es kes : E) | fst (es : E) | fmt (a : E) | mlc (tg : List Nat) (vs : List Nat) (it cond elt : E) | mbin (op : Operator) (a b : E) | mblt (b : B) (es : E)
  | dct (ks vs : E) | mdct (ks vs : E) | lc2 (tg : List Nat) (vs : List Nat) (it : E) (tg2 : List Nat) (it2 cond elt : E) | dlc (tg : List Nat) (vs : List Nat) (it cond k elt : E)
  | pcall (f : Nat) (es : E) | fms (w : Nat) (a : E) | lrep (es b : E)
  | lcg (m : Bool) (tg vs : List Nat) (it cond body : E) | gen (tg vs : List Nat) (it cond body : E) | gel (a : E)
  | lamv (k : Nat) (body : E) | gall (cat : List Nat) (a : E)
  deriving Inhabited
inductive S where
  | skip | seq (a b : S) | expr (e : E) | ret (e : E) | asg (i : Nat) (e : E) | unp (is : List Nat) (e : E) | par (is : List Nat) (es : E)
  | setSub (o i v : E) | setFld (o : E) (f : Nat) (v : E) | aug (i : Nat) (op : Operator) (e : E)
  | ife (t : E) (a b : S) | for_ (tg : List Nat) (it : E) (b : S) | whl (t : E) (b : S) | brk | cnt
  | raise (c np : Nat) (ks : List Nat) (txt : Str) (ix : List Nat) (es : E)
  deriving Inhabited
/-- what a name of a class is: an attribute of its instances, a property, a constant -/
inductive AK where
  | fld | prop (g : Nat) | con (v : AV)
  deriving Inhabited
/-- classes: by the number of a name, then by class -/
structure CT where
  attr : List (Nat × List (Nat × AK))
  meth : List (Nat × List (Nat × Nat))
  init : List (Nat × Nat)
  sub : List (Nat × List Nat)
  pats : List (Nat × Pat)
  ko : List Nat
  deriving Inhabited
def CT.attrOf (t : CT) (f c : Nat) : Option AK := (t.attr.lookup f).bind (·.lookup c)
def CT.methOf (t : CT) (f c : Nat) : Option Nat := (t.meth.lookup f).bind (·.lookup c)
/-- how a statement leaves -/
inductive Flow where
  | nx (σ : Loc) | rt (v : AV) | bk (σ : Loc) | ct (σ : Loc)
/-- classes, calls, loops, the way out of a def, lambdas -/
structure Orc where
  ct : CT
  call : Nat → List AV → M AV
  whl : (Loc → M Bool) → (Loc → M Flow) → Loc → M Flow
  ex : AHeap → Out AV → Out AV
  lamOk : Nat → E → Bool
  lam : Nat → Loc → M AV

end NT
set_option linter.all false
set_option autoImplicit false
namespace NT
open PySem
/-! ### what `_law_got` tells of an exception -/
inductive FR where
  | inn (ss : List Str) (f : Str) | eq1 (s f : Str) | eq2 (s f g : Str)
/-- the names of the attributes that are handed back; none: None -/
def fgo : List FR → Str → Str → Str → List Str
  | [], s0, f0, s => if s = s0 then [f0] else []
  | .inn ss f :: r, s0, f0, s => if ss.any (fun y => y == s) = true then [f] else fgo r s0 f0 s
  | .eq1 t f :: r, s0, f0, s => if s = t then [f] else fgo r s0 f0 s
  | .eq2 t f g :: r, s0, f0, s => if s = t then [f, g] else fgo r s0 f0 s
def FR.names : FR → List Str
  | .inn _ f => [f] | .eq1 _ f => [f] | .eq2 _ f g => [f, g]
/-- the attributes of the errors, by their numbers -/
def exN : List Str := ["code", "given", "at", "number", "name", "most", "procedure", "part", "rule", "line"]
/-- `_law_field`: one form in all laws -/
def fldR : List FR := [
  .inn ["InvalidNumber", "InvalidThing", "InvalidRing", "InvalidName", "InvalidOrder", "WrongCount"] "given",
  .inn ["InvalidTerm", "InvalidLine", "InvalidProduct", "InvalidCommand", "DegreeTooHigh", "NotWhole", "NotStraight", "NoUnit"] "at",
  .inn ["NoInverse", "Unsound", "InUse", "Broken", "UnknownNumber"] "number",
  .inn ["Unused", "DuplicateName", "UnknownName"] "name",
  .inn ["TooMany", "TooGreat", "Full"] "most",
  .eq2 "InvalidStep" "procedure" "at",
  .eq1 "InvalidHead" "part",
  .eq1 "InvalidTable" "rule"]
/-- attribute f of an exception -/
def exAt (ks : List Nat) (vs : List AV) (f : Str) : Option AV := ((ks.map fun k => exN.getD k "").zip vs).lookup f
def gotV (cat : List Nat) (c : Nat) (ks : List Nat) (vs : List AV) : Option AV :=
  if cat.contains c && ks.all (· < 10) then (match exAt ks vs "code" with
    | some (.str s) => (match fgo fldR "InvalidText" "line" s with
      | [] => some (.tup [.str s, .non])
      | [f] => (exAt ks vs f).map fun v => .tup [.str s, v]
      | [f, g] => (match exAt ks vs f, exAt ks vs g with
        | some v, some w => some (.tup [.str s, .tup [v, w]])
        | _, _ => none)
      | _ => none)
    | _ => none)
  else none
end NT
set_option linter.all false
namespace NT
open PySem

def line : Nat := 16777216
/-! ### arithmetic: what the model's rules let -/
def mulOk (i j : Int) : Bool := decide (i.natAbs < 2 ^ 64) || decide (j.natAbs < 2 ^ 64) || decide (i.natAbs.log2 + j.natAbs.log2 < 1000000)
def divOk (j : Int) : Bool := decide (j ≠ 0) && (decide (j.natAbs < 1073741824) || (decide (0 < j) && decide (j.natAbs.log2 < 9000)))
def powOk (i j : Int) : Bool := decide (0 ≤ j) && decide (j ≤ 1000000) && decide (i.natAbs < 2 ^ 64)
def rngOk (i j : Int) : Bool := decide (-(2 ^ 62) ≤ i) && decide (i < 2 ^ 62) && decide (-(2 ^ 62) ≤ j) && decide (j < 2 ^ 62)

/-! ### data -/
mutual
def toD : AV → Option PyData
  | .non => some .none
  | .bl b => some (.bool b)
  | .int i => some (.int i)
  | .str s => some (.str s)
  | .tup xs => (toDs xs).map .tuple
  | .lst xs => (toDs xs).map .list
  | _ => none
def toDs : List AV → Option (List PyData)
  | [] => some []
  | x :: xs => match toD x, toDs xs with
    | some d, some ds => some (d :: ds)
    | _, _ => none
end
def flat : AV → Bool
  | .non => true | .bl _ => true | .int _ => true | .str _ => true | _ => false
def eqF : AV → AV → Bool
  | .non, .non => true
  | .bl a, .bl b => a == b
  | .bl a, .int j => (if a then 1 else 0) == j
  | .int i, .bl b => i == (if b then 1 else 0)
  | .int i, .int j => i == j
  | .str x, .str y => x == y
  | _, _ => false
/-- == of data -/
def eqA (a b : AV) : Option Bool :=
  if flat a && flat b then some (eqF a b) else
  match toD a, toD b with
  | some d, some e => if SeqAt.shaped d && SeqAt.shaped e then some (PyData.eqv d e) else none
  | _, _ => none

def ok1 {α : Type} (b : Bool) (a : α) : M α := fun h => if b = true then .ok a h else .bad

def binV : Operator → AV → AV → M AV
  | .Add, .int i, .int j => M.pure (.int (i + j))
  | .Add, .str x, .str y => ok1 (decide (x.length + y.length ≤ line)) (.str (x ++ y))
  | .Add, .lst xs, .lst ys => ok1 (decide (xs.length + ys.length ≤ line)) (.lst (xs ++ ys))
  | .Add, .tup xs, .tup ys => ok1 (decide (xs.length + ys.length ≤ line)) (.tup (xs ++ ys))
  | .Sub, .int i, .int j => M.pure (.int (i - j))
  | .Mult, .int i, .int j => ok1 (mulOk i j) (.int (i * j))
  | .FloorDiv, .int i, .int j => ok1 (divOk j) (.int (i.fdiv j))
  | .Mod, .int i, .int j => ok1 (decide (j ≠ 0)) (.int (i.fmod j))
  | .Pow, .int i, .int j => ok1 (powOk i j) (.int (i ^ j.toNat))
  | .LShift, .int i, .int j => ok1 (powOk i j) (.int (i * 2 ^ j.toNat))
  | .BitAnd, .int i, .int j => M.pure (.int (Builtin.bitAnd i j))
  | .BitOr, .int i, .int j => M.pure (.int (Builtin.bitOr i j))
  | .BitXor, .int i, .int j => M.pure (.int (Builtin.bitXor i j))
  | _, _, _ => M.bad
def negV : AV → M AV
  | .int i => M.pure (.int (-i))
  | _ => M.bad
def inF (x : AV) (ys : List AV) : Bool := ys.any fun y => eqF y x
def cmpV : CmpOp → AV → AV → M AV
  | .Eq, a, b => M.of ((eqA a b).map .bl)
  | .NotEq, a, b => M.of ((eqA a b).map fun r => .bl (!r))
  | .Lt, .int i, .int j => M.pure (.bl (decide (i < j)))
  | .LtE, .int i, .int j => M.pure (.bl (decide (i ≤ j)))
  | .Gt, .int i, .int j => M.pure (.bl (decide (j < i)))
  | .GtE, .int i, .int j => M.pure (.bl (decide (j ≤ i)))
  | .Lt, .str x, .str y => M.pure (.bl (decide (x.cps.toList < y.cps.toList)))
  | .Is, a, .non => M.pure (.bl (match a with | .non => true | _ => false))
  | .IsNot, a, .non => M.pure (.bl (match a with | .non => false | _ => true))
  | .In, .str x, .str y => M.pure (.bl (!(Builtin.Str.occurrences y x 0 y.length 1).isEmpty))
  | .NotIn, .str x, .str y => M.pure (.bl (Builtin.Str.occurrences y x 0 y.length 1).isEmpty)
  | .In, x, .lst ys => ok1 (flat x && ys.all flat) (.bl (inF x ys))
  | .In, x, .tup ys => ok1 (flat x && ys.all flat) (.bl (inF x ys))
  | .NotIn, x, .lst ys => ok1 (flat x && ys.all flat) (.bl (!inF x ys))
  | .NotIn, x, .tup ys => ok1 (flat x && ys.all flat) (.bl (!inF x ys))
  | _, _, _ => M.bad
/-- a op= b -/
def augV : Operator → AV → AV → M AV
  | .Add, .int i, .int j => M.pure (.int (i + j))
  | .Sub, .int i, .int j => M.pure (.int (i - j))
  | .Mult, .int i, .int j => ok1 (decide (i.natAbs < 2 ^ 64) || decide (j.natAbs < 2 ^ 64)) (.int (i * j))
  | .FloorDiv, .int i, .int j => ok1 (decide (0 < j) && decide (j < 1073741824)) (.int (i / j))
  | .Add, .str x, .str y => ok1 (decide (x.length + y.length ≤ line)) (.str (x ++ y))
  | _, _, _ => M.bad
/-- truth; a list of the heap too -/
def truV : AV → M Bool
  | .non => M.pure false
  | .bl b => M.pure b
  | .int i => M.pure (i != 0)
  | .str s => ok1 (decide (s.length ≤ line)) ((s.length : Int) != 0)
  | .tup xs => M.pure (!xs.isEmpty)
  | .lst xs => M.pure (!xs.isEmpty)
  | _ => M.bad
def asB : AV → M Bool
  | .bl b => M.pure b
  | _ => M.bad
def chr1 (c : Nat) : AV := .str ⟨#[c]⟩
def lstAt (h : AHeap) (n : Nat) : Option (List AV) := match h[n]? with
  | some (.lst xs) => some xs
  | _ => none
def subV : AV → AV → M AV
  | .lst xs, .int i => M.of (L2.atI xs i)
  | .tup xs, .int i => M.of (L2.atI xs i)
  | .str s, .int i => if s.length ≤ line then M.of ((L2.atI s.cps.toList i).map chr1) else M.bad
  | .ref n, .int i => fun h => match lstAt h n with
    | some xs => M.of (L2.atI xs i) h
    | none => .bad
  | _, _ => M.bad
def asS : AV → M Str
  | .str s => M.pure s
  | _ => M.bad
def asI : AV → M Int
  | .int i => M.pure i
  | _ => M.bad
def cut {α : Type} (xs : List α) (lo hi : Option Int) : List α := (xs.drop (HT.sIx xs.length 0 lo)).take (HT.sIx xs.length xs.length hi - HT.sIx xs.length 0 lo)
def slcV (a : AV) (l u : Option Int) : M AV := match a with
  | .lst xs => M.pure (.lst (cut xs l u))
  | .tup xs => M.pure (.tup (cut xs l u))
  | .str s => ok1 (decide (s.length ≤ line)) (.str (L2.cutS s l u))
  | _ => M.bad
def setSubV : AV → AV → AV → M Unit
  | .ref n, .int i, v => fun h => match lstAt h n with
    | some xs => (match L2.ixN xs.length i with
      | some j => .ok () (h.set n (.lst (xs.set j v)))
      | none => .bad)
    | none => .bad
  | _, _, _ => M.bad

/-! ### built-ins -/
def tyN : AV → Option String
  | .non => some "NoneType" | .bl _ => some "bool" | .int _ => some "int" | .str _ => some "str" | .tup _ => some "tuple" | .lst _ => some "list"
  | _ => none
/-- isinstance of a built-in class, told for the few that are asked -/
def isTy (a : AV) (T : String) : Option Bool := match tyN a with
  | some n => if T = "int" ∨ T = "bool" ∨ T = "str" ∨ T = "list" ∨ T = "tuple" then some (decide (n = T) || (decide (n = "bool") && decide (T = "int"))) else none
  | none => none
def allB : List AV → Option (List Bool)
  | [] => some []
  | .bl b :: r => (allB r).map (b :: ·)
  | _ => none
def maxI : List Int → Option AV
  | [] => none
  | x :: xs => some (.int (xs.foldl (fun a b => if b > a then b else a) x))
def minI : List Int → Option AV
  | [] => none
  | x :: xs => some (.int (xs.foldl (fun a b => if b < a then b else a) x))
def allI : List AV → Option (List Int)
  | [] => some []
  | .int b :: r => (allI r).map (b :: ·)
  | _ => none
def allS : List AV → Option (List Str)
  | [] => some []
  | .str b :: r => (allS r).map (b :: ·)
  | _ => none
def bltV : B → List AV → M AV
  | .len, [.lst xs] => M.pure (.int xs.length)
  | .len, [.tup xs] => M.pure (.int xs.length)
  | .len, [.str s] => ok1 (decide (s.length ≤ line)) (.int s.length)
  | .len, [.ref n] => fun h => match lstAt h n with
    | some xs => .ok (.int xs.length) h
    | none => .bad
  | .abs, [.int i] => M.pure (.int (if i < 0 then -i else i))
  | .int, [.int i] => M.pure (.int i)
  | .int, [.bl b] => M.pure (.int (if b then 1 else 0))
  | .bool, [.int i] => M.pure (.bl (i != 0))
  | .bool, [.bl b] => M.pure (.bl b)
  | .str, [.int i] => ok1 (decide (i.natAbs.log2 < 1920)) (.str (Str.ofString (toString i)))
  | .isinstance, [a, .ty T] => M.of ((isTy a T).map .bl)
  | .all, [.lst xs] => M.of ((allB xs).map fun bs => .bl (bs.all id))
  | .any, [.lst xs] => M.of ((allB xs).map fun bs => .bl (bs.any id))
  | .sum, [.lst xs] => M.of ((allI xs).map fun ns => .int ns.sum)
  | .sum, [.tup xs] => M.of ((allI xs).map fun ns => .int ns.sum)
  | .max, [.int i, .int j] => M.pure (.int (if j > i then j else i))
  | .min, [.int i, .int j] => M.pure (.int (if j < i then j else i))
  | .max, [.lst xs] => M.of ((allI xs).bind maxI)
  | .max, [.tup xs] => M.of ((allI xs).bind maxI)
  | .min, [.lst xs] => M.of ((allI xs).bind minI)
  | .min, [.tup xs] => M.of ((allI xs).bind minI)
  | .list, [.lst xs] => M.pure (.lst xs)
  | .list, [.tup xs] => M.pure (.lst xs)
  | .tuple, [.lst xs] => M.pure (.tup xs)
  | .tuple, [.tup xs] => M.pure (.tup xs)
  | _, _ => M.bad
def joinV (sep : Str) (ss : Option (List Str)) : M AV := match ss with
  | some ss => ok1 (decide ((ss.map (·.length)).sum + ss.length * sep.length ≤ line)) (.str (Txt.join sep ss))
  | none => M.bad
/-- the receiver is of the method's own class -/
def bmTy (h : AHeap) : BM → AV → Bool
  | .join, .str _ => true
  | .rjust, .str _ => true
  | .append, .ref n => (lstAt h n).isSome
  | .clear, .ref n => (lstAt h n).isSome
  | _, _ => false
def bmG (m : BM) (x : AV) : M Unit := fun h => if bmTy h m x = true then .ok () h else .bad
def bmV : BM → AV → List AV → M AV
  | .join, .str sep, [.lst xs] => joinV sep (allS xs)
  | .rjust, .str s, [.int i] => ok1 (PadOk i) (.str (Txt.rjust s i))
  | .append, .ref n, [v] => fun h => (match lstAt h n with
    | some xs => if xs.length < line then .ok .non (h.set n (.lst (xs ++ [v]))) else .bad
    | none => .bad)
  | .clear, .ref n, [] => fun h => (match lstAt h n with
    | some _ => .ok .non (h.set n (.lst []))
    | none => .bad)
  | _, _, _ => M.bad

/-! ### what is walked -/
def rngL (a b : Int) : List AV := (List.range (b - a).toNat).map fun i => .int (a + (i : Nat))
def items : AV → Option (List AV)
  | .lst xs => some xs
  | .tup xs => some xs
  | .str s => some (s.cps.toList.map chr1)
  | _ => none
/-- a list or a tuple -/
def seqV : AV → Option (List AV)
  | .lst xs => some xs
  | .tup xs => some xs
  | _ => none
def zipV (a b : AV) : Option (List AV) := match seqV a, seqV b with
  | some xs, some ys => some (List.zipWith (fun x y => .tup [x, y]) xs ys)
  | _, _ => none
def enmL (xs : List AV) : List AV := (List.range xs.length).zipWith (fun i x => .tup [.int (i : Nat), x]) xs
def lget (σ : Loc) (i : Nat) : M AV := M.of (σ[i]?.getD none)
def wipeL (σ : Loc) : List Nat → Loc
  | [] => σ
  | v :: vs => (wipeL σ vs).set v none
def setAll : List Nat → List AV → Loc → Option Loc
  | [], [], σ => some σ
  | i :: is, x :: xs, σ => setAll is xs (σ.set i (some x))
  | _, _, _ => none
/-- `i, (a, b, ..)` is kept as i, i, a, b, .. -/
def nestB : List Nat → Bool
  | i :: j :: _ :: _ :: _ => i == j
  | _ => false
def setAs (is : List Nat) (x : AV) (σ : Loc) : Option Loc := match x with
  | .tup xs => setAll is xs σ
  | .lst xs => setAll is xs σ
  | _ => none
def nst2 (is : List Nat) (xs : List AV) (σ : Loc) : Option Loc := match is, xs with
  | i :: _ :: js, [v, w] => setAs js w (σ.set i (some v))
  | _, _ => none
def setN (is : List Nat) (xs : List AV) (σ : Loc) : Option Loc := bif nestB is then nst2 is xs σ else setAll is xs σ
/-- one place: a name; several: a tuple (or a list) of names -/
def bindT (is : List Nat) (x : AV) (σ : Loc) : M Loc := match is with
  | [i] => M.pure (σ.set i (some x))
  | _ => match x with
    | .tup xs => M.of (setN is xs σ)
    | .lst xs => M.of (setN is xs σ)
    | _ => M.bad
def consO : Option AV → List AV → List AV
  | some y, r => y :: r
  | none, r => r
def lcL (f : AV → M (Option AV)) : List AV → M (List AV)
  | [] => M.pure []
  | x :: xs => M.bind (f x) fun o => M.bind (lcL f xs) fun r => M.pure (consO o r)

def lcLL (f : AV → M (List AV)) : List AV → M (List AV)
  | [] => M.pure []
  | x :: xs => M.bind (f x) fun o => M.bind (lcLL f xs) fun r => M.pure (o ++ r)
/-- a list by value, or a new one of the heap -/
def lstM (m : Bool) (zs : List AV) : M AV := if zs.length ≤ line then (if m = true then fun h => .ok (.ref h.length) (h ++ [.lst zs]) else M.pure (.lst zs)) else M.bad
/-- no exception leaves -/
def noexc {α : Type} (m : M α) : M α := fun h => match m h with
  | .ok a h' => .ok a h'
  | _ => .bad

/-! ### leaving: what was made since is handed out by value -/
mutual
def frzA (R : Nat → Option AV) : AV → Option AV
  | .ref n => R n
  | .tup xs => (frzAs R xs).map .tup
  | .lst xs => (frzAs R xs).map .lst
  | .obj c ks xs => (frzAs R xs).map (.obj c ks)
  | .non => some .non
  | .bl b => some (.bl b)
  | .int i => some (.int i)
  | .str s => some (.str s)
  | .ty n => some (.ty n)
  | .cls c => some (.cls c)
  | _ => none
def frzAs (R : Nat → Option AV) : List AV → Option (List AV)
  | [] => some []
  | x :: xs => match frzA R x, frzAs R xs with
    | some y, some ys => some (y :: ys)
    | _, _ => none
end
/-- what stood ahead of place n0 stays a reference -/
def frzR (n0 : Nat) (h : AHeap) : Nat → Nat → Option AV
  | 0, _ => none
  | k + 1, n => if n < n0 then some (.ref n) else match h[n]? with
    | some (.lst xs) => (frzAs (frzR n0 h k) xs).map .lst
    | some (.ins c ks xs) => (frzAs (frzR n0 h k) xs).map (.obj c ks)
    | _ => none
mutual
/-- all references stand ahead of place n -/
def refB (n : Nat) : AV → Bool
  | .ref m => decide (m < n)
  | .tup xs => refBs n xs
  | .lst xs => refBs n xs
  | .obj _ _ xs => refBs n xs
  | .dct ks vs => refBs n ks && refBs n vs
  | .exo _ _ xs => refBs n xs
  | _ => true
def refBs (n : Nat) : List AV → Bool
  | [] => true
  | x :: xs => refB n x && refBs n xs
end
def refBO (n : Nat) : AObj → Bool
  | .dead => true
  | .lst xs => refBs n xs
  | .ins _ _ xs => refBs n xs
  | .dct ks vs => refBs n ks && refBs n vs
/-- what stood there tells of nothing that was made since -/
def OkOld (h h' : AHeap) : Prop := ∀ (i : Nat) (o : AObj), i < h.length → h'[i]? = some o → h[i]? = some o ∨ refBO h.length o = true
open Classical in
noncomputable def exitV (h h' : AHeap) (vs : List AV) : Option (List AV × AHeap) :=
  if h'.length = h.length then some (vs, h') else
  if OkOld h h' then (frzAs (frzR h.length h' (h'.length + 1)) vs).map fun ws => (ws, h'.take h.length) else none
noncomputable def exitO (h : AHeap) : Out AV → Out AV
  | .ok v h' => (match exitV h h' [v] with
    | some ([w], h2) => .ok w h2
    | _ => .bad)
  | .exc c ks vs h' => (match exitV h h' vs with
    | some (ws, h2) => .exc c ks ws h2
    | none => .bad)
  | .bad => .bad

/-! ### classes -/
/-- the class and the attributes of an instance -/
def insOf (h : AHeap) : AV → Option (Nat × List Nat × List AV)
  | .obj c ks vs => some (c, ks, vs)
  | .ref n => (match h[n]? with
    | some (.ins c ks vs) => some (c, ks, vs)
    | _ => none)
  | _ => none
def attrV (C : Orc) (f : Nat) (x : AV) : M AV := fun h => match insOf h x with
  | some (c, ks, vs) => (match C.ct.attrOf f c with
    | some .fld => M.of ((ks.zip vs).lookup f) h
    | some (.prop g) => noexc (C.call g [x]) h
    | some (.con v) => if ks.contains f then .bad else .ok v h
    | none => .bad)
  | none => .bad
/-- the def of a method -/
def methV (C : Orc) (m : Nat) (x : AV) : M Nat := fun h => match insOf h x with
  | some (c, ks, _) => if ks.contains m then .bad else M.of (C.ct.methOf m c) h
  | none => .bad
def newV (C : Orc) (c : Nat) (xs : List AV) : M AV := fun h => match C.ct.init.lookup c with
  | some g => C.ex h (match C.call g (.ref h.length :: xs) (h ++ [.ins c [] []]) with
    | .ok .non h' => .ok (.ref h.length) h'
    | .ok _ _ => .bad
    | .exc k ks vs h' => .exc k ks vs h'
    | .bad => .bad)
  | none => .bad
def putF (f : Nat) (v : AV) : List Nat → List AV → List Nat × List AV
  | k :: ks, w :: vs => if k = f then (k :: ks, v :: vs) else ((putF f v ks vs).1.cons k, (putF f v ks vs).2.cons w)
  | _, _ => ([f], [v])
def setFldV (C : Orc) (f : Nat) (x v : AV) : M Unit := fun h => match x with
  | .ref n => (match h[n]? with
    | some (.ins c ks vs) => (match C.ct.attrOf f c with
      | some .fld => if ks.length < 1000 then .ok () (h.set n (.ins c (putF f v ks vs).1 (putF f v ks vs).2)) else .bad
      | _ => .bad)
    | _ => .bad)
  | _ => .bad
/-- the numbers of the names that the language asks for -/
abbrev nEq : Nat := 11
abbrev nLen : Nat := 12
abbrev nBool : Nat := 13
abbrev nRepr : Nat := 14
abbrev nIn : Nat := 15
def plainV : AV → Bool
  | .non => true | .bl _ => true | .int _ => true | .str _ => true | .tup _ => true | .lst _ => true | _ => false
/-- a call that lets nothing out and gives a bool -/
def callB (C : Orc) (g : Nat) (xs : List AV) : M AV := M.bind (noexc (C.call g xs)) fun r => M.bind (asB r) fun k => M.pure (.bl k)
/-- x == y by the own __eq__ of x -/
def eqO (C : Orc) (x y : AV) (c : Nat) : M AV := fun h => match C.ct.methOf nEq c, C.ct.sub.lookup c with
  | some g, some _ => (match y with
    | .obj c' _ _ => (match C.ct.sub.lookup c' with
      | some l => if c' = c ∨ l.contains c = false then callB C g [x, y] h else .bad
      | none => .bad)
    | y => if plainV y then callB C g [x, y] h else .bad)
  | _, _ => .bad
def cmpO (C : Orc) (op : CmpOp) (x y : AV) : M AV := fun h => match op, x, y with
  | .Eq, .obj c ks vs, y => eqO C (.obj c ks vs) y c h
  | .In, x, .obj c ks vs => (match C.ct.methOf nIn c with
    | some g => callB C g [.obj c ks vs, x] h
    | none => .bad)
  | op, x, y => cmpV op x y h
/-- isinstance of one class -/
def isi1 (C : Orc) (x : AV) : AV → Option Bool
  | .ty T => (match x with
    | .obj c _ _ => if (C.ct.sub.lookup c).isSome = true ∧ (T = "int" ∨ T = "bool" ∨ T = "str" ∨ T = "list" ∨ T = "tuple") then some false else none
    | x => isTy x T)
  | .cls c => (match C.ct.sub.lookup c with
    | some _ => (match x with
      | .obj c' _ _ => (C.ct.sub.lookup c').map (·.contains c)
      | x => if plainV x then some false else none)
    | none => none)
  | _ => none
def isiA (C : Orc) (x : AV) : List AV → Option Bool
  | [] => some false
  | t :: ts => match isi1 C x t with
    | some true => some true
    | some false => isiA C x ts
    | none => none
/-- an own class's len, bool, repr; isinstance -/
def bltO (C : Orc) (b : B) (xs : List AV) : M AV := fun h => match b, xs with
  | .len, [.obj c ks vs] => (match C.ct.methOf nLen c with
    | some g => M.bind (noexc (C.call g [.obj c ks vs])) (fun r => M.bind (asI r) fun k => ok1 (decide (0 ≤ k) && decide (k < 9223372036854775808)) (.int k)) h
    | none => .bad)
  | .bool, [.obj c ks vs] => (match C.ct.methOf nBool c with
    | some g => callB C g [.obj c ks vs] h
    | none => .bad)
  | .repr, [.obj c ks vs] => (match C.ct.methOf nRepr c with
    | some g => M.bind (noexc (C.call g [.obj c ks vs])) (fun r => M.bind (asS r) fun k => M.pure (.str k)) h
    | none => .bad)
  | .isinstance, [x, .ty T] => M.of ((isi1 C x (.ty T)).map .bl) h
  | .isinstance, [x, .cls c] => M.of ((isi1 C x (.cls c)).map .bl) h
  | .isinstance, [x, .tup ts] => if ts.isEmpty then .bad else M.of ((isiA C x ts).map .bl) h
  | b, xs => bltV b xs h
def arrL (xs : List AV) : List AI → Option (List AV)
  | [] => some []
  | .pl i :: r => match xs[i]?, arrL xs r with
    | some x, some ys => some (x :: ys)
    | _, _ => none
  | .dv _ v :: r => (arrL xs r).map (v :: ·)
/-- the text of a part of an f-string -/
def txtV : AV → Option Str
  | .str s => if s.length ≤ line then some s else none
  | .int i => if i.natAbs.log2 < 1920 then some (Str.ofString (toString i)) else none
  | _ => none
/-- {x:>w} of an integer from 0 on -/
def fmsV (w : Nat) : AV → M AV
  | .int i => ok1 (decide (0 ≤ i) && decide (i.natAbs.log2 < 1920)) (.str (Txt.rjust (Str.ofString (toString i)) w))
  | _ => M.bad
def repOk (n : Nat) (k : Int) : Bool := decide (-(2 ^ 63) ≤ k) && decide (k < 2 ^ 63) && decide (n * k.toNat ≤ line)
/-- a call that sees the values as they stand and changes nothing -/
def pureV (C : Orc) (f : Nat) (xs : List AV) : M AV := fun h => match frzAs (frzR 0 h (h.length + 1)) xs with
  | some ys => (match C.call f ys [] with
    | .ok v _ => if flat v = true then .ok v h else .bad
    | _ => .bad)
  | none => .bad
/-- what `_law_got` makes of an outcome -/
def gotO (cat : List Nat) : Out AV → Out AV
  | .ok v h' => .ok (.tup [.str "", v]) h'
  | .exc c ks vs h' => M.of (gotV cat c ks vs) h'
  | .bad => .bad
/-- `_law_got` of a kept lambda -/
def gotF (cat : List Nat) (lam : Nat → M AV) : AV → M AV
  | .fn k => fun h => gotO cat (lam k h)
  | _ => M.bad
/-! ### a program's table -/
structure FD where
  np : Nat          -- parameters (without the star)
  star : Bool
  nl : Nat          -- all places
  body : S
  fz : Bool         -- what is handed back is handed back by value
structure Tab where
  fns : List FD
  ct : CT
  lams : List E

section
variable (C : Orc)
mutual
def ev (σ : Loc) : E → M AV
  | .cst v => M.pure v
  | .var i => lget σ i
  | .bin op a b => M.bind (ev σ a) fun x => M.bind (ev σ b) fun y => binV op x y
  | .neg a => M.bind (ev σ a) negV
  | .cmp op a b => M.bind (ev σ a) fun x => M.bind (ev σ b) fun y => cmpO C op x y
  | .chn op op' a b c => M.bind (ev σ a) fun x => M.bind (ev σ b) fun y => M.bind (cmpO C op x y) fun r => M.bind (asB r) fun k =>
      if k = true then M.bind (ev σ c) fun z => cmpO C op' y z else M.pure (.bl false)
  | .and a b => M.bind (ev σ a) fun x => M.bind (asB x) fun k => if k = true then ev σ b else M.pure (.bl false)
  | .or a b => M.bind (ev σ a) fun x => M.bind (asB x) fun k => if k = true then M.pure (.bl true) else ev σ b
  | .notv a => M.bind (ev σ a) fun x => M.bind (asB x) fun k => M.pure (.bl (!k))
  | .ifx t a b => M.bind (evT σ t) fun k => if k = true then ev σ a else ev σ b
  | .tup es => M.bind (evs σ es) fun xs => ok1 (decide (xs.length ≤ line)) (.tup xs)
  | .lst es => M.bind (evs σ es) fun xs => ok1 (decide (xs.length ≤ line)) (.lst xs)
  | .mlst es => M.bind (evs σ es) fun xs => if xs.length ≤ line then fun h => .ok (.ref h.length) (h ++ [.lst xs]) else M.bad
  | .sub a i => M.bind (ev σ a) fun x => M.bind (ev σ i) fun y => subV x y
  | .slc a lo hi => M.bind (ev σ a) fun x => M.bind (ev σ lo) fun l => M.bind (asI l) fun l => M.bind (ev σ hi) fun u => M.bind (asI u) fun u => slcV x (some l) (some u)
  | .slcL a lo => M.bind (ev σ a) fun x => M.bind (ev σ lo) fun l => M.bind (asI l) fun l => slcV x (some l) none
  | .slcH a hi => M.bind (ev σ a) fun x => M.bind (ev σ hi) fun u => M.bind (asI u) fun u => slcV x none (some u)
  | .call f es => M.bind (evs σ es) fun xs => C.call f xs
  | .blt b es => M.bind (evs σ es) fun xs => bltO C b xs
  | .attr a f => M.bind (ev σ a) fun x => attrV C f x
  | .meth o m es => M.bind (ev σ o) fun x => M.bind (methV C m x) fun g => M.bind (evs σ es) fun xs => C.call g (x :: xs)
  | .new c es => M.bind (evs σ es) fun xs => newV C c xs
  | .fst es => M.bind (evJ σ es Str.empty) fun z => M.pure (.str z)
  | .fmt a => M.bind (ev σ a) fun x => M.of ((txtV x).map .str)
  | .bm m o es => M.bind (ev σ o) fun x => M.bind (bmG m x) fun _ => M.bind (evs σ es) fun xs => bmV m x xs
  | .lc tg vs it cond elt => M.bind (evI σ it) fun xs => M.bind (lcL (fun x => noexc (M.bind (bindT tg x (wipeL σ vs)) fun σ2 => M.bind (evT σ2 cond) fun k =>
      if k = true then M.bind (ev σ2 elt) fun y => M.pure (some y) else M.pure none)) xs) fun ys => ok1 (decide (ys.length ≤ line)) (.lst ys)
  | .got cat a => fun h => (match ev σ a h with
    | .ok v h' => .ok (.tup [.str "", v]) h'
    | .exc c ks vs h' => M.of (gotV cat c ks vs) h'
    | .bad => .bad)
  | .lcg m tg vs it cond body => M.bind (evI σ it) fun xs => M.bind (noexc (lcLL (fun x => M.bind (bindT tg x (wipeL σ vs)) fun σ2 => M.bind (evT σ2 cond) fun k =>
      if k = true then evG σ2 body else M.pure []) xs)) fun zs => lstM m zs
  | .pcall f es => M.bind (evs σ es) fun xs => pureV C f xs
  | .fms w a => M.bind (ev σ a) fun x => fmsV w x
  | .lrep es b => M.bind (evs σ es) fun xs => if xs.length ≤ line then M.bind (ev σ b) fun y => M.bind (asI y) fun k => ok1 (repOk xs.length k) (.lst (List.replicate k.toNat xs).flatten) else M.bad
  | .lamv k b => ok1 (C.lamOk k b) (.fn k)
  | .gall cat a => M.bind (ev σ a) fun x => (match x with
    | .lst xs => M.bind (lcL (fun y => noexc (M.bind (gotF cat (fun k => C.lam k σ) y) fun z => M.pure (some z))) xs) fun ys => ok1 (decide (ys.length ≤ line)) (.lst ys)
    | _ => M.bad)
  | _ => M.bad
def evT (σ : Loc) : E → M Bool
  | .and a b => M.bind (evT σ a) fun k => if k = true then evT σ b else M.pure false
  | .or a b => M.bind (evT σ a) fun k => if k = true then M.pure true else evT σ b
  | .not a => M.bind (evT σ a) fun k => M.pure (!k)
  | .cmp op a b => M.bind (ev σ a) fun x => M.bind (ev σ b) fun y => M.bind (cmpO C op x y) asB
  | .chn op op' a b c => M.bind (ev σ a) fun x => M.bind (ev σ b) fun y => M.bind (cmpO C op x y) fun r => M.bind (asB r) fun k =>
      if k = true then M.bind (ev σ c) fun z => M.bind (cmpO C op' y z) asB else M.pure false
  | .tv a => M.bind (ev σ a) truV
  | _ => M.bad
def evs (σ : Loc) : E → M (List AV)
  | .nil => M.pure []
  | .cons a r => M.bind (ev σ a) fun x => M.bind (evs σ r) fun xs => M.pure (x :: xs)
  | .star a r => M.bind (ev σ a) fun x => (match x with
    | .lst ys => M.bind (evs σ r) fun xs => M.pure (ys ++ xs)
    | .tup ys => M.bind (evs σ r) fun xs => M.pure (ys ++ xs)
    | _ => M.bad)
  | .arr ix es kes => M.bind (evs σ es) fun xs => M.bind (evs σ kes) fun ys => M.of (arrL (xs ++ ys) ix)
  | _ => M.bad
def evJ (σ : Loc) : E → Str → M Str
  | .nil, z => M.pure z
  | .cons a r, z => M.bind (ev σ a) fun x => (match x with
    | .str y => if (z ++ y).length ≤ line then evJ σ r (z ++ y) else M.bad
    | _ => M.bad)
  | _, _ => M.bad
def evG (σ : Loc) : E → M (List AV)
  | .gen tg vs it cond body => M.bind (evI σ it) fun xs => lcLL (fun x => M.bind (bindT tg x (wipeL σ vs)) fun σ2 => M.bind (evT σ2 cond) fun k => if k = true then evG σ2 body else M.pure []) xs
  | .gel a => M.bind (ev σ a) fun y => M.pure [y]
  | _ => M.bad
def evI (σ : Loc) : E → M (List AV)
  | .rng a b => M.bind (ev σ a) fun x => M.bind (ev σ b) fun y => (match x, y with
    | .int i, .int j => ok1 (rngOk i j) (rngL i j)
    | _, _ => M.bad)
  | .zip a b => M.bind (ev σ a) fun x => M.bind (ev σ b) fun y => M.of (zipV x y)
  | .enm a => M.bind (ev σ a) fun x => (match x with
    | .lst xs => M.pure (enmL xs)
    | .tup xs => M.pure (enmL xs)
    | _ => M.bad)
  | .itv a => M.bind (ev σ a) fun x => M.of (items x)
  | _ => M.bad
end

def forL (body : AV → Loc → M Flow) : List AV → Loc → M Flow
  | [], σ => M.pure (.nx σ)
  | x :: xs, σ => M.bind (body x σ) fun f => match f with
    | .nx σ' => forL body xs σ'
    | .ct σ' => forL body xs σ'
    | .bk σ' => M.pure (.nx σ')
    | .rt v => M.pure (.rt v)
end

/-! ### loops -/
def Out.map {α β : Type} (f : α → β) : Out α → Out β
  | .ok a h => .ok (f a) h
  | .exc c ks vs h => .exc c ks vs h
  | .bad => .bad
/-- n turns of a while at most: none, where they don't suffice -/
def whlN (t : Loc → M Bool) (body : Loc → M Flow) : Nat → Loc → AHeap → Option (Out Flow)
  | 0, _, _ => none
  | n + 1, σ, h => match t σ h with
    | .ok true h1 => (match body σ h1 with
      | .ok (.nx σ') h2 => whlN t body n σ' h2
      | .ok (.ct σ') h2 => whlN t body n σ' h2
      | .ok (.bk σ') h2 => some (.ok (.nx σ') h2)
      | .ok (.rt v) h2 => some (.ok (.rt v) h2)
      | .exc c ks vs h2 => some (.exc c ks vs h2)
      | .bad => some .bad)
    | .ok false h1 => some (.ok (.nx σ) h1)
    | .exc c ks vs h1 => some (.exc c ks vs h1)
    | .bad => some .bad
open Classical in
noncomputable def whl (t : Loc → M Bool) (body : Loc → M Flow) (σ : Loc) : M Flow := fun h =>
  if e : ∃ n, (whlN t body n σ h).isSome = true then (whlN t body (Classical.choose e) σ h).getD .bad else .bad
theorem whlN_mono {t : Loc → M Bool} {body : Loc → M Flow} : ∀ {n m : Nat} {σ : Loc} {h : AHeap} {r : Out Flow}, whlN t body n σ h = some r → n ≤ m → whlN t body m σ h = some r
  | 0, _, _, _, _, e, _ => by cases e
  | n + 1, 0, _, _, _, _, l => by omega
  | n + 1, m + 1, σ, h, r, e, l => by
    unfold whlN at e ⊢
    split at e
    · rename_i h1 e1
      split at e
      · exact whlN_mono e (by omega)
      · exact whlN_mono e (by omega)
      all_goals exact e
    all_goals exact e
theorem whl_of {t : Loc → M Bool} {body : Loc → M Flow} {n : Nat} {σ : Loc} {h : AHeap} {r : Out Flow} (e : whlN t body n σ h = some r) : whl t body σ h = r := by
  have ex : ∃ n, (whlN t body n σ h).isSome = true := ⟨n, by rw [e]; rfl⟩
  unfold whl
  rw [dif_pos ex]
  have hc := Classical.choose_spec ex
  cases q : whlN t body (Classical.choose ex) σ h with
  | none => rw [q] at hc; cases hc
  | some r' =>
    have a := whlN_mono e (Nat.le_max_left n (Classical.choose ex))
    have b := whlN_mono q (Nat.le_max_right n (Classical.choose ex))
    rw [a] at b
    cases b
    rfl
/-- a while that comes to something comes to it in some turns -/
theorem whl_some {t : Loc → M Bool} {body : Loc → M Flow} {σ : Loc} {h : AHeap} {r : Out Flow} (e : whl t body σ h = r) (hr : r ≠ .bad) : ∃ n, whlN t body n σ h = some r := by
  unfold whl at e
  split at e
  · rename_i ex
    have hc := Classical.choose_spec ex
    cases q : whlN t body (Classical.choose ex) σ h with
    | none => rw [q] at hc; cases hc
    | some r' => rw [q] at e; exact ⟨_, by rw [q]; exact congrArg some e⟩
  · exact absurd e.symm hr

section
variable (C : Orc)
def xec : S → Loc → M Flow
  | .skip, σ => M.pure (.nx σ)
  | .seq a b, σ => M.bind (xec a σ) fun f => (match f with
    | .nx σ' => xec b σ'
    | .rt v => M.pure (.rt v)
    | .bk σ' => M.pure (.bk σ')
    | .ct σ' => M.pure (.ct σ'))
  | .expr e, σ => M.bind (ev C σ e) fun _ => M.pure (.nx σ)
  | .ret e, σ => M.bind (ev C σ e) fun v => M.pure (.rt v)
  | .asg i e, σ => M.bind (ev C σ e) fun v => M.pure (.nx (σ.set i (some v)))
  | .unp is e, σ => M.bind (ev C σ e) fun v => M.bind (bindT is v σ) fun σ' => M.pure (.nx σ')
  | .par is es, σ => M.bind (evs C σ es) fun xs => M.bind (M.of (setAll is xs σ)) fun σ' => M.pure (.nx σ')
  | .setFld o f v, σ => M.bind (ev C σ v) fun x => M.bind (ev C σ o) fun y => M.bind (setFldV C f y x) fun _ => M.pure (.nx σ)
  | .setSub o i v, σ => M.bind (ev C σ v) fun x => M.bind (ev C σ o) fun y => M.bind (ev C σ i) fun z => M.bind (setSubV y z x) fun _ => M.pure (.nx σ)
  | .aug i op e, σ => M.bind (lget σ i) fun x => M.bind (ev C σ e) fun y => M.bind (augV op x y) fun z => M.pure (.nx (σ.set i (some z)))
  | .ife t a b, σ => M.bind (evT C σ t) fun k => if k = true then xec a σ else xec b σ
  | .for_ tg it b, σ => M.bind (evI C σ it) fun xs => forL (fun x σ' => M.bind (bindT tg x σ') fun σ2 => xec b σ2) xs σ
  | .whl t b, σ => C.whl (fun σ' => evT C σ' t) (fun σ' => xec b σ') σ
  | .brk, σ => M.pure (.bk σ)
  | .cnt, σ => M.pure (.ct σ)
  | .raise c np ks txt ix es, σ => M.bind (evs C σ es) fun xs h => if xs.length = np then .exc c ks (.str txt :: ix.map fun i => xs.getD i .non) h else .bad
end
def startL (fd : FD) (args : List AV) : Option Loc :=
  if fd.star = true then (if fd.np ≤ args.length ∧ args.length - fd.np ≤ line then some ((args.take fd.np).map some ++ (some (.tup (args.drop fd.np)) :: List.replicate (fd.nl - fd.np - 1) none)) else none)
  else (if args.length = fd.np then some (args.map some ++ List.replicate (fd.nl - fd.np) none) else none)
def flowV : Flow → M AV
  | .nx _ => M.pure .non
  | .rt v => M.pure v
  | _ => M.bad
/-- a call, by what the defs beneath do -/
def callW (T : Tab) (C : Orc) (f : Nat) (args : List AV) : M AV := match T.fns[f]? with
  | some fd => (match startL fd args with
    | some σ => fun h => if fd.fz = true then C.ex h (M.bind (xec C fd.body σ) flowV h) else M.bind (xec C fd.body σ) flowV h
    | none => M.bad)
  | none => M.bad
def lamW (T : Tab) (C : Orc) (k : Nat) (σ : Loc) : M AV := match T.lams[k]? with
  | some e => ev C σ e
  | none => M.bad
open Classical in
noncomputable def orcM (T : Tab) (p : (Nat → List AV → M AV) × (Nat → Loc → M AV)) : Orc := ⟨T.ct, p.1, whl, exitO, fun k e => decide (T.lams[k]? = some e), p.2⟩
noncomputable def orcR (T : Tab) : Nat → (Nat → List AV → M AV) × (Nat → Loc → M AV)
  | 0 => (fun _ _ => M.bad, fun _ _ => M.bad)
  | n + 1 => (callW T (orcM T (orcR T n)), lamW T (orcM T (orcR T n)))
noncomputable def orc (T : Tab) (n : Nat) : Orc := orcM T (orcR T n)
noncomputable def run (T : Tab) (n : Nat) : Nat → List AV → M AV := (orcR T n).1
theorem orc_lamOk (T : Tab) (n : Nat) {k : Nat} {e : E} : (orc T n).lamOk k e = true ↔ T.lams[k]? = some e := by simp [orc, orcM]
theorem run_s (T : Tab) (n f : Nat) (args : List AV) : run T (n + 1) f args = match T.fns[f]? with
    | some fd => (match startL fd args with
      | some σ => fun h => if fd.fz = true then exitO h (M.bind (xec (orc T n) fd.body σ) flowV h) else M.bind (xec (orc T n) fd.body σ) flowV h
      | none => M.bad)
    | none => M.bad := rfl
end NT
set_option linter.all false
set_option maxRecDepth 100000
set_option autoImplicit false
namespace NT
open PySem PySem.Spec PyProof.Rows L2

/-! ### lambdas that are kept: no parameter, or one with the default 0 -/
def lmFn (q : Str) (params : Arguments) (body : Expr) (scope : Scope) (cl : List (Str × Addr)) (dV pm cdv ct : Value) : FuncData :=
  { PySem.W.kla_fn "<lambda>" q params body scope cl pm cdv ct with defaults := dV }
def lmObj (q : Str) (params : Arguments) (body : Expr) (scope : Scope) (cl : List (Str × Addr)) (dV pm cdv ct : Value) : Obj :=
  { cls := .type "function", data := .func (lmFn q params body scope cl dV pm cdv ct) }
/-- the object at f is such a lambda -/
def LmO (f : Addr) (q : Str) (params : Arguments) (body : Expr) (scope : Scope) (cl : List (Str × Addr)) (dV : Value) (c' : Addr) : HO :=
  .ext fun h => ∃ pm ctv, h.get? f = some (lmObj q params body scope cl dV pm (.ref c') ctv)
inductive LamPs : Arguments → Option Str → Prop
  | no : LamPs ⟨[], [], none, [], [], none, []⟩ none
  | one (x : Str) (p p' : Pos) (j : Nat) : LamPs ⟨[], [⟨x, none, p⟩], none, [], [], none, [.Constant (.int 0) j p']⟩ (some x)
/-! ### the concrete side -/
structure Wd where
  P : Program
  w : World
  K : PySem.W.Frag
  mg : Str → Option Value
  base : Heap
  clsA : Nat → Addr
  fnA : Nat → Addr
  nm : Nat → Str
  /-- tables of code objects, the names of what they hold -/
  tabs : List (Addr × Str)
  /-- the frame whose lambdas are kept: its cells, names, scope; what the lambdas are called -/
  cells : List (Str × Addr)
  tN : List Str
  tsc : Scope
  lq : Str
  /-- lambda number k is this one -/
  lamP : Nat → Arguments → Option Str → Expr → Scope → Prop
structure Cf where
  ρ : List Addr
  h : AHeap
  H : Hp
  /-- lists that comprehensions are filling -/
  x : List Addr
def HLive (c : Cf) (p : Addr) : Prop := ∃ (n : Nat) (o : AObj), c.ρ[n]? = some p ∧ c.h[n]? = some o ∧ o ≠ .dead
def Live (c : Cf) (p : Addr) : Prop := p ∈ c.x ∨ HLive c p

def KT (K : PySem.W.Frag) (a : Addr) (xs : List V) : Prop := ∃ (o : Obj) (its : Array Value) (n : Nat), K.lookup a = some o ∧ o.cls = .type "tuple" ∧ o.data = .seq its n ∧ its.size ≤ sizeLine ∧ Vals xs its.toList
def KL (K : PySem.W.Frag) (a : Addr) (xs : List V) : Prop := ∃ (o : Obj) (its : Array Value) (n : Nat), K.lookup a = some o ∧ o.cls = .type "list" ∧ o.dict = none ∧ o.data = .seq its n ∧ its.size ≤ sizeLine ∧ Vals xs its.toList
def FzT (K : PySem.W.Frag) (c : Cf) (p : Addr) (xs : List V) : Prop := (¬ Live c p ∧ Rd c.H p (.tup xs)) ∨ KT K p xs
def FzL (K : PySem.W.Frag) (c : Cf) (p : Addr) (xs : List V) : Prop := (¬ Live c p ∧ Rd c.H p (.lst xs)) ∨ KL K p xs
theorem FzT.sq {K : PySem.W.Frag} {c : Cf} {p : Addr} {xs : List V} (h : FzT K c p xs) : SqT K c.H p xs := by
  rcases h with ⟨_, h⟩ | h
  · exact .inl h
  · exact .inr h
theorem FzL.sq {K : PySem.W.Frag} {c : Cf} {p : Addr} {xs : List V} (h : FzL K c p xs) : SqL K c.H p xs := by
  rcases h with ⟨_, h⟩ | h
  · exact .inl h
  · exact .inr h

/-- the default of a lambda as it stands -/
def DfR (c : Cf) (dV : Value) : Option Str → Prop
  | none => dV = .none
  | some _ => ∃ T, dV = .ref T ∧ ¬ Live c T ∧ c.H T = some (.tup [.int 0])
mutual
inductive Rep (W : Wd) (c : Cf) : V → AV → Prop
  | non : Rep W c .non .non
  | bl (b : Bool) : Rep W c (.bl b) (.bl b)
  | int (i : Int) : Rep W c (.int i) (.int i)
  | str (x : Str) : Rep W c (.str x) (.str x)
  | ty (n : String) : Rep W c (.ty n) (.ty n)
  | tup {p : Addr} {vs : List V} {xs : List AV} : FzT W.K c p vs → Reps W c vs xs → Rep W c (.ref p) (.tup xs)
  | lst {p : Addr} {vs : List V} {xs : List AV} : FzL W.K c p vs → Reps W c vs xs → Rep W c (.ref p) (.lst xs)
  | obj {p dx : Addr} {k : Nat} {ks : List Nat} {fs : List (Str × V)} {xs : List AV} : ¬ Live c p → c.H p = some (.ins (W.clsA k) dx fs) → fs.map (·.1) = ks.map W.nm → Reps W c (fs.map (·.2)) xs → Rep W c (.ref p) (.obj k ks xs)
  | ref {p : Addr} {n : Nat} : c.ρ[n]? = some p → Rep W c (.ref p) (.ref n)
  | cls (k : Nat) : Rep W c (.ref (W.clsA k)) (.cls k)
  | fn {p c' : Addr} {k : Nat} {params : Arguments} {ox : Option Str} {body : Expr} {scope : Scope} {dV : Value} : W.lamP k params ox body scope → ¬ Live c p → ¬ Live c c' → c.H p = some (LmO p W.lq params body scope (cloFrom W.cells scope.names []) dV c') →
      c.H c' = some (LamX.CodeO c' W.lq) → DfR c dV ox → Rep W c (.ref p) (.fn k)
inductive Reps (W : Wd) (c : Cf) : List V → List AV → Prop
  | nil : Reps W c [] []
  | cons {v : V} {a : AV} {vs : List V} {as : List AV} : Rep W c v a → Reps W c vs as → Reps W c (v :: vs) (a :: as)
end

structure Ex0 (c c' : Cf) : Prop where
  pre : ∀ (n : Nat) (p : Addr), c.ρ[n]? = some p → c'.ρ[n]? = some p
  keep : ∀ p o, c.H p = some o → ¬ Live c p → (∀ ps, o ≠ .tbl ps) → c'.H p = some o
  nl : ∀ p o, c.H p = some o → (∀ ps, o ≠ .tbl ps) → ¬ Live c p → ¬ Live c' p
structure Ext (c c' : Cf) : Prop extends Ex0 c c' where
  bx : c'.x = c.x
  busy : ∀ p ∈ c.x, c'.H p = c.H p
theorem Ex0.refl (c : Cf) : Ex0 c c := ⟨fun _ _ h => h, fun _ _ h _ _ => h, fun _ _ _ _ h => h⟩
theorem Ex0.trans {c c1 c2 : Cf} (a : Ex0 c c1) (b : Ex0 c1 c2) : Ex0 c c2 where
  pre := fun n p h => b.pre n p (a.pre n p h)
  keep := fun p o h n t => b.keep p o (a.keep p o h n t) (a.nl p o h t n) t
  nl := fun p o h t n => b.nl p o (a.keep p o h n t) t (a.nl p o h t n)
theorem Ext.refl (c : Cf) : Ext c c := ⟨Ex0.refl c, rfl, fun _ _ => rfl⟩
theorem Ext.trans {c c1 c2 : Cf} (a : Ext c c1) (b : Ext c1 c2) : Ext c c2 :=
  ⟨a.toEx0.trans b.toEx0, b.bx.trans a.bx, fun p hp => (b.busy p (by rw [a.bx]; exact hp)).trans (a.busy p hp)⟩
theorem Ex0.rd {c c' : Cf} (x : Ex0 c c') {p : Addr} {u : HO} (n : ¬ Live c p) (hu : ∀ ps, u ≠ .tbl ps) (h : Rd c.H p u) : ¬ Live c' p ∧ Rd c'.H p u := by
  rcases h with h | ⟨o, h⟩
  · exact ⟨x.nl p _ h hu n, .inl (x.keep _ _ h n hu)⟩
  · exact ⟨x.nl p _ h (fun _ z => by cases z) n, .inr ⟨o, x.keep _ _ h n (fun _ z => by cases z)⟩⟩
theorem FzT.ext {K : PySem.W.Frag} {c c' : Cf} {p : Addr} {xs : List V} (x : Ex0 c c') (h : FzT K c p xs) : FzT K c' p xs := by
  rcases h with ⟨n, h⟩ | h
  · exact .inl (x.rd n (fun _ z => by cases z) h)
  · exact .inr h
theorem FzL.ext {K : PySem.W.Frag} {c c' : Cf} {p : Addr} {xs : List V} (x : Ex0 c c') (h : FzL K c p xs) : FzL K c' p xs := by
  rcases h with ⟨n, h⟩ | h
  · exact .inl (x.rd n (fun _ z => by cases z) h)
  · exact .inr h
theorem DfR.ext {c c' : Cf} (x : Ex0 c c') {dV : Value} : ∀ {ox : Option Str}, DfR c dV ox → DfR c' dV ox
  | none, h => h
  | some _, ⟨T, h1, h2, h3⟩ => ⟨T, h1, x.nl _ _ h3 (fun _ z => by cases z) h2, x.keep _ _ h3 h2 (fun _ z => by cases z)⟩
mutual
theorem Rep.ext {W : Wd} {c c' : Cf} (x : Ex0 c c') : ∀ (a : AV) (v : V), Rep W c v a → Rep W c' v a
  | .non, _, h => by cases h; exact .non
  | .bl b, _, h => by cases h; exact .bl b
  | .int i, _, h => by cases h; exact .int i
  | .str s, _, h => by cases h; exact .str s
  | .ty n, _, h => by cases h; exact .ty n
  | .tup xs, _, h => by
    cases h with
    | tup h1 h2 => exact .tup (h1.ext x) (Reps.ext x xs _ h2)
  | .lst xs, _, h => by
    cases h with
    | lst h1 h2 => exact .lst (h1.ext x) (Reps.ext x xs _ h2)
  | .obj k ks xs, _, h => by
    cases h with
    | obj h1 h2 h3 h4 => exact .obj (x.nl _ _ h2 (fun _ z => by cases z) h1) (x.keep _ _ h2 h1 (fun _ z => by cases z)) h3 (Reps.ext x xs _ h4)
  | .ref n, _, h => by
    cases h with
    | ref h1 => exact .ref (x.pre _ _ h1)
  | .cls k, _, h => by cases h; exact .cls k
  | .fn f, _, h => by
    cases h with
    | fn h1 h2 h3 h4 h5 h6 => exact .fn h1 (x.nl _ _ h4 (fun _ z => by unfold LmO at z; cases z) h2) (x.nl _ _ h5 (fun _ z => by unfold LamX.CodeO at z; cases z) h3) (x.keep _ _ h4 h2 (fun _ z => by unfold LmO at z; cases z)) (x.keep _ _ h5 h3 (fun _ z => by unfold LamX.CodeO at z; cases z)) (h6.ext x)
  | .dct _ _, _, h => by cases h
  | .exo _ _ _, _, h => by cases h
theorem Reps.ext {W : Wd} {c c' : Cf} (x : Ex0 c c') : ∀ (as : List AV) (vs : List V), Reps W c vs as → Reps W c' vs as
  | [], _, h => by cases h; exact .nil
  | a :: as, _, h => by
    cases h with
    | cons h1 h2 => exact .cons (Rep.ext x a _ h1) (Reps.ext x as _ h2)
end
theorem Rep.to0 {W : Wd} {c c' : Cf} {a : AV} {v : V} (h : Rep W c v a) (x : Ex0 c c') : Rep W c' v a := Rep.ext x a v h
theorem Reps.to0 {W : Wd} {c c' : Cf} {a : List AV} {v : List V} (h : Reps W c v a) (x : Ex0 c c') : Reps W c' v a := Reps.ext x a v h
theorem Rep.to {W : Wd} {c c' : Cf} {a : AV} {v : V} (h : Rep W c v a) (x : Ext c c') : Rep W c' v a := Rep.ext x.toEx0 a v h
theorem Reps.to {W : Wd} {c c' : Cf} {a : List AV} {v : List V} (h : Reps W c v a) (x : Ext c c') : Reps W c' v a := Reps.ext x.toEx0 a v h
theorem Reps.length {W : Wd} {c : Cf} : ∀ {vs : List V} {as : List AV}, Reps W c vs as → vs.length = as.length
  | _, _, .nil => rfl
  | _, _, .cons _ r => by simp [Reps.length r]
theorem Reps.append {W : Wd} {c : Cf} : ∀ {vs ws : List V} {as bs : List AV}, Reps W c vs as → Reps W c ws bs → Reps W c (vs ++ ws) (as ++ bs)
  | _, _, _, _, .nil, s => s
  | _, _, _, _, .cons r t, s => .cons r (Reps.append t s)
theorem Reps.take {W : Wd} {c : Cf} : ∀ {vs : List V} {as : List AV} (n : Nat), Reps W c vs as → Reps W c (vs.take n) (as.take n)
  | _, _, 0, _ => .nil
  | _, _, _ + 1, .nil => .nil
  | _, _, n + 1, .cons r t => .cons r (Reps.take n t)
theorem Reps.drop {W : Wd} {c : Cf} : ∀ {vs : List V} {as : List AV} (n : Nat), Reps W c vs as → Reps W c (vs.drop n) (as.drop n)
  | _, _, 0, r => r
  | _, _, _ + 1, .nil => .nil
  | _, _, n + 1, .cons _ t => Reps.drop n t
theorem Reps.set {W : Wd} {c : Cf} {v : V} {a : AV} (r : Rep W c v a) : ∀ {vs : List V} {as : List AV} (i : Nat), Reps W c vs as → Reps W c (vs.set i v) (as.set i a)
  | _, _, _, .nil => .nil
  | _, _, 0, .cons _ t => .cons r t
  | _, _, i + 1, .cons q t => .cons q (Reps.set r i t)
theorem Reps.get {W : Wd} {c : Cf} : ∀ {vs : List V} {as : List AV} {i : Nat} {a : AV}, Reps W c vs as → as[i]? = some a → ∃ v, vs[i]? = some v ∧ Rep W c v a
  | _, _, _, _, .nil, e => by simp at e
  | _, _, 0, _, .cons r _, e => by simp at e; subst e; exact ⟨_, rfl, r⟩
  | _, _, i + 1, a, .cons _ t, e => by
    obtain ⟨u, h1, h2⟩ := Reps.get (i := i) (a := a) t (by simpa using e)
    exact ⟨u, by simpa using h1, h2⟩
theorem Reps.ints {W : Wd} {c : Cf} : ∀ {vs : List V} {as : List AV} {ns : List Int}, Reps W c vs as → allI as = some ns → vs = ns.map V.int
  | _, _, _, .nil, e => by simp [allI] at e; subst e; rfl
  | _, _, _, .cons (as := as) r t, e => by
    cases r <;> simp only [allI] at e
    all_goals first | cases e; done | skip
    rename_i i
    cases q : allI as with
    | none => rw [q] at e; cases e
    | some ms =>
      rw [q] at e
      cases e
      rw [Reps.ints t q]; rfl
theorem Reps.bools {W : Wd} {c : Cf} : ∀ {vs : List V} {as : List AV} {ns : List Bool}, Reps W c vs as → allB as = some ns → vs = ns.map V.bl
  | _, _, _, .nil, e => by simp [allB] at e; subst e; rfl
  | _, _, _, .cons (as := as) r t, e => by
    cases r <;> simp only [allB] at e
    all_goals first | cases e; done | skip
    rename_i i
    cases q : allB as with
    | none => rw [q] at e; cases e
    | some ms =>
      rw [q] at e
      cases e
      rw [Reps.bools t q]; rfl
theorem Reps.strs {W : Wd} {c : Cf} : ∀ {vs : List V} {as : List AV} {ns : List Str}, Reps W c vs as → allS as = some ns → vs = ns.map V.str
  | _, _, _, .nil, e => by simp [allS] at e; subst e; rfl
  | _, _, _, .cons (as := as) r t, e => by
    cases r <;> simp only [allS] at e
    all_goals first | cases e; done | skip
    rename_i i
    cases q : allS as with
    | none => rw [q] at e; cases e
    | some ms =>
      rw [q] at e
      cases e
      rw [Reps.strs t q]; rfl

/-! ### the heap -/
def ORep (W : Wd) (c : Cf) (p : Addr) : AObj → Prop
  | .dead => True
  | .lst xs => ∃ vs, c.H p = some (.lst vs) ∧ Reps W c vs xs
  | .ins k ks xs => ∃ dx fs, c.H p = some (.ins (W.clsA k) dx fs) ∧ fs.map (·.1) = ks.map W.nm ∧ Reps W c (fs.map (·.2)) xs
  | .dct _ _ => False
/-- no table of code objects, no code object -/
def NoTab (o : HO) : Prop := (∀ ps, o ≠ .tbl ps) ∧ (∀ φ, o ≠ .ext φ) ∧ ∀ ob u, o ≠ .frz ob u
theorem noTab_lst {xs : List V} : NoTab (.lst xs) := ⟨(fun _ z => nomatch z), (fun _ z => nomatch z), (fun _ _ z => nomatch z)⟩
theorem noTab_ins {C dx : Addr} {fs : List (Str × V)} : NoTab (.ins C dx fs) := ⟨(fun _ z => nomatch z), (fun _ z => nomatch z), (fun _ _ z => nomatch z)⟩
theorem tabs_keep {T : List (Addr × Str)} {H H' : Hp} (t : LamX.Tabs T H) (k : ∀ b o, H b = some o → ¬ NoTab o → H' b = some o) : LamX.Tabs T H' := fun p hp => by
  obtain ⟨ps, h1, h2, h3⟩ := t p hp
  refine ⟨ps, k _ _ h1 (fun z => z.1 ps rfl), h2, fun pos cv hc => ?_⟩
  obtain ⟨c, e1, e2⟩ := h3 pos cv hc
  exact ⟨c, e1, k _ _ e2 (fun z => z.2.1 _ rfl)⟩
structure Sim (W : Wd) (c : Cf) : Prop where
  len : c.ρ.length = c.h.length
  inj : ∀ (i j : Nat) (p : Addr) (o o' : AObj), c.ρ[i]? = some p → c.ρ[j]? = some p → c.h[i]? = some o → c.h[j]? = some o' → o ≠ .dead → o' ≠ .dead → i = j
  obj : ∀ (n : Nat) (o : AObj) (p : Addr), c.h[n]? = some o → c.ρ[n]? = some p → ORep W c p o
  bz : ∀ p ∈ c.x, c.H p ≠ none ∧ ¬ HLive c p
  tb : LamX.Tabs W.tabs c.H
  tl : ∀ p, Live c p → ∀ o, c.H p = some o → NoTab o
theorem Sim.htracked {W : Wd} {c : Cf} (s : Sim W c) {p : Addr} (l : HLive c p) : c.H p ≠ none := by
  obtain ⟨n, o, h1, h2, h3⟩ := l
  have q := s.obj n o p h2 h1
  cases o with
  | dead => exact absurd rfl h3
  | lst xs => obtain ⟨vs, e, _⟩ := q; rw [e]; simp
  | ins k ks xs => obtain ⟨dx, fs, e, _⟩ := q; rw [e]; simp
  | dct _ _ => exact q.elim
theorem Sim.tracked {W : Wd} {c : Cf} (s : Sim W c) {p : Addr} (l : Live c p) : c.H p ≠ none := by
  rcases l with l | l
  · exact (s.bz p l).1
  · exact s.htracked l
theorem Sim.fresh {W : Wd} {c : Cf} (s : Sim W c) {p : Addr} (n : c.H p = none) : ¬ Live c p := fun l => s.tracked l n
/-- a new object that the abstract heap does not know -/
theorem Ex0.new {c : Cf} {p : Addr} {o : HO} (n : c.H p = none) : Ex0 c { c with H := upd c.H p o } where
  pre := fun _ _ h => h
  keep := fun q u h _ _ => by
    show upd c.H p o q = some u
    rw [upd_ne (ne_of_none h n)]; exact h
  nl := fun _ _ _ _ h => h
theorem Ext.new {W : Wd} {c : Cf} (s : Sim W c) {p : Addr} {o : HO} (n : c.H p = none) : Ext c { c with H := upd c.H p o } :=
  ⟨Ex0.new n, rfl, fun q hq => upd_ne (fun z => (s.bz q hq).1 (by rw [z]; exact n))⟩
theorem ORep.ext {W : Wd} {c c' : Cf} (x : Ex0 c c') {p : Addr} {o : AObj} (h : ORep W c p o) (e : c'.H p = c.H p) : ORep W c' p o := by
  cases o with
  | dead => trivial
  | lst xs => obtain ⟨vs, h1, h2⟩ := h; exact ⟨vs, e.trans h1, h2.to0 x⟩
  | ins k ks xs => obtain ⟨dx, fs, h1, h2, h3⟩ := h; exact ⟨dx, fs, e.trans h1, h2, h3.to0 x⟩
  | dct _ _ => exact h.elim
theorem Sim.new {W : Wd} {c : Cf} (s : Sim W c) {p : Addr} {o : HO} (n : c.H p = none) : Sim W { c with H := upd c.H p o } where
  len := s.len
  inj := s.inj
  obj := fun k ob q h1 h2 => by
    by_cases hd : ob = .dead
    · subst hd; trivial
    · exact (s.obj k ob q h1 h2).ext (Ex0.new n) (upd_ne (fun z => s.htracked (p := q) ⟨k, ob, h2, h1, hd⟩ (by rw [z]; exact n)))
  bz := fun q hq => ⟨by
    show upd c.H p o q ≠ none
    rw [upd_ne (fun z => (s.bz q hq).1 (by rw [z]; exact n))]; exact (s.bz q hq).1, (s.bz q hq).2⟩
  tb := tabs_keep s.tb fun b u h _ => by
    show upd c.H p o b = _
    rw [upd_ne (ne_of_none h n)]; exact h
  tl := fun q hq u hu => by
    have hu : upd c.H p o q = some u := hu
    rw [upd_ne (fun z => s.tracked (p := q) hq (by rw [z]; exact n))] at hu
    exact s.tl q hq u hu

/-! ### exact readings -/
section
variable (X : Cx)
def wE (e : Expr) : TE := fun σ H Q => ∀ (pins : List (Addr × Obj)) (s : Shared), Inv X pins σ H s → wpAny (model X.prog X.w) X.A (eval e X.env) (EP X pins σ Q) X.xe s
def wT (e : Expr) : TT := fun σ H Q => ∀ (pins : List (Addr × Obj)) (s : Shared), Inv X pins σ H s → wpAny (model X.prog X.w) X.A (isTrue e X.env (eval e X.env)) (TP X pins σ Q) X.xe s
def wA (es : List Expr) : TA := fun σ H Q => ∀ (pos : Pos) (pins : List (Addr × Obj)) (s : Shared), Inv X pins σ H s → wpAny (model X.prog X.w) X.A (spliced (backTo pos (starEach es X.env))) (AP X pins σ Q) X.xe s
def wS (st : Stmt) : TS := fun D σ H => ∀ (pins : List (Addr × Obj)) (s : Shared), Inv X pins σ H s → wpAny (model X.prog X.w) X.A (exec st X.env) (SP X pins D) X.xe s
def wSs (st : List Stmt) : TS := fun D σ H => ∀ (pins : List (Addr × Obj)) (s : Shared), Inv X pins σ H s → wpAny (model X.prog X.w) X.A (execs st X.env) (SP X pins D) X.xe s
end
section
variable {X : Cx}
theorem pe_w {e : Expr} : PE X e (wE X e) := ⟨fun pins s σ H Q I h => h pins s I⟩
theorem pt_w {e : Expr} : PT X e (wT X e) := ⟨fun pins s σ H Q I h => h pins s I⟩
theorem pa_w {es : List Expr} : PA X es (wA X es) := ⟨fun pos pins s σ H Q I h => h pos pins s I⟩
theorem ps_w {st : Stmt} : PS X st (wS X st) := ⟨fun pins s σ H D I h => h pins s I⟩
theorem pss_w {st : List Stmt} : PSs X st (wSs X st) := ⟨fun pins s σ H D I h => h pins s I⟩
theorem wE_of {e : Expr} {t : TE} {σ : L2.St} {H : Hp} {Q : VK} (h : PE X e t) (q : t σ H Q) : wE X e σ H Q := fun pins s I => h.run pins s σ H Q I q
theorem wT_of {e : Expr} {t : TT} {σ : L2.St} {H : Hp} {Q : Bool → Hp → Prop} (h : PT X e t) (q : t σ H Q) : wT X e σ H Q := fun pins s I => h.run pins s σ H Q I q
theorem wA_of {e : List Expr} {t : TA} {σ : L2.St} {H : Hp} {Q : List V → Hp → Prop} (h : PA X e t) (q : t σ H Q) : wA X e σ H Q := fun pos pins s I => h.run pos pins s σ H Q I q
theorem wS_of {st : Stmt} {t : TS} {σ : L2.St} {H : Hp} {D : Ends} (h : PS X st t) (q : t D σ H) : wS X st D σ H := fun pins s I => h.run pins s σ H D I q
theorem wSs_of {st : List Stmt} {t : TS} {σ : L2.St} {H : Hp} {D : Ends} (h : PSs X st t) (q : t D σ H) : wSs X st D σ H := fun pins s I => h.run pins s σ H D I q
end

/-! ### the ends -/
def End {α β : Type} (W : Wd) (Wx : WX) (S : L2.St) (c : Cf) (R : Cf → β → α → Prop) (Q : β → Hp → Prop) : Out α → Prop
  | .ok a h' => ∀ (ρ' : List Addr) (H' : Hp) (b : β), Sim W ⟨ρ', h', H', c.x⟩ → Ext c ⟨ρ', h', H', c.x⟩ → R ⟨ρ', h', H', c.x⟩ b a → Q b H'
  | .exc k ks xs h' => ∀ (ρ' : List Addr) (H' : Hp) (d : Addr) (fs : List (Str × V)), Sim W ⟨ρ', h', H', c.x⟩ → Ext c ⟨ρ', h', H', c.x⟩ → ¬ Live ⟨ρ', h', H', c.x⟩ d → H' d = some (.xd fs) →
      fs.map (·.1) = ks.map W.nm → Reps W ⟨ρ', h', H', c.x⟩ (fs.map (·.2)) xs → Wx (.ref (W.clsA k)) (some d) S H'
  | .bad => False
section
variable {α β γ δ : Type} {W : Wd} {Wx : WX} {S : L2.St} {c c1 : Cf} {R : Cf → β → α → Prop} {Q Q' : β → Hp → Prop} {R2 : Cf → δ → γ → Prop} {Q2 : δ → Hp → Prop}
theorem End.after {o : Out α} (x : Ext c c1) (h : End W Wx S c R Q o) : End W Wx S c1 R Q o := by
  have e := x.bx
  cases o with
  | ok a h' =>
    show ∀ (ρ' : List Addr) (H' : Hp) (b : β), Sim W ⟨ρ', h', H', c1.x⟩ → Ext c1 ⟨ρ', h', H', c1.x⟩ → R ⟨ρ', h', H', c1.x⟩ b a → Q b H'
    rw [e]
    exact fun ρ' H' b s x' r => h ρ' H' b s (x.trans x') r
  | exc k ks xs h' =>
    show ∀ (ρ' : List Addr) (H' : Hp) (d : Addr) (fs : List (Str × V)), Sim W ⟨ρ', h', H', c1.x⟩ → Ext c1 ⟨ρ', h', H', c1.x⟩ → ¬ Live ⟨ρ', h', H', c1.x⟩ d → H' d = some (.xd fs) → fs.map (·.1) = ks.map W.nm → Reps W ⟨ρ', h', H', c1.x⟩ (fs.map (·.2)) xs → Wx (.ref (W.clsA k)) (some d) S H'
    rw [e]
    exact fun ρ' H' d fs s x' => h ρ' H' d fs s (x.trans x')
  | bad => exact h
theorem End.bind {m : M α} {f : α → M γ} (h : End W Wx S c R2 Q2 (M.bind m f c.h))
    (k : ∀ a (c1 : Cf) b, m c.h = .ok a c1.h → Sim W c1 → Ext c c1 → R c1 b a → End W Wx S c1 R2 Q2 (f a c1.h) → Q b c1.H) : End W Wx S c R Q (m c.h) := by
  unfold M.bind at h
  cases e : m c.h with
  | ok a h1 =>
    rw [e] at h
    exact fun ρ1 H1 b s x r => k a ⟨ρ1, h1, H1, c.x⟩ b e s x r (End.after (c1 := ⟨ρ1, h1, H1, c.x⟩) x h)
  | exc q ks xs h1 => rw [e] at h; exact h
  | bad => rw [e] at h; exact h
/-- the state as it is -/
theorem End.here {a : α} {b : β} (h : End W Wx S c R Q (.ok a c.h)) (s : Sim W c) (r : R c b a) : Q b c.H := h c.ρ c.H b s (Ext.refl c) r
/-- a new object that the abstract heap does not know -/
theorem End.new {a : α} {b : β} {p : Addr} {o : HO} (h : End W Wx S c R Q (.ok a c.h)) (s : Sim W c) (n : c.H p = none) (r : R { c with H := upd c.H p o } b a) : Q b (upd c.H p o) :=
  h c.ρ (upd c.H p o) b (s.new n) (Ext.new s n) r
theorem End.ok1 {k : Bool} {a : α} (h : End W Wx S c R Q (NT.ok1 k a c.h)) : k = true ∧ End W Wx S c R Q (.ok a c.h) := by
  unfold NT.ok1 at h
  cases k with
  | true => exact ⟨rfl, h⟩
  | false => exact h.elim
theorem End.of {o : Option α} (h : End W Wx S c R Q (M.of o c.h)) : ∃ a, o = some a ∧ End W Wx S c R Q (.ok a c.h) := by
  cases o with
  | some a => exact ⟨a, rfl, h⟩
  | none => exact h.elim
end
end NT
set_option linter.all false
set_option maxRecDepth 100000
set_option autoImplicit false
namespace NT
open PySem PySem.Spec PyProof.Rows L2
theorem line_eq : (sizeLine : Nat) = line := by rw [sizeLine_eq]; rfl
/-- what a two-place operation of values wants -/
def v2 (W : Wd) (g : AV → AV → M AV) : R2 := fun x y H Q => ∃ (c : Cf) (a b : AV) (Wx : WX) (S : L2.St), c.H = H ∧ Sim W c ∧ Rep W c x a ∧ Rep W c y b ∧ End W Wx S c (Rep W) Q (g a b c.h)
section
variable {X : Cx} {W : Wd}
def rCatL (K : PySem.W.Frag) : R2 := fun x y H Q => ∃ l b xs zs, x = .ref l ∧ y = .ref b ∧ SqL K H l xs ∧ SqL K H b zs ∧ xs.length + zs.length ≤ sizeLine ∧ ∀ p, H p = none → Q (.ref p) (upd H p (.lst (xs ++ zs)))
theorem op_catL : OpR X (binaryOp .Add) (rCatL X.K) := by
  intro pins s σ H x y v u Q I rx ry h
  obtain ⟨l, b, xs, zs, rfl, rfl, hH, hB, hz, q⟩ := h
  cases rx
  cases ry
  obtain ⟨its, r, ⟨⟨cls, dd, data, sl⟩, n, ho, hc, hd0, hd⟩, _⟩ := I.list hH
  obtain ⟨its2, r2, ⟨⟨cls2, dd2, data2, sl2⟩, n2, ho2, hc2, hd02, hd2⟩, _⟩ := I.list hB
  simp only at hc hd hc2 hd2
  subst hc hd hc2 hd2
  have l1 := r.length
  have l2 := r2.length
  have ea : its.toArray ++ its2.toArray = (its ++ its2).toArray := by simp
  refine concat_meets ⟨_, ho, rfl⟩ ⟨_, ho2, rfl⟩ noFill_list_add seq_list_add PySem.F.slot_list_add PySem.F.entry_list_add (PySem.F.args_list_add_2 _ _) (list_addW l b its.toArray its2.toArray n n2 dd dd2 sl sl2 (by simp; omega)) ⟨ho, ho2, ?_⟩
  rw [ea]
  exact ⟨.ref _, _, I.lnew (t' := s.toks) (r.append r2) (by rw [List.length_append]; omega), rfl, q _ I.fresh⟩
theorem mulOk_or {i j : Int} (h : mulOk i j = true) : CMul i j ∨ CMulW i j := by
  unfold mulOk at h
  simp only [Bool.or_eq_true, decide_eq_true_eq] at h
  rcases h with (h | h) | h
  · exact .inl (.inl ⟨by omega, by omega⟩)
  · exact .inl (.inr ⟨by omega, by omega⟩)
  · exact .inr h
theorem Rep.newLst {c : Cf} {p : Addr} {vs : List V} {xs : List AV} (s : Sim W c) (n : c.H p = none) (r : Reps W c vs xs) : Rep W { c with H := upd c.H p (.lst vs) } (.ref p) (.lst xs) :=
  .lst (.inl ⟨s.fresh n, .inl upd_same⟩) (r.to (Ext.new s n))
theorem Rep.newTup {c : Cf} {p : Addr} {vs : List V} {xs : List AV} (s : Sim W c) (n : c.H p = none) (r : Reps W c vs xs) : Rep W { c with H := upd c.H p (.tup vs) } (.ref p) (.tup xs) :=
  .tup (.inl ⟨s.fresh n, .inl upd_same⟩) (r.to (Ext.new s n))
theorem Reps.nil_iff {c : Cf} {vs : List V} {as : List AV} (r : Reps W c vs as) : vs = [] ↔ as = [] := by
  cases r <;> simp
theorem bin_snd (hK : X.K = W.K) (op : Operator) : OpR X (binaryOp op) (v2 W (binV op)) := by
  rintro pins s σ H x y v u Q I rx ry ⟨c, a, b, Wx, S, rfl, sim, ra, rb, e⟩
  unfold binV at e
  split at e
  · cases ra; cases rb
    exact op_add pins s σ _ _ _ v u Q I rx ry ⟨_, _, rfl, rfl, e.here sim (.int _)⟩
  · cases ra; cases rb
    obtain ⟨g, e⟩ := e.ok1
    exact op_add_str pins s σ _ _ _ v u Q I rx ry ⟨_, _, rfl, rfl, by rw [line_eq]; exact of_decide_eq_true g, e.here sim (.str _)⟩
  · obtain ⟨g, e⟩ := e.ok1
    cases ra with
    | lst h1 r1 =>
      cases rb with
      | lst h2 r2 =>
        refine op_catL pins s σ _ _ _ v u Q I rx ry ⟨_, _, _, _, rfl, rfl, by rw [hK]; exact h1.sq, by rw [hK]; exact h2.sq, ?_, fun p hp => e.new sim hp (Rep.newLst sim hp (r1.append r2))⟩
        rw [r1.length, r2.length, line_eq]
        exact of_decide_eq_true g
  · obtain ⟨g, e⟩ := e.ok1
    cases ra with
    | tup h1 r1 =>
      cases rb with
      | tup h2 r2 =>
        refine op_catA pins s σ _ _ _ v u Q I rx ry ⟨_, _, _, _, rfl, rfl, by rw [hK]; exact h1.sq, by rw [hK]; exact h2.sq, ?_, fun hx => ?_, fun _ hy => ?_, fun _ _ p hp => e.new sim hp (Rep.newTup sim hp (r1.append r2))⟩
        · rw [r1.length, r2.length, line_eq]
          exact of_decide_eq_true g
        · refine e.here sim ?_
          rw [r1.nil_iff.mp hx]
          exact .tup h2 r2
        · refine e.here sim ?_
          rw [r2.nil_iff.mp hy, List.append_nil]
          exact .tup h1 r1
  · cases ra; cases rb
    exact op_sub pins s σ _ _ _ v u Q I rx ry ⟨_, _, rfl, rfl, e.here sim (.int _)⟩
  · cases ra; cases rb
    obtain ⟨g, e⟩ := e.ok1
    rcases mulOk_or g with g | g
    · exact op_mul pins s σ _ _ _ v u Q I rx ry ⟨_, _, rfl, rfl, g, e.here sim (.int _)⟩
    · exact op_mulW pins s σ _ _ _ v u Q I rx ry ⟨_, _, rfl, rfl, g, e.here sim (.int _)⟩
  · cases ra; cases rb
    rename_i i j
    obtain ⟨g, e⟩ := e.ok1
    unfold divOk at g
    simp only [Bool.and_eq_true, Bool.or_eq_true, decide_eq_true_eq] at g
    rcases g with ⟨g0, g | ⟨g1, g2⟩⟩
    · exact op_fdivN pins s σ _ _ _ v u Q I rx ry ⟨_, _, rfl, rfl, ⟨g0, g⟩, e.here sim (.int _)⟩
    · refine op_fdivW pins s σ _ _ _ v u Q I rx ry ⟨_, _, rfl, rfl, ⟨g1, g2⟩, ?_⟩
      have q := e.here sim (.int _)
      rw [Int.fdiv_eq_ediv_of_nonneg i (by omega)] at q
      exact q
  · cases ra; cases rb
    obtain ⟨g, e⟩ := e.ok1
    exact op_modN pins s σ _ _ _ v u Q I rx ry ⟨_, _, rfl, rfl, of_decide_eq_true g, e.here sim (.int _)⟩
  · cases ra; cases rb
    obtain ⟨g, e⟩ := e.ok1
    unfold powOk at g
    simp only [Bool.and_eq_true, decide_eq_true_eq] at g
    exact op_pow pins s σ _ _ _ v u Q I rx ry ⟨_, _, rfl, rfl, ⟨g.1.1, g.1.2, g.2⟩, e.here sim (.int _)⟩
  · cases ra; cases rb
    obtain ⟨g, e⟩ := e.ok1
    unfold powOk at g
    simp only [Bool.and_eq_true, decide_eq_true_eq] at g
    exact op_shl pins s σ _ _ _ v u Q I rx ry ⟨_, _, rfl, rfl, ⟨g.1.1, g.1.2, g.2⟩, e.here sim (.int _)⟩
  · cases ra; cases rb
    exact op_and pins s σ _ _ _ v u Q I rx ry ⟨_, _, rfl, rfl, e.here sim (.int _)⟩
  · cases ra; cases rb
    exact op_or pins s σ _ _ _ v u Q I rx ry ⟨_, _, rfl, rfl, e.here sim (.int _)⟩
  · cases ra; cases rb
    exact op_xor pins s σ _ _ _ v u Q I rx ry ⟨_, _, rfl, rfl, e.here sim (.int _)⟩
  · exact e.elim
def v1 (W : Wd) (g : AV → M AV) : V → Hp → VK → Prop := fun x H Q => ∃ (c : Cf) (a : AV) (Wx : WX) (S : L2.St), c.H = H ∧ Sim W c ∧ Rep W c x a ∧ End W Wx S c (Rep W) Q (g a c.h)
theorem neg_snd : UnR X (unaryOp .USub) (v1 W negV) := by
  rintro pins s σ H x v Q I rx ⟨c, a, Wx, S, rfl, sim, ra, e⟩
  unfold negV at e
  split at e
  · cases ra
    exact un_neg pins s σ _ _ v Q I rx ⟨_, rfl, e.here sim (.int _)⟩
  · exact e.elim

/-! ### == -/
mutual
theorem Rep.dp (c : Cf) : ∀ (a : AV) (v : V) (d : PyData), Rep W c v a → toD a = some d → Dp W.K c.H v d
  | .non, _, _, r, e => by cases r; cases e; exact .non
  | .bl b, _, _, r, e => by cases r; cases e; exact .bl b
  | .int i, _, _, r, e => by cases r; cases e; exact .int i
  | .str s, _, _, r, e => by cases r; cases e; exact .str s
  | .ty n, _, _, r, e => by simp [toD] at e
  | .tup xs, _, _, r, e => by
    cases r with
    | tup h1 h2 =>
      simp only [toD] at e
      cases q : toDs xs with
      | none => rw [q] at e; cases e
      | some ds => rw [q] at e; cases e; exact .tup h1.sq (Reps.dp c xs _ ds h2 q)
  | .lst xs, _, _, r, e => by
    cases r with
    | lst h1 h2 =>
      simp only [toD] at e
      cases q : toDs xs with
      | none => rw [q] at e; cases e
      | some ds => rw [q] at e; cases e; exact .lst h1.sq (Reps.dp c xs _ ds h2 q)
  | .obj _ _ _, _, _, r, e => by simp [toD] at e
  | .ref _, _, _, r, e => by simp [toD] at e
  | .cls _, _, _, r, e => by simp [toD] at e
  | .fn _, _, _, r, e => by simp [toD] at e
  | .dct _ _, _, _, r, e => by simp [toD] at e
  | .exo _ _ _, _, _, r, e => by simp [toD] at e
theorem Reps.dp (c : Cf) : ∀ (as : List AV) (vs : List V) (ds : List PyData), Reps W c vs as → toDs as = some ds → DpAll W.K c.H vs ds
  | [], _, _, r, e => by cases r; cases e; exact .nil
  | a :: as, _, _, r, e => by
    cases r with
    | cons h1 h2 =>
      simp only [toDs] at e
      split at e
      · rename_i d ds e1 e2
        cases e
        exact .cons (Rep.dp c a _ d h1 e1) (Reps.dp c as _ ds h2 e2)
      · cases e
end
theorem shaped_flat {a : AV} (hf : flat a = true) (ns : ∀ s, a ≠ .str s) : ∃ d, toD a = some d ∧ SeqAt.shaped d = true := by
  cases a with
  | non => exact ⟨_, rfl, by decide⟩
  | bl b => exact ⟨_, rfl, by cases b <;> decide⟩
  | int i => exact ⟨.int i, rfl, by unfold SeqAt.shaped; simp [PyData.canLay0, PyData.depth]⟩
  | str s => exact absurd rfl (ns s)
  | _ => cases hf
theorem eqF_eqv {a b : AV} {d e : PyData} (fa : flat a = true) (fb : flat b = true) (h1 : toD a = some d) (h2 : toD b = some e) : PyData.eqv d e = eqF a b := by
  cases a <;> (try cases fa) <;> cases b <;> (try cases fb) <;> cases h1 <;> cases h2 <;> rfl
theorem eq_snd (hu : X.A.units + 64 < cLine) (hK : X.K = W.K) {x y : V} {a b : AV} {r : Bool} {c : Cf} {pins : List (Addr × Obj)} {s : Shared} {σ : L2.St} {v u : Value} {Q : VK} (I : Inv X pins σ c.H s) (rx : RelV x v) (ry : RelV y u)
    (ra : Rep W c x a) (rb : Rep W c y b) (e : eqA a b = some r) (q : Q (.bl r) c.H) : wpAny (model X.prog X.w) X.A (compareOp .Eq v u) (EP X pins σ Q) X.xe s := by
  have gen : ∀ d e', toD a = some d → toD b = some e' → SeqAt.shaped d = true → SeqAt.shaped e' = true → PyData.eqv d e' = r → wpAny (model X.prog X.w) X.A (compareOp .Eq v u) (EP X pins σ Q) X.xe s := fun d e' h1 h2 h3 h4 h5 =>
    op_eqD hu pins s σ _ _ _ v u Q I rx ry ⟨d, e', by rw [hK]; exact Rep.dp c a x d ra h1, by rw [hK]; exact Rep.dp c b y e' rb h2, h3, h4, by rw [h5]; exact q⟩
  unfold eqA at e
  split at e
  · rename_i hf
    rw [Bool.and_eq_true] at hf
    cases e
    by_cases hsa : ∃ t, a = .str t
    · obtain ⟨t, rfl⟩ := hsa
      cases ra
      cases rb <;> (try cases hf.2)
      all_goals refine op_eq pins s σ _ _ _ v u Q I rx ry ⟨rfl, ?_⟩
      all_goals first
        | (rw [decide_eq_false (fun z => by cases z)]; exact q)
        | (rw [dec_str]; exact q)
    · by_cases hsb : ∃ t, b = .str t
      · obtain ⟨t, rfl⟩ := hsb
        cases rb
        cases ra <;> (try cases hf.1)
        all_goals refine op_eq pins s σ _ _ _ v u Q I rx ry ⟨rfl, ?_⟩
        all_goals first
          | (rw [decide_eq_false (fun z => by cases z)]; exact q)
          | (rw [dec_str]; exact q)
      · obtain ⟨d, h1, h3⟩ := shaped_flat hf.1 fun s z => hsa ⟨s, z⟩
        obtain ⟨e', h2, h4⟩ := shaped_flat hf.2 fun s z => hsb ⟨s, z⟩
        exact gen d e' h1 h2 h3 h4 (eqF_eqv hf.1 hf.2 h1 h2)
  · split at e
    · rename_i d e' h1 h2
      split at e
      · rename_i hs
        rw [Bool.and_eq_true] at hs
        cases e
        exact gen d e' h1 h2 hs.1 hs.2 rfl
      · cases e
    · cases e
theorem ne_snd (hu : X.A.units + 64 < cLine) (hK : X.K = W.K) {x y : V} {a b : AV} {r : Bool} {c : Cf} {pins : List (Addr × Obj)} {s : Shared} {σ : L2.St} {v u : Value} {Q : VK} (I : Inv X pins σ c.H s) (rx : RelV x v) (ry : RelV y u)
    (ra : Rep W c x a) (rb : Rep W c y b) (e : eqA a b = some r) (q : Q (.bl (!r)) c.H) : wpAny (model X.prog X.w) X.A (compareOp .NotEq v u) (EP X pins σ Q) X.xe s := by
  have gen : ∀ d e', toD a = some d → toD b = some e' → SeqAt.shaped d = true → SeqAt.shaped e' = true → PyData.eqv d e' = r → wpAny (model X.prog X.w) X.A (compareOp .NotEq v u) (EP X pins σ Q) X.xe s := fun d e' h1 h2 h3 h4 h5 =>
    op_neD hu pins s σ _ _ _ v u Q I rx ry ⟨d, e', by rw [hK]; exact Rep.dp c a x d ra h1, by rw [hK]; exact Rep.dp c b y e' rb h2, h3, h4, by rw [h5]; exact q⟩
  unfold eqA at e
  split at e
  · rename_i hf
    rw [Bool.and_eq_true] at hf
    cases e
    by_cases hsa : ∃ t, a = .str t
    · obtain ⟨t, rfl⟩ := hsa
      cases ra
      cases rb <;> (try cases hf.2)
      all_goals refine op_ne pins s σ _ _ _ v u Q I rx ry ⟨rfl, ?_⟩
      all_goals first
        | (rw [decide_eq_false (fun z => by cases z)]; exact q)
        | (rw [dec_str]; exact q)
    · by_cases hsb : ∃ t, b = .str t
      · obtain ⟨t, rfl⟩ := hsb
        cases rb
        cases ra <;> (try cases hf.1)
        all_goals refine op_ne pins s σ _ _ _ v u Q I rx ry ⟨rfl, ?_⟩
        all_goals first
          | (rw [decide_eq_false (fun z => by cases z)]; exact q)
          | (rw [dec_str]; exact q)
      · obtain ⟨d, h1, h3⟩ := shaped_flat hf.1 fun s z => hsa ⟨s, z⟩
        obtain ⟨e', h2, h4⟩ := shaped_flat hf.2 fun s z => hsb ⟨s, z⟩
        exact gen d e' h1 h2 h3 h4 (eqF_eqv hf.1 hf.2 h1 h2)
  · split at e
    · rename_i d e' h1 h2
      split at e
      · rename_i hs
        rw [Bool.and_eq_true] at hs
        cases e
        exact gen d e' h1 h2 hs.1 hs.2 rfl
      · cases e
    · cases e
end
end NT
set_option linter.all false
set_option maxRecDepth 100000
set_option autoImplicit false
namespace NT
open PySem PySem.Spec PyProof.Rows L2
section
variable {X : Cx} {W : Wd}
theorem Rep.flatV {c : Cf} {v : V} {a : AV} (r : Rep W c v a) (f : flat a = true) : L2.flatV v = true := by
  cases r <;> first | rfl | cases f
theorem Reps.flatV {c : Cf} : ∀ {vs : List V} {as : List AV}, Reps W c vs as → as.all flat = true → vs.all L2.flatV = true
  | _, _, .nil, _ => rfl
  | _, _, .cons r t, f => by
    simp only [List.all_cons, Bool.and_eq_true] at f ⊢
    exact ⟨r.flatV f.1, Reps.flatV t f.2⟩
theorem Rep.eqV {c : Cf} {v w : V} {a b : AV} (r : Rep W c v a) (q : Rep W c w b) (fa : flat a = true) (fb : flat b = true) : L2.eqV v w = eqF a b := by
  cases r <;> (try cases fa) <;> cases q <;> (try cases fb) <;> rfl
theorem Reps.inV {c : Cf} {x : V} {a : AV} (r : Rep W c x a) (fa : flat a = true) : ∀ {vs : List V} {as : List AV}, Reps W c vs as → as.all flat = true → L2.inV x vs = inF a as
  | _, _, .nil, _ => rfl
  | _, _, .cons q t, f => by
    simp only [List.all_cons, Bool.and_eq_true] at f
    have ih := Reps.inV r fa t f.2
    unfold L2.inV inF at ih ⊢
    simp only [List.any_cons]
    rw [ih, q.eqV r f.1 fa]
theorem cmp_snd (hu : X.A.units + 64 < cLine) (hK : X.K = W.K) (op : CmpOp) : OpR X (compareOp op) (v2 W (cmpV op)) := by
  rintro pins s σ H x y v u Q I rx ry ⟨c, a, b, Wx, S, rfl, sim, ra, rb, e⟩
  have inn : ∀ {p : Addr} {vs : List V} {ys : List AV} {neg : Bool}, y = .ref p → (SqL X.K c.H p vs ∨ SqT X.K c.H p vs) → Reps W c vs ys → (flat a && ys.all flat) = true → Q (.bl (if neg then !inF a ys else inF a ys)) c.H → rIn X.K neg x y c.H Q := by
    intro p vs ys neg ey hq rs g q
    rw [Bool.and_eq_true] at g
    exact ⟨p, vs, ey, hq, ra.flatV g.1, rs.flatV g.2, by rw [Reps.inV ra g.1 rs g.2]; exact q⟩
  unfold cmpV at e
  split at e
  · obtain ⟨r, h, e⟩ := e.of
    cases q : eqA a b with
    | none => rw [q] at h; cases h
    | some k => rw [q] at h; cases h; exact eq_snd hu hK I rx ry ra rb q (e.here sim (.bl _))
  · obtain ⟨r, h, e⟩ := e.of
    cases q : eqA a b with
    | none => rw [q] at h; cases h
    | some k => rw [q] at h; cases h; exact ne_snd hu hK I rx ry ra rb q (e.here sim (.bl _))
  · cases ra; cases rb; exact op_lt pins s σ _ _ _ v u Q I rx ry ⟨_, _, rfl, rfl, e.here sim (.bl _)⟩
  · cases ra; cases rb; exact op_le pins s σ _ _ _ v u Q I rx ry ⟨_, _, rfl, rfl, e.here sim (.bl _)⟩
  · cases ra; cases rb; exact op_gt pins s σ _ _ _ v u Q I rx ry ⟨_, _, rfl, rfl, e.here sim (.bl _)⟩
  · cases ra; cases rb; exact op_ge pins s σ _ _ _ v u Q I rx ry ⟨_, _, rfl, rfl, e.here sim (.bl _)⟩
  · cases ra; cases rb; exact op_lt_str pins s σ _ _ _ v u Q I rx ry ⟨_, _, rfl, rfl, e.here sim (.bl _)⟩
  · cases rb
    refine op_isN pins s σ _ _ _ v u Q I rx ry ⟨rfl, ?_⟩
    have q := e.here sim (.bl _)
    cases ra <;> exact q
  · cases rb
    refine op_notN pins s σ _ _ _ v u Q I rx ry ⟨rfl, ?_⟩
    have q := e.here sim (.bl _)
    cases ra <;> exact q
  · cases ra; cases rb; exact op_in_str pins s σ _ _ _ v u Q I rx ry ⟨_, _, rfl, rfl, e.here sim (.bl _)⟩
  · cases ra; cases rb
    refine op_notin_str pins s σ _ _ _ v u Q I rx ry ⟨_, _, rfl, rfl, ?_⟩
    have q := e.here sim (.bl _)
    rw [Bool.not_not]
    exact q
  · obtain ⟨g, e⟩ := e.ok1
    cases rb with
    | lst h1 r1 => exact op_in_seq pins s σ _ _ _ v u Q I rx ry (inn rfl (.inl (by rw [hK]; exact h1.sq)) r1 g (e.here sim (.bl _)))
  · obtain ⟨g, e⟩ := e.ok1
    cases rb with
    | tup h1 r1 => exact op_in_seq pins s σ _ _ _ v u Q I rx ry (inn rfl (.inr (by rw [hK]; exact h1.sq)) r1 g (e.here sim (.bl _)))
  · obtain ⟨g, e⟩ := e.ok1
    cases rb with
    | lst h1 r1 => exact op_notIn_seq pins s σ _ _ _ v u Q I rx ry (inn rfl (.inl (by rw [hK]; exact h1.sq)) r1 g (e.here sim (.bl _)))
  · obtain ⟨g, e⟩ := e.ok1
    cases rb with
    | tup h1 r1 => exact op_notIn_seq pins s σ _ _ _ v u Q I rx ry (inn rfl (.inr (by rw [hK]; exact h1.sq)) r1 g (e.here sim (.bl _)))
  · exact e.elim
/-- truth -/
theorem tru_snd (hK : X.K = W.K) : TruR X (fun x H Q => ∃ (c : Cf) (a : AV) (Wx : WX) (S : L2.St), c.H = H ∧ Sim W c ∧ Rep W c x a ∧ End W Wx S c (fun _ (b k : Bool) => b = k) Q (truV a c.h)) := by
  rintro pins s σ H x v Q I rx ⟨c, a, Wx, S, rfl, sim, ra, e⟩
  unfold truV at e
  split at e
  · cases ra; exact tru_ok pins s σ _ _ v Q I rx ⟨_, rfl, e.here (b := false) sim rfl⟩
  · cases ra; exact tru_ok pins s σ _ _ v Q I rx ⟨_, rfl, e.here sim rfl⟩
  · cases ra; exact tru_ok pins s σ _ _ v Q I rx ⟨_, rfl, e.here sim rfl⟩
  · cases ra
    obtain ⟨g, e⟩ := e.ok1
    exact tru_ok pins s σ _ _ v Q I rx ⟨_, ⟨by rw [line_eq]; exact of_decide_eq_true g, rfl⟩, e.here sim rfl⟩
  · cases ra with
    | tup h1 r1 =>
      refine tru_ok pins s σ _ _ v Q I rx ⟨_, .inr (.inl ⟨_, by rw [hK]; exact h1.sq, rfl⟩), e.here sim ?_⟩
      cases r1 <;> rfl
  · cases ra with
    | lst h1 r1 =>
      refine tru_ok pins s σ _ _ v Q I rx ⟨_, .inl ⟨_, by rw [hK]; exact h1.sq, rfl⟩, e.here sim ?_⟩
      cases r1 <;> rfl
  · exact e.elim

/-! ### subscripts -/
theorem Reps.atI {c : Cf} {vs : List V} {as : List AV} (r : Reps W c vs as) {i : Int} {a : AV} (h : L2.atI as i = some a) : ∃ v, L2.atI vs i = some v ∧ Rep W c v a := by
  unfold L2.atI at h ⊢
  rw [r.length]
  cases q : ixN as.length i with
  | none => rw [q] at h; cases h
  | some j =>
    rw [q] at h
    obtain ⟨v, h1, h2⟩ := r.get (i := j) h
    exact ⟨v, h1, h2⟩
theorem sub_snd (hK : X.K = W.K) : IxR X (v2 W subV) := by
  rintro value slice pins s σ H x y v u Q I rx ry ⟨c, a, b, Wx, S, rfl, sim, ra, rb, e⟩ hs
  unfold subV at e
  split at e
  · obtain ⟨z, h, e⟩ := e.of
    cases rb
    cases ra with
    | lst h1 r1 =>
      obtain ⟨w, hw, rw'⟩ := r1.atI h
      exact ix_list value slice pins s σ _ _ _ v u Q I rx ry ⟨_, _, _, w, rfl, rfl, by rw [hK]; exact h1.sq, hw, e.here sim rw'⟩ hs
  · obtain ⟨z, h, e⟩ := e.of
    cases rb
    cases ra with
    | tup h1 r1 =>
      obtain ⟨w, hw, rw'⟩ := r1.atI h
      exact ix_tup value slice pins s σ _ _ _ v u Q I rx ry ⟨_, _, _, w, rfl, rfl, by rw [hK]; exact h1.sq, hw, e.here sim rw'⟩ hs
  · cases ra; cases rb
    split at e
    · rename_i hl
      obtain ⟨z, h, e⟩ := e.of
      cases q : L2.atI (α := Nat) _ _ with
      | none => rw [q] at h; cases h
      | some k =>
        rw [q] at h
        cases h
        exact ix_str value slice pins s σ _ _ _ v u Q I rx ry ⟨_, _, k, rfl, rfl, by rw [line_eq]; exact hl, q, e.here sim (.str _)⟩ hs
    · exact e.elim
  · cases rb
    cases ra with
    | ref hp =>
      rename_i n i p
      cases q : lstAt c.h n with
      | none => simp only [q] at e; exact e.elim
      | some xs =>
        simp only [q] at e
        obtain ⟨z, h, e⟩ := e.of
        unfold lstAt at q
        split at q
        · rename_i ys hy
          cases q
          obtain ⟨vs, hv, rv⟩ := sim.obj n _ p hy hp
          obtain ⟨w, hw, rw'⟩ := rv.atI h
          exact ix_list value slice pins s σ _ _ _ v u Q I rx ry ⟨_, _, _, w, rfl, rfl, SqL.of hv, hw, e.here sim rw'⟩ hs
        · cases q
  · exact e.elim
theorem Reps.cut {c : Cf} {vs : List V} {as : List AV} (r : Reps W c vs as) (lo hi : Option Int) : Reps W c (cutV vs lo hi) (cut as lo hi) := by
  unfold cutV NT.cut
  rw [r.length]
  exact (r.drop _).take _
theorem slc_snd (hK : X.K = W.K) : SlR X (fun x lo hi H Q => ∃ (c : Cf) (a : AV) (Wx : WX) (S : L2.St), c.H = H ∧ Sim W c ∧ Rep W c x a ∧ End W Wx S c (Rep W) Q (slcV a lo hi c.h)) := by
  rintro pins s σ H x v vl vu lo hi sl Q I rx hs pl pu ⟨c, a, Wx, S, rfl, sim, ra, e⟩
  unfold slcV at e
  split at e
  · cases ra with
    | lst h1 r1 => exact sl_list pins s σ _ _ v vl vu lo hi sl Q I rx hs pl pu ⟨_, _, rfl, by rw [hK]; exact h1.sq, fun p hp => e.new sim hp (Rep.newLst sim hp (r1.cut lo hi))⟩
  · cases ra with
    | tup h1 r1 =>
      refine sl_tupA pins s σ _ _ v vl vu lo hi sl Q I rx hs pl pu ⟨_, _, rfl, by rw [hK]; exact h1.sq, fun hw => e.here sim ?_, fun _ p hp => e.new sim hp (Rep.newTup sim hp (r1.cut lo hi))⟩
      rename_i as _ _
      have z : NT.cut as lo hi = as := by
        unfold NT.cut
        rw [← r1.length, hw.1, hw.2, r1.length]
        simp
      rw [z]
      exact .tup h1 r1
  · cases ra
    obtain ⟨g, e⟩ := e.ok1
    exact sl_str pins s σ _ _ v vl vu lo hi sl Q I rx hs pl pu ⟨_, rfl, by rw [line_eq]; exact of_decide_eq_true g, e.here sim (.str _)⟩
  · exact e.elim

/-! ### stores -/
theorem Ext.write {c : Cf} (s : Sim W c) {n : Nat} {p : Addr} {o o' : AObj} {ho : HO} (hn : c.h[n]? = some o) (hd : o ≠ .dead) (hp : c.ρ[n]? = some p) : Ext c ⟨c.ρ, c.h.set n o', upd c.H p ho, c.x⟩ where
  pre := fun _ _ h => h
  keep := fun q u h nl _ => by
    show upd c.H p ho q = some u
    rw [upd_ne (fun z => nl (.inr ⟨n, o, by rw [z]; exact hp, hn, hd⟩))]; exact h
  nl := fun q _ _ _ nl l => by
    rcases l with l | ⟨m, u, h1, h2, h3⟩
    · exact nl (.inl l)
    · by_cases hm : m = n
      · subst hm
        have h1 : c.ρ[m]? = some q := h1
        exact nl (.inr ⟨m, o, h1, hn, hd⟩)
      · have h2 : (c.h.set n o')[m]? = some u := h2
        rw [List.getElem?_set_ne (Ne.symm hm)] at h2
        exact nl (.inr ⟨m, u, h1, h2, h3⟩)
  bx := rfl
  busy := fun q hq => upd_ne fun z => (s.bz q hq).2 ⟨n, o, by rw [z]; exact hp, hn, hd⟩
theorem set_live {h : AHeap} {n : Nat} {o o' : AObj} (hn : h[n]? = some o) (hd : o ≠ .dead) (m : Nat) (w : AObj) (e : (h.set n o')[m]? = some w) (hw : w ≠ .dead) : ∃ w', h[m]? = some w' ∧ w' ≠ .dead := by
  by_cases hm : m = n
  · subst hm; exact ⟨o, hn, hd⟩
  · rw [List.getElem?_set_ne (Ne.symm hm)] at e; exact ⟨w, e, hw⟩
theorem Sim.write {c : Cf} (s : Sim W c) {n : Nat} {p : Addr} {o o' : AObj} {ho : HO} (hn : c.h[n]? = some o) (hd : o ≠ .dead) (hp : c.ρ[n]? = some p) (new : ORep W ⟨c.ρ, c.h.set n o', upd c.H p ho, c.x⟩ p o') (hnt : NoTab ho) : Sim W ⟨c.ρ, c.h.set n o', upd c.H p ho, c.x⟩ where
  len := by
    show c.ρ.length = (c.h.set n o').length
    rw [List.length_set]; exact s.len
  inj := fun i j q u u' h1 h2 h3 h4 h5 h6 => by
    obtain ⟨w, e1, e2⟩ := set_live hn hd i u h3 h5
    obtain ⟨w', e3, e4⟩ := set_live hn hd j u' h4 h6
    exact s.inj i j q w w' h1 h2 e1 e3 e2 e4
  obj := fun m u q h1 h2 => by
    by_cases hm : m = n
    · subst hm
      have h2 : c.ρ[m]? = some q := h2
      rw [hp] at h2; cases h2
      have h1 : (c.h.set m o')[m]? = some u := h1
      rw [List.getElem?_set_self (by have := (List.getElem?_eq_some_iff.mp hn).1; exact this)] at h1
      cases h1
      exact new
    · have h1' : (c.h.set n o')[m]? = some u := h1
      rw [List.getElem?_set_ne (Ne.symm hm)] at h1'
      by_cases hud : u = .dead
      · subst hud; trivial
      · refine (s.obj m u q h1' h2).ext (Ext.write s hn hd hp).toEx0 (upd_ne fun z => ?_)
        subst z
        exact hm (s.inj m n q u o h2 hp h1' hn hud hd)
  bz := fun q hq => ⟨by
    show upd c.H p ho q ≠ none
    rw [upd_ne fun z => (s.bz q hq).2 ⟨n, o, by rw [z]; exact hp, hn, hd⟩]; exact (s.bz q hq).1, fun ⟨m, u, h1, h2, h3⟩ => by
    obtain ⟨w, e1, e2⟩ := set_live hn hd m u h2 h3
    exact (s.bz q hq).2 ⟨m, w, h1, e1, e2⟩⟩
  tb := tabs_keep s.tb fun b u h nt => by
    show upd c.H p ho b = _
    rw [upd_ne (fun z => nt (s.tl b (.inr ⟨n, o, by rw [z]; exact hp, hn, hd⟩) _ h))]; exact h
  tl := fun q hq u hu => by
    have hu : upd c.H p ho q = some u := hu
    by_cases z : q = p
    · rw [z, upd_same] at hu; cases hu; exact hnt
    · rw [upd_ne z] at hu
      refine s.tl q ?_ u hu
      rcases hq with l | ⟨m, w, h1, h2, h3⟩
      · exact .inl l
      · obtain ⟨w', e1, e2⟩ := set_live hn hd m w h2 h3
        exact .inr ⟨m, w', h1, e1, e2⟩
theorem setSub_snd : PSet X (fun x y v H Q => ∃ (c : Cf) (o i a : AV) (Wx : WX) (S : L2.St), c.H = H ∧ Sim W c ∧ Rep W c x o ∧ Rep W c y i ∧ Rep W c v a ∧ End W Wx S c (fun _ (_ : Unit) (_ : Unit) => True) (fun _ H' => Q H') (setSubV o i a c.h)) := by
  rintro pins s σ H x y v ov iv u Q I ro ri rv ⟨c, o, i, a, Wx, S, rfl, sim, rx, ry, ra, e⟩
  unfold setSubV at e
  split at e
  · rename_i n k
    cases ry
    cases rx with
    | ref hp =>
      rename_i p
      cases q : lstAt c.h n with
      | none => simp only [q] at e; exact e.elim
      | some xs =>
        simp only [q] at e
        cases q2 : ixN xs.length k with
        | none => simp only [q2] at e; exact e.elim
        | some j =>
          simp only [q2] at e
          unfold lstAt at q
          split at q
          · rename_i ys hy
            cases q
            obtain ⟨vs, hv, rvs⟩ := sim.obj n _ p hy hp
            have x : Ext c ⟨c.ρ, c.h.set n (.lst (xs.set j a)), upd c.H p (.lst (vs.set j v)), c.x⟩ := Ext.write sim hy (fun z => by cases z) hp
            refine set_list pins s σ _ _ _ _ ov iv u Q I ro ri rv ⟨p, vs, k, j, rfl, rfl, hv, by rw [rvs.length]; exact q2, ?_⟩
            exact e c.ρ _ () (sim.write (o' := .lst (xs.set j a)) (ho := .lst (vs.set j v)) hy (fun z => by cases z) hp ⟨_, upd_same, (rvs.to x).set (ra.to x) j⟩ noTab_lst) x trivial
          · cases q
  · exact e.elim
end
end NT
set_option linter.all false
set_option maxRecDepth 100000
set_option autoImplicit false
namespace NT
open PySem PySem.Spec PyProof.Rows L2
/-! ### sum, max, min of tuples -/
section
variable {prog : Program} {w : World} {A : Around} {E : Value → Shared → Prop} {s : Shared} {l : Addr} {Q : Value → Shared → Prop}
theorem top_tup {xs : Array (Int × Tok)} (hh : A.handled = none) (ht : s.heap.IsTuple l (intItems xs)) (hne : 0 < xs.size)
    (h : ∀ v h' tk, (intItems xs)[argBest (fun i j => decide (numAt xs i > numAt xs j)) (xs.size - 1)]? = some v → (∀ b o, s.heap.get? b = some o → h'.get? b = some o) → Q v { s with heap := h', toks := tk }) :
    wpAny (model prog w) A (call (.builtin "max") [.ref l]) Q E s := by
  obtain ⟨o, ho, hc, n, hd⟩ := id ht
  have ne : l ≠ s.heap.objs.size := Nat.ne_of_lt (Heap.lt_size ho)
  refine call_max_walk (wpAny_pyIter_tuple ht ?_)
  refine ⟨s.heap.objs.size, _, _, _, _, _, _, rfl, Walks.tuple (A := A.in1) hh s.heap.objs.size l ne (intItems xs), ⟨⟨_, Heap.get?_push_size _ rfl, rfl, rfl⟩, ht.at fun o e => Heap.get?_push_of_some _ e⟩, fun b hb => ?_, by simpa [intItems] using hne, CmpOf.ints_gt (numAt xs) (fun _ _ => intItems_at), fun v h' tk hP hk => ?_⟩
  · rcases List.mem_cons.mp hb with z | hb
    · rw [z]; exact Heap.lt_size (Heap.get?_push_size _ rfl)
    · rw [List.mem_singleton.mp hb]; exact Heap.lt_size (Heap.get?_push_of_some _ ho)
  · refine h v h' tk (by simpa [intItems] using hP) fun b o' e => hk b o' (fun hb => ?_) (Heap.get?_push_of_some _ e)
    have hz := Heap.lt_size e
    rw [List.mem_singleton.mp hb] at hz
    exact Nat.lt_irrefl _ hz
theorem low_tup {xs : Array (Int × Tok)} (hh : A.handled = none) (ht : s.heap.IsTuple l (intItems xs)) (hne : 0 < xs.size)
    (h : ∀ v h' tk, (intItems xs)[argBest (fun i j => decide (numAt xs i < numAt xs j)) (xs.size - 1)]? = some v → (∀ b o, s.heap.get? b = some o → h'.get? b = some o) → Q v { s with heap := h', toks := tk }) :
    wpAny (model prog w) A (call (.builtin "min") [.ref l]) Q E s := by
  obtain ⟨o, ho, hc, n, hd⟩ := id ht
  have ne : l ≠ s.heap.objs.size := Nat.ne_of_lt (Heap.lt_size ho)
  refine call_min_walk (wpAny_pyIter_tuple ht ?_)
  refine ⟨s.heap.objs.size, _, _, _, _, _, _, rfl, Walks.tuple (A := A.in1) hh s.heap.objs.size l ne (intItems xs), ⟨⟨_, Heap.get?_push_size _ rfl, rfl, rfl⟩, ht.at fun o e => Heap.get?_push_of_some _ e⟩, fun b hb => ?_, by simpa [intItems] using hne, CmpOf.ints_lt (numAt xs) (fun _ _ => intItems_at), fun v h' tk hP hk => ?_⟩
  · rcases List.mem_cons.mp hb with z | hb
    · rw [z]; exact Heap.lt_size (Heap.get?_push_size _ rfl)
    · rw [List.mem_singleton.mp hb]; exact Heap.lt_size (Heap.get?_push_of_some _ ho)
  · refine h v h' tk (by simpa [intItems] using hP) fun b o' e => hk b o' (fun hb => ?_) (Heap.get?_push_of_some _ e)
    have hz := Heap.lt_size e
    rw [List.mem_singleton.mp hb] at hz
    exact Nat.lt_irrefl _ hz
end
variable {X : Cx}
/-- the ints of a tuple, as the kit keeps them -/
theorem intsOf {ns : List Int} {its : List Value} (hi : IntsAre its ns) : ∃ xs : Array (Int × Tok), its.toArray = intItems xs ∧ (List.range xs.size).map (numAt xs) = ns ∧ xs.size = ns.length := by
  obtain ⟨xs, e⟩ := hi.allInts.items
  have hn : numsOf (intItems xs).toList = ns := by rw [← e]; exact hi.numsOf
  rw [nums_intItems] at hn
  refine ⟨xs, e, ?_, by rw [← hn]; simp⟩
  rw [← hn]
  apply List.ext_getElem
  · simp
  · intro i h1 h2
    simp [numAt_eq]
    simp at h1
    simp [h1]
def rSumT (K : PySem.W.Frag) : List V → Hp → VK → Prop := fun vs H Q => ∃ (a : Addr) (ns : List Int), vs = [V.ref a] ∧ SqT K H a (ns.map V.int) ∧ Q (.int ns.sum) H
theorem cr_sumT (hc : X.calm = true) : CallR X (.builtin "sum") (rSumT X.K) := by
  intro pins s σ H vs us Q I r h
  obtain ⟨a, ns, rfl, hs, q⟩ := h
  obtain ⟨its, rv, ht, _⟩ := I.tuple hs
  rw [Vals.ref1 r]
  obtain ⟨xs, e, _, _⟩ := intsOf rv.ints
  have hn : numsOf (intItems xs).toList = ns := by rw [← e]; exact rv.ints.numsOf
  rw [nums_intItems] at hn
  have ht' : s.heap.IsTuple a (intItems xs) := by rw [← e]; exact ht
  refine PySem.W.ktm_sumG (I.ok.hd hc) ht' fun h' tk t' hk => ?_
  rw [preSum_eq, List.take_of_length_le (by simp), hn]
  exact ⟨.int _, H, I.kept hk, ⟨_, rfl⟩, q⟩
def rTopT (K : PySem.W.Frag) : List V → Hp → VK → Prop := fun vs H Q => ∃ (a : Addr) (ns : List Int), vs = [V.ref a] ∧ SqT K H a (ns.map V.int) ∧ 0 < ns.length ∧ ∀ m, m ∈ ns → (∀ y, y ∈ ns → y ≤ m) → Q (.int m) H
def rLowT (K : PySem.W.Frag) : List V → Hp → VK → Prop := fun vs H Q => ∃ (a : Addr) (ns : List Int), vs = [V.ref a] ∧ SqT K H a (ns.map V.int) ∧ 0 < ns.length ∧ ∀ m, m ∈ ns → (∀ y, y ∈ ns → m ≤ y) → Q (.int m) H
theorem cr_topT (hc : X.calm = true) : CallR X (.builtin "max") (rTopT X.K) := by
  intro pins s σ H vs us Q I r h
  obtain ⟨a, ns, rfl, hs, hne, q⟩ := h
  obtain ⟨its, rv, ht, _⟩ := I.tuple hs
  rw [Vals.ref1 r]
  obtain ⟨xs, e, em, el⟩ := intsOf rv.ints
  have ht' : s.heap.IsTuple a (intItems xs) := by rw [← e]; exact ht
  refine top_tup (I.ok.hd hc) ht' (by rw [el]; exact hne) fun v h' tk hv hk => ?_
  obtain ⟨t, rfl⟩ := intItems_at hv
  obtain ⟨b1, b2⟩ := argBest_gt (numAt xs) (xs.size - 1)
  refine ⟨.int _, H, I.kept hk, ⟨_, rfl⟩, q _ ?_ fun y hy => ?_⟩
  · rw [← em]; exact List.mem_map.mpr ⟨_, List.mem_range.mpr (by omega), rfl⟩
  · rw [← em] at hy
    obtain ⟨j, hj, rfl⟩ := List.mem_map.mp hy
    exact b2 j (by have := List.mem_range.mp hj; omega)
theorem cr_lowT (hc : X.calm = true) : CallR X (.builtin "min") (rLowT X.K) := by
  intro pins s σ H vs us Q I r h
  obtain ⟨a, ns, rfl, hs, hne, q⟩ := h
  obtain ⟨its, rv, ht, _⟩ := I.tuple hs
  rw [Vals.ref1 r]
  obtain ⟨xs, e, em, el⟩ := intsOf rv.ints
  have ht' : s.heap.IsTuple a (intItems xs) := by rw [← e]; exact ht
  refine low_tup (I.ok.hd hc) ht' (by rw [el]; exact hne) fun v h' tk hv hk => ?_
  obtain ⟨t, rfl⟩ := intItems_at hv
  obtain ⟨b1, b2⟩ := argBest_lt (numAt xs) (xs.size - 1)
  refine ⟨.int _, H, I.kept hk, ⟨_, rfl⟩, q _ ?_ fun y hy => ?_⟩
  · rw [← em]; exact List.mem_map.mpr ⟨_, List.mem_range.mpr (by omega), rfl⟩
  · rw [← em] at hy
    obtain ⟨j, hj, rfl⟩ := List.mem_map.mp hy
    exact b2 j (by have := List.mem_range.mp hj; omega)
/-! ### max and min of a list of ints, in the meaning -/
theorem foldl_top : ∀ (xs : List Int) (x : Int), xs.foldl (fun a b => if b > a then b else a) x ∈ x :: xs ∧ ∀ y, y ∈ x :: xs → y ≤ xs.foldl (fun a b => if b > a then b else a) x
  | [], x => ⟨by simp, by simp⟩
  | z :: xs, x => by
    rw [List.foldl_cons]
    obtain ⟨h1, h2⟩ := foldl_top xs (if z > x then z else x)
    generalize xs.foldl (fun a b => if b > a then b else a) (if z > x then z else x) = m at h1 h2
    have h3 := h2 _ List.mem_cons_self
    refine ⟨?_, fun y hy => ?_⟩
    · rcases List.mem_cons.mp h1 with e | e
      · rw [e]; split
        · exact List.mem_cons_of_mem _ List.mem_cons_self
        · exact List.mem_cons_self
      · exact List.mem_cons_of_mem _ (List.mem_cons_of_mem _ e)
    · rcases List.mem_cons.mp hy with e | e
      · rw [e]; split at h3 <;> omega
      · rcases List.mem_cons.mp e with e | e
        · rw [e]; split at h3 <;> omega
        · exact h2 y (List.mem_cons_of_mem _ e)
theorem foldl_low : ∀ (xs : List Int) (x : Int), xs.foldl (fun a b => if b < a then b else a) x ∈ x :: xs ∧ ∀ y, y ∈ x :: xs → xs.foldl (fun a b => if b < a then b else a) x ≤ y
  | [], x => ⟨by simp, by simp⟩
  | z :: xs, x => by
    rw [List.foldl_cons]
    obtain ⟨h1, h2⟩ := foldl_low xs (if z < x then z else x)
    generalize xs.foldl (fun a b => if b < a then b else a) (if z < x then z else x) = m at h1 h2
    have h3 := h2 _ List.mem_cons_self
    refine ⟨?_, fun y hy => ?_⟩
    · rcases List.mem_cons.mp h1 with e | e
      · rw [e]; split
        · exact List.mem_cons_of_mem _ List.mem_cons_self
        · exact List.mem_cons_self
      · exact List.mem_cons_of_mem _ (List.mem_cons_of_mem _ e)
    · rcases List.mem_cons.mp hy with e | e
      · rw [e]; split at h3 <;> omega
      · rcases List.mem_cons.mp e with e | e
        · rw [e]; split at h3 <;> omega
        · exact h2 y (List.mem_cons_of_mem _ e)
theorem maxI_is {ns : List Int} {z : AV} (h : maxI ns = some z) : 0 < ns.length ∧ ∀ m, m ∈ ns → (∀ y, y ∈ ns → y ≤ m) → z = .int m := by
  cases ns with
  | nil => cases h
  | cons x xs =>
    cases h
    obtain ⟨h1, h2⟩ := foldl_top xs x
    refine ⟨by simp, fun m hm hy => ?_⟩
    have a1 := h2 m hm
    have a2 := hy _ h1
    exact congrArg AV.int (Int.le_antisymm a2 a1)
theorem minI_is {ns : List Int} {z : AV} (h : minI ns = some z) : 0 < ns.length ∧ ∀ m, m ∈ ns → (∀ y, y ∈ ns → m ≤ y) → z = .int m := by
  cases ns with
  | nil => cases h
  | cons x xs =>
    cases h
    obtain ⟨h1, h2⟩ := foldl_low xs x
    refine ⟨by simp, fun m hm hy => ?_⟩
    have a1 := h2 m hm
    have a2 := hy _ h1
    exact congrArg AV.int (Int.le_antisymm a1 a2)
end NT
set_option linter.all false
set_option maxRecDepth 100000
set_option autoImplicit false
namespace NT
open PySem PySem.Spec PyProof.Rows L2
def bV : B → Value
  | .len => .builtin "len" | .abs => .builtin "abs" | .int => .type "int" | .bool => .type "bool" | .str => .type "str" | .isinstance => .builtin "isinstance"
  | .all => .builtin "all" | .any => .builtin "any" | .sum => .builtin "sum" | .max => .builtin "max" | .min => .builtin "min" | .list => .type "list" | .tuple => .type "tuple"
  | .sorted => .builtin "sorted" | .repr => .builtin "repr" | .type => .type "type"
def bN : B → Str
  | .len => "len" | .abs => "abs" | .int => "int" | .bool => "bool" | .str => "str" | .isinstance => "isinstance"
  | .all => "all" | .any => "any" | .sum => "sum" | .max => "max" | .min => "min" | .list => "list" | .tuple => "tuple" | .sorted => "sorted" | .repr => "repr" | .type => "type"
theorem bN_boot (b : B) : bootBuiltins (bN b) = some (bV b) := by cases b <;> decide +kernel
theorem bN_name (b : B) : bN b ≠ "__name__" := by cases b <;> decide +kernel
theorem bN_dbg (b : B) : (bN b == ("__debug__" : Str)) = false := by cases b <;> decide +kernel
theorem kitB_all : ∀ n ∈ ["NoneType", "bool", "int", "str", "tuple", "list"], ∀ T ∈ ["int", "bool", "str", "list", "tuple"], kitB n T = some (decide (n = T) || (decide (n = "bool") && decide (T = "int"))) := by decide +kernel
def rBlt (W : Wd) (b : B) : List V → Hp → VK → Prop := fun xs H Q => ∃ (c : Cf) (as : List AV) (Wx : WX) (S : L2.St), c.H = H ∧ Sim W c ∧ Reps W c xs as ∧ End W Wx S c (Rep W) Q (bltV b as c.h)
def rBm (W : Wd) (m : BM) : V → List V → Hp → VK → Prop := fun x xs H Q => ∃ (c : Cf) (a : AV) (as : List AV) (Wx : WX) (S : L2.St), c.H = H ∧ Sim W c ∧ Rep W c x a ∧ Reps W c xs as ∧ End W Wx S c (Rep W) Q (bmV m a as c.h)
section
variable {X : Cx} {W : Wd}
theorem Rep.tyX {c : Cf} {v : V} {a : AV} {n : String} (r : Rep W c v a) (h : tyN a = some n) : TyX W.K c.H v (.type n) := by
  cases r with
  | non => cases h; exact .base .non
  | bl b => cases h; exact .base (.bl b)
  | int i => cases h; exact .base (.int i)
  | str s => cases h; exact .base (.str s)
  | ty n => cases h
  | tup h1 r1 =>
    cases h
    rcases h1 with ⟨_, h1 | ⟨o, h1⟩⟩ | ⟨o, its, k, h1, h2, _⟩
    · exact .base (.tup h1)
    · exact .fTuple h1
    · exact .kTuple h1 h2
  | lst h1 r1 =>
    cases h
    rcases h1 with ⟨_, h1 | ⟨o, h1⟩⟩ | ⟨o, its, k, h1, h2, _⟩
    · exact .base (.lst h1)
    · exact .base (.frz h1)
    · exact .kList h1 h2
  | obj => cases h
  | ref => cases h
  | cls => cases h
  | fn => cases h
theorem tyN_mem {a : AV} {n : String} (h : tyN a = some n) : n ∈ ["NoneType", "bool", "int", "str", "tuple", "list"] := by
  cases a <;> simp [tyN] at h <;> subst h <;> decide
theorem blt_snd (hc : X.calm = true) (hK : X.K = W.K) (b : B) : CallR X (bV b) (rBlt W b) := by
  rintro pins s σ H xs us Q I rv ⟨c, as, Wx, S, rfl, sim, ra, e⟩
  have sL : ∀ {p : Addr} {vs : List V}, FzL W.K c p vs → SqL X.K c.H p vs := fun h => by rw [hK]; exact h.sq
  have sT : ∀ {p : Addr} {vs : List V}, FzT W.K c p vs → SqT X.K c.H p vs := fun h => by rw [hK]; exact h.sq
  unfold bltV at e
  split at e
  · cases ra with
    | cons r t =>
      cases t
      cases r with
      | lst h1 r1 => exact call_len_seq pins s σ _ _ us Q I rv ⟨_, _, rfl, .inl (sL h1), e.here sim (by rw [r1.length]; exact .int _)⟩
  · cases ra with
    | cons r t =>
      cases t
      cases r with
      | tup h1 r1 => exact call_len_seq pins s σ _ _ us Q I rv ⟨_, _, rfl, .inr (sT h1), e.here sim (by rw [r1.length]; exact .int _)⟩
  · cases ra with
    | cons r t =>
      cases t
      cases r
      obtain ⟨g, e⟩ := e.ok1
      exact call_len_str pins s σ _ _ us Q I rv ⟨_, rfl, by rw [line_eq]; exact of_decide_eq_true g, e.here sim (.int _)⟩
  · cases ra with
    | cons r t =>
      cases t
      cases r with
      | ref hp =>
        rename_i n p
        cases q : lstAt c.h n with
        | none => simp only [q] at e; exact e.elim
        | some ys =>
          simp only [q] at e
          unfold lstAt at q
          split at q
          · rename_i zs hy
            cases q
            obtain ⟨vs, hv, rvs⟩ := sim.obj n _ p hy hp
            exact call_len_seq pins s σ _ _ us Q I rv ⟨_, _, rfl, .inl (SqL.of hv), e.here sim (by rw [rvs.length]; exact .int _)⟩
          · cases q
  · cases ra with
    | cons r t => cases t; cases r; exact call_abs pins s σ _ _ us Q I rv ⟨_, rfl, e.here sim (.int _)⟩
  · cases ra with
    | cons r t => cases t; cases r; exact call_int1 pins s σ _ _ us Q I rv (.inl ⟨_, rfl, e.here sim (.int _)⟩)
  · cases ra with
    | cons r t => cases t; cases r; exact call_int1 pins s σ _ _ us Q I rv (.inr ⟨_, rfl, e.here sim (.int _)⟩)
  · cases ra with
    | cons r t => cases t; cases r; exact call_bool1 pins s σ _ _ us Q I rv (.inl ⟨_, rfl, e.here sim (.bl _)⟩)
  · cases ra with
    | cons r t => cases t; cases r; exact call_bool1 pins s σ _ _ us Q I rv (.inr ⟨_, rfl, e.here sim (.bl _)⟩)
  · cases ra with
    | cons r t =>
      cases t; cases r
      obtain ⟨g, e⟩ := e.ok1
      exact call_str_int pins s σ _ _ us Q I rv ⟨_, rfl, of_decide_eq_true g, e.here sim (.str _)⟩
  · rename_i a T
    cases ra with
    | cons r t =>
      cases t with
      | cons r2 t2 =>
        cases t2; cases r2
        obtain ⟨z, h, e⟩ := e.of
        unfold isTy at h
        cases q : tyN a with
        | none => rw [q] at h; cases h
        | some n =>
          rw [q] at h
          simp only at h
          split at h
          · rename_i hT
            cases h
            have hm : T ∈ ["int", "bool", "str", "list", "tuple"] := by
              rcases hT with rfl | rfl | rfl | rfl | rfl <;> decide
            exact call_isi pins s σ _ _ us Q I rv ⟨_, _, _, _, _, rfl, .ty _, by rw [hK]; exact r.tyX q, kit_ty (kitB_all n (tyN_mem q) T hm), e.here sim (.bl _)⟩
          · cases h
  · cases ra with
    | cons r t =>
      cases t
      cases r with
      | lst h1 r1 =>
        obtain ⟨z, h, e⟩ := e.of
        rename_i ys _ _ _
        cases q : allB ys with
        | none => rw [q] at h; cases h
        | some bs => rw [q] at h; cases h; exact cr_all hc pins s σ _ _ us Q I rv ⟨_, bs, rfl, by rw [← r1.bools q]; exact sL h1, e.here sim (.bl _)⟩
  · cases ra with
    | cons r t =>
      cases t
      cases r with
      | lst h1 r1 =>
        obtain ⟨z, h, e⟩ := e.of
        rename_i ys _ _ _
        cases q : allB ys with
        | none => rw [q] at h; cases h
        | some bs => rw [q] at h; cases h; exact cr_any hc pins s σ _ _ us Q I rv ⟨_, bs, rfl, by rw [← r1.bools q]; exact sL h1, e.here sim (.bl _)⟩
  · cases ra with
    | cons r t =>
      cases t
      cases r with
      | lst h1 r1 =>
        obtain ⟨z, h, e⟩ := e.of
        rename_i ys _ _ _
        cases q : allI ys with
        | none => rw [q] at h; cases h
        | some ns => rw [q] at h; cases h; exact cr_sum hc pins s σ _ _ us Q I rv ⟨_, ns, rfl, by rw [← r1.ints q]; exact sL h1, e.here sim (.int _)⟩
  · cases ra with
    | cons r t =>
      cases t
      cases r with
      | tup h1 r1 =>
        obtain ⟨z, h, e⟩ := e.of
        rename_i ys _ _ _
        cases q : allI ys with
        | none => rw [q] at h; cases h
        | some ns => rw [q] at h; cases h; exact cr_sumT hc pins s σ _ _ us Q I rv ⟨_, ns, rfl, by rw [← r1.ints q]; exact sT h1, e.here sim (.int _)⟩
  · cases ra with
    | cons r t =>
      cases t with
      | cons r2 t2 => cases t2; cases r; cases r2; exact call_max2 hc pins s σ _ _ us Q I rv ⟨_, _, rfl, e.here sim (.int _)⟩
  · cases ra with
    | cons r t =>
      cases t with
      | cons r2 t2 => cases t2; cases r; cases r2; exact call_min2 hc pins s σ _ _ us Q I rv ⟨_, _, rfl, e.here sim (.int _)⟩
  · cases ra with
    | cons r t =>
      cases t
      cases r with
      | lst h1 r1 =>
        obtain ⟨z, h, e⟩ := e.of
        rename_i ys _ _ _
        cases q : allI ys with
        | none => rw [q] at h; cases h
        | some ns =>
          rw [q] at h
          obtain ⟨g1, g2⟩ := maxI_is (show maxI ns = some z from h)
          exact cr_max hc pins s σ _ _ us Q I rv ⟨_, ns, rfl, by rw [← r1.ints q]; exact sL h1, g1, fun m hm hy => by have ez := g2 m hm hy; subst ez; exact e.here sim (.int _)⟩
  · cases ra with
    | cons r t =>
      cases t
      cases r with
      | tup h1 r1 =>
        obtain ⟨z, h, e⟩ := e.of
        rename_i ys _ _ _
        cases q : allI ys with
        | none => rw [q] at h; cases h
        | some ns =>
          rw [q] at h
          obtain ⟨g1, g2⟩ := maxI_is (show maxI ns = some z from h)
          exact cr_topT hc pins s σ _ _ us Q I rv ⟨_, ns, rfl, by rw [← r1.ints q]; exact sT h1, g1, fun m hm hy => by have ez := g2 m hm hy; subst ez; exact e.here sim (.int _)⟩
  · cases ra with
    | cons r t =>
      cases t
      cases r with
      | lst h1 r1 =>
        obtain ⟨z, h, e⟩ := e.of
        rename_i ys _ _ _
        cases q : allI ys with
        | none => rw [q] at h; cases h
        | some ns =>
          rw [q] at h
          obtain ⟨g1, g2⟩ := minI_is (show minI ns = some z from h)
          exact cr_min hc pins s σ _ _ us Q I rv ⟨_, ns, rfl, by rw [← r1.ints q]; exact sL h1, g1, fun m hm hy => by have ez := g2 m hm hy; subst ez; exact e.here sim (.int _)⟩
  · cases ra with
    | cons r t =>
      cases t
      cases r with
      | tup h1 r1 =>
        obtain ⟨z, h, e⟩ := e.of
        rename_i ys _ _ _
        cases q : allI ys with
        | none => rw [q] at h; cases h
        | some ns =>
          rw [q] at h
          obtain ⟨g1, g2⟩ := minI_is (show minI ns = some z from h)
          exact cr_lowT hc pins s σ _ _ us Q I rv ⟨_, ns, rfl, by rw [← r1.ints q]; exact sT h1, g1, fun m hm hy => by have ez := g2 m hm hy; subst ez; exact e.here sim (.int _)⟩
  · cases ra with
    | cons r t =>
      cases t
      cases r with
      | lst h1 r1 => exact call_list_of pins s σ _ _ us Q I rv ⟨_, _, rfl, .inl (sL h1), fun p hp => e.new sim hp (Rep.newLst sim hp r1)⟩
  · cases ra with
    | cons r t =>
      cases t
      cases r with
      | tup h1 r1 => exact call_list_of pins s σ _ _ us Q I rv ⟨_, _, rfl, .inr (sT h1), fun p hp => e.new sim hp (Rep.newLst sim hp r1)⟩
  · cases ra with
    | cons r t =>
      cases t
      cases r with
      | lst h1 r1 => exact call_tuple_of pins s σ _ _ us Q I rv ⟨_, _, rfl, .inl ⟨sL h1, fun p hp => e.new sim hp (Rep.newTup sim hp r1)⟩⟩
  · cases ra with
    | cons r t =>
      cases t
      cases r with
      | tup h1 r1 => exact call_tuple_of pins s σ _ _ us Q I rv ⟨_, _, rfl, .inr ⟨sT h1, e.here sim (.tup h1 r1)⟩⟩
  · exact e.elim
theorem join_snd (hK : X.K = W.K) : MtR X "str.join" (rBm W .join) := by
  rintro pins s σ H x xs v us Q I rx rv ⟨c, a, as, Wx, S, rfl, sim, r, ra, e⟩
  cases r <;> try exact e.elim
  cases ra with
  | nil => exact e.elim
  | cons r1 t =>
    cases t with
    | cons _ _ => cases r1 <;> exact e.elim
    | nil =>
      cases r1 <;> try exact e.elim
      rename_i ys h1 rs
      have e : End W Wx S c (Rep W) Q (joinV _ (allS ys) c.h) := e
      cases q : allS ys with
      | none => rw [q] at e; exact e.elim
      | some ss =>
        rw [q] at e
        obtain ⟨g, e⟩ := End.ok1 e
        exact mt_join pins s σ _ _ _ v us Q I rx rv ⟨_, _, ss, rfl, rfl, .inl (by rw [← rs.strs q, hK]; exact h1.sq), of_decide_eq_true g, e.here sim (.str _)⟩
theorem rjust_snd : MtR X "str.rjust" (rBm W .rjust) := by
  rintro pins s σ H x xs v us Q I rx rv ⟨c, a, as, Wx, S, rfl, sim, r, ra, e⟩
  cases r <;> try exact e.elim
  cases ra with
  | nil => exact e.elim
  | cons r1 t =>
    cases t with
    | cons _ _ => cases r1 <;> exact e.elim
    | nil =>
      cases r1 <;> try exact e.elim
      rename_i z i
      have e : End W Wx S c (Rep W) Q (ok1 (PadOk i) (.str (Txt.rjust z i)) c.h) := e
      obtain ⟨g, e⟩ := End.ok1 e
      exact mt_rjust pins s σ _ _ _ v us Q I rx rv ⟨_, _, rfl, rfl, g, e.here sim (.str _)⟩
theorem lstAt_obj {c : Cf} (sim : Sim W c) {n : Nat} {p : Addr} {xs : List AV} (hp : c.ρ[n]? = some p) (q : lstAt c.h n = some xs) : c.h[n]? = some (.lst xs) ∧ ∃ vs, c.H p = some (.lst vs) ∧ Reps W c vs xs := by
  unfold lstAt at q
  split at q
  · rename_i ys hy
    cases q
    exact ⟨hy, sim.obj n _ p hy hp⟩
  · cases q
theorem append_snd : MtR X "list.append" (rBm W .append) := by
  rintro pins s σ H x xs v us Q I rx rv ⟨c, a, as, Wx, S, rfl, sim, r, ra, e⟩
  cases r <;> try exact e.elim
  rename_i p n hp
  cases ra with
  | nil => exact e.elim
  | cons r1 t =>
    cases t with
    | cons _ _ => exact e.elim
    | nil =>
      rename_i w y
      have e : End W Wx S c (Rep W) Q (match lstAt c.h n with
        | some xs => if xs.length < line then .ok .non (c.h.set n (.lst (xs ++ [y]))) else .bad
        | none => .bad) := e
      cases q : lstAt c.h n with
      | none => rw [q] at e; exact e.elim
      | some zs =>
        simp only [q] at e
        split at e
        · rename_i hl
          obtain ⟨hy, vs, hv, rvs⟩ := lstAt_obj sim hp q
          have x : Ext c ⟨c.ρ, c.h.set n (.lst (zs ++ [y])), upd c.H p (.lst (vs ++ [w])), c.x⟩ := Ext.write sim hy (fun z => by cases z) hp
          refine mt_append pins s σ _ _ _ v us Q I rx rv ⟨p, vs, w, rfl, rfl, hv, by rw [rvs.length, line_eq]; exact hl, ?_⟩
          exact e c.ρ _ .non (sim.write (o' := .lst (zs ++ [y])) (ho := .lst (vs ++ [w])) hy (fun z => by cases z) hp ⟨_, upd_same, (rvs.to x).append (.cons (r1.to x) .nil)⟩ noTab_lst) x .non
        · exact e.elim
theorem clear_snd : MtR X "list.clear" (rBm W .clear) := by
  rintro pins s σ H x xs v us Q I rx rv ⟨c, a, as, Wx, S, rfl, sim, r, ra, e⟩
  cases r <;> try exact e.elim
  rename_i p n hp
  cases ra with
  | cons _ _ => exact e.elim
  | nil =>
    have e : End W Wx S c (Rep W) Q (match lstAt c.h n with
      | some _ => .ok .non (c.h.set n (.lst []))
      | none => .bad) := e
    cases q : lstAt c.h n with
    | none => rw [q] at e; exact e.elim
    | some zs =>
      simp only [q] at e
      obtain ⟨hy, vs, hv, rvs⟩ := lstAt_obj sim hp q
      have x : Ext c ⟨c.ρ, c.h.set n (.lst []), upd c.H p (.lst []), c.x⟩ := Ext.write sim hy (fun z => by cases z) hp
      refine mt_clear pins s σ _ _ _ v us Q I rx rv ⟨p, vs, rfl, rfl, hv, ?_⟩
      exact e c.ρ _ .non (sim.write (o' := .lst []) (ho := .lst []) hy (fun z => by cases z) hp ⟨_, upd_same, .nil⟩ noTab_lst) x .non
/-! ### methods of built-in classes -/
def bmOk : BM → Bool
  | .join => true
  | .rjust => true
  | .append => true
  | .clear => true
  | _ => false
def bmN : BM → Str
  | .join => "join" | .append => "append" | .index => "index" | .get => "get" | .split => "split" | .partition => "partition" | .isdigit => "isdigit" | .startswith => "startswith"
  | .rjust => "rjust" | .pop => "pop" | .clear => "clear" | .insert => "insert" | .replace => "replace" | .items => "items" | .values => "values" | .count => "count"
structure BmOk (W : Wd) (X : Cx) (m : BM) where
  T : String
  id : String
  pa : PlainAttrs T
  slot : Slot T (bmN m) id
  ty : typeOf (.builtin id) = pure (.type "method_descriptor")
  mt : MtR X id (rBm W m)
  own : ∀ (c : Cf) (v : V) (a : AV), Sim W c → Rep W c v a → bmTy c.h m a = true → tyV X.K T v c.H
theorem own_lst {c : Cf} {v : V} {a : AV} {n : Nat} {m : BM} (hK : X.K = W.K) (sim : Sim W c) (r : Rep W c v (.ref n)) (t : (lstAt c.h n).isSome = true) : tyV X.K "list" v c.H := by
  cases r with
  | ref hp =>
    obtain ⟨zs, q⟩ := Option.isSome_iff_exists.mp t
    obtain ⟨_, vs, hv, _⟩ := lstAt_obj sim hp q
    exact .inl ⟨rfl, vs, .inl (.inl hv)⟩
theorem bm_facts (hK : X.K = W.K) (m : BM) (h : bmOk m = true) : Nonempty (BmOk W X m) := by
  cases m <;> try cases h
  · refine ⟨⟨"str", "str.join", F.plainAttrs_str, F.slot_str_join, F.type_str_join, join_snd hK, fun c v a _ r t => ?_⟩⟩
    cases r <;> first | cases t; done | rfl
  · refine ⟨⟨"list", "list.append", F.plainAttrs_list, F.slot_list_append, F.type_list_append, append_snd, fun c v a sim r t => ?_⟩⟩
    cases a <;> first | cases t; done | exact own_lst (m := .append) (a := .non) hK sim r t
  · refine ⟨⟨"str", "str.rjust", F.plainAttrs_str, F.slot_str_rjust, F.type_str_rjust, rjust_snd, fun c v a _ r t => ?_⟩⟩
    cases r <;> first | cases t; done | rfl
  · refine ⟨⟨"list", "list.clear", F.plainAttrs_list, F.slot_list_clear, F.type_list_clear, clear_snd, fun c v a sim r t => ?_⟩⟩
    cases a <;> first | cases t; done | exact own_lst (m := .append) (a := .non) hK sim r t
end
end NT
set_option linter.all false
set_option maxRecDepth 100000
set_option autoImplicit false
namespace NT
open PySem PySem.Spec PyProof.Rows L2
/-! ### leaving: what was made since is cut off -/
def cutC (n : Nat) (c : Cf) : Cf := ⟨c.ρ.take n, c.h.take n, c.H, c.x⟩
theorem take_get {α : Type} {l : List α} {n m : Nat} {a : α} (h : (l.take n)[m]? = some a) : m < n ∧ l[m]? = some a := by
  rw [List.getElem?_take] at h
  split at h
  · exact ⟨by assumption, h⟩
  · cases h
theorem hlive_cut {n : Nat} {c : Cf} {p : Addr} (h : HLive (cutC n c) p) : HLive c p := by
  obtain ⟨m, o, h1, h2, h3⟩ := h
  exact ⟨m, o, (take_get h1).2, (take_get h2).2, h3⟩
theorem live_cut {n : Nat} {c : Cf} {p : Addr} (h : Live (cutC n c) p) : Live c p := h.imp id hlive_cut
section
variable {W : Wd}
theorem rd_cut {n : Nat} {c : Cf} {p : Addr} {u : HO} (h : ¬ Live c p ∧ Rd c.H p u) : ¬ Live (cutC n c) p ∧ Rd (cutC n c).H p u := ⟨fun z => h.1 (live_cut z), h.2⟩
theorem fzT_cut {K : PySem.W.Frag} {n : Nat} {c : Cf} {p : Addr} {vs : List V} (h : FzT K c p vs) : FzT K (cutC n c) p vs := h.imp rd_cut id
theorem fzL_cut {K : PySem.W.Frag} {n : Nat} {c : Cf} {p : Addr} {vs : List V} (h : FzL K c p vs) : FzL K (cutC n c) p vs := h.imp rd_cut id
theorem dfR_cut {n : Nat} {c : Cf} {dV : Value} : ∀ {ox : Option Str}, DfR c dV ox → DfR (cutC n c) dV ox
  | none, h => h
  | some _, ⟨T, h1, h2, h3⟩ => ⟨T, h1, fun z => h2 (live_cut z), h3⟩
mutual
theorem rep_cut {n : Nat} {c : Cf} : ∀ (a : AV) (v : V), Rep W c v a → refB n a = true → Rep W (cutC n c) v a
  | .non, _, h, _ => by cases h; exact .non
  | .bl b, _, h, _ => by cases h; exact .bl b
  | .int i, _, h, _ => by cases h; exact .int i
  | .str s, _, h, _ => by cases h; exact .str s
  | .ty t, _, h, _ => by cases h; exact .ty t
  | .tup xs, _, h, e => by
    cases h with
    | tup h1 h2 => exact .tup (fzT_cut h1) (reps_cut xs _ h2 (by simpa [refB] using e))
  | .lst xs, _, h, e => by
    cases h with
    | lst h1 h2 => exact .lst (fzL_cut h1) (reps_cut xs _ h2 (by simpa [refB] using e))
  | .obj k ks xs, _, h, e => by
    cases h with
    | obj h1 h2 h3 h4 => exact .obj (fun z => h1 (live_cut z)) h2 h3 (reps_cut xs _ h4 (by simpa [refB] using e))
  | .ref m, _, h, e => by
    cases h with
    | ref h1 =>
      refine .ref ?_
      show (c.ρ.take n)[m]? = _
      rw [List.getElem?_take, if_pos (by simpa [refB] using e)]; exact h1
  | .cls k, _, h, _ => by cases h; exact .cls k
  | .fn f, _, h, _ => by
    cases h with
    | fn h1 h2 h3 h4 h5 h6 => exact .fn h1 (fun z => h2 (live_cut z)) (fun z => h3 (live_cut z)) h4 h5 (dfR_cut h6)
  | .dct _ _, _, h, _ => by cases h
  | .exo _ _ _, _, h, _ => by cases h
theorem reps_cut {n : Nat} {c : Cf} : ∀ (as : List AV) (vs : List V), Reps W c vs as → refBs n as = true → Reps W (cutC n c) vs as
  | [], _, h, _ => by cases h; exact .nil
  | a :: as, _, h, e => by
    simp only [refBs, Bool.and_eq_true] at e
    cases h with
    | cons h1 h2 => exact .cons (rep_cut a _ h1 e.1) (reps_cut as _ h2 e.2)
end
mutual
theorem rep_refB {c : Cf} : ∀ (a : AV) (v : V), Rep W c v a → refB c.ρ.length a = true
  | .non, _, h => rfl
  | .bl b, _, h => rfl
  | .int i, _, h => rfl
  | .str s, _, h => rfl
  | .ty t, _, h => rfl
  | .tup xs, _, h => by
    cases h with
    | tup h1 h2 => simpa [refB] using reps_refB xs _ h2
  | .lst xs, _, h => by
    cases h with
    | lst h1 h2 => simpa [refB] using reps_refB xs _ h2
  | .obj k ks xs, _, h => by
    cases h with
    | obj h1 h2 h3 h4 => simpa [refB] using reps_refB xs _ h4
  | .ref m, _, h => by
    cases h with
    | ref h1 => simpa [refB] using (List.getElem?_eq_some_iff.mp h1).1
  | .cls k, _, h => rfl
  | .fn f, _, h => rfl
  | .dct _ _, _, h => by cases h
  | .exo _ _ _, _, h => by cases h
theorem reps_refB {c : Cf} : ∀ (as : List AV) (vs : List V), Reps W c vs as → refBs c.ρ.length as = true
  | [], _, h => rfl
  | a :: as, _, h => by
    cases h with
    | cons h1 h2 => simp only [refBs, Bool.and_eq_true]; exact ⟨rep_refB a _ h1, reps_refB as _ h2⟩
end
theorem orep_refB {c : Cf} {p : Addr} {o : AObj} (h : ORep W c p o) : refBO c.ρ.length o = true := by
  cases o with
  | dead => rfl
  | lst xs => obtain ⟨vs, _, h2⟩ := h; exact reps_refB _ _ h2
  | ins k ks xs => obtain ⟨dx, fs, _, _, h2⟩ := h; exact reps_refB _ _ h2
  | dct _ _ => exact h.elim
theorem orep_cut {n : Nat} {c : Cf} {p : Addr} {o : AObj} (h : ORep W c p o) (e : refBO n o = true) : ORep W (cutC n c) p o := by
  cases o with
  | dead => trivial
  | lst xs => obtain ⟨vs, h1, h2⟩ := h; exact ⟨vs, h1, reps_cut _ _ h2 e⟩
  | ins k ks xs => obtain ⟨dx, fs, h1, h2, h3⟩ := h; exact ⟨dx, fs, h1, h2, reps_cut _ _ h3 e⟩
  | dct _ _ => exact h.elim
/-! ### by value -/
mutual
theorem rep_frz {n : Nat} {c : Cf} {R : Nat → Option AV} (hR : ∀ m p a', c.ρ[m]? = some p → R m = some a' → Rep W (cutC n c) (.ref p) a') : ∀ (a : AV) (v : V) (a' : AV), Rep W c v a → frzA R a = some a' → Rep W (cutC n c) v a'
  | .non, _, _, h, e => by cases h; simp [frzA] at e; subst e; exact .non
  | .bl b, _, _, h, e => by cases h; simp [frzA] at e; subst e; exact .bl b
  | .int i, _, _, h, e => by cases h; simp [frzA] at e; subst e; exact .int i
  | .str s, _, _, h, e => by cases h; simp [frzA] at e; subst e; exact .str s
  | .ty t, _, _, h, e => by cases h; simp [frzA] at e; subst e; exact .ty t
  | .tup xs, _, _, h, e => by
    cases h with
    | tup h1 h2 =>
      simp only [frzA, Option.map_eq_some_iff] at e
      obtain ⟨ys, e1, rfl⟩ := e
      exact .tup (fzT_cut h1) (reps_frz hR xs _ ys h2 e1)
  | .lst xs, _, _, h, e => by
    cases h with
    | lst h1 h2 =>
      simp only [frzA, Option.map_eq_some_iff] at e
      obtain ⟨ys, e1, rfl⟩ := e
      exact .lst (fzL_cut h1) (reps_frz hR xs _ ys h2 e1)
  | .obj k ks xs, _, _, h, e => by
    cases h with
    | obj h1 h2 h3 h4 =>
      simp only [frzA, Option.map_eq_some_iff] at e
      obtain ⟨ys, e1, rfl⟩ := e
      exact .obj (fun z => h1 (live_cut z)) h2 h3 (reps_frz hR xs _ ys h4 e1)
  | .ref m, _, _, h, e => by
    cases h with
    | ref h1 => exact hR m _ _ h1 (by simpa [frzA] using e)
  | .cls k, _, _, h, e => by cases h; simp [frzA] at e; subst e; exact .cls k
  | .fn f, _, _, h, e => by simp [frzA] at e
  | .dct _ _, _, _, h, _ => by cases h
  | .exo _ _ _, _, _, h, _ => by cases h
theorem reps_frz {n : Nat} {c : Cf} {R : Nat → Option AV} (hR : ∀ m p a', c.ρ[m]? = some p → R m = some a' → Rep W (cutC n c) (.ref p) a') : ∀ (as : List AV) (vs : List V) (as' : List AV), Reps W c vs as → frzAs R as = some as' → Reps W (cutC n c) vs as'
  | [], _, _, h, e => by cases h; simp [frzAs] at e; subst e; exact .nil
  | a :: as, _, _, h, e => by
    cases h with
    | cons h1 h2 =>
      simp only [frzAs] at e
      split at e
      · rename_i y ys e1 e2
        cases e
        exact .cons (rep_frz hR a _ y h1 e1) (reps_frz hR as _ ys h2 e2)
      · cases e
end
theorem not_live_cut {n m : Nat} {c : Cf} (s : Sim W c) {p : Addr} {o : AObj} (hp : c.ρ[m]? = some p) (ho : c.h[m]? = some o) (hd : o ≠ .dead) (hm : ¬ m < n) : ¬ Live (cutC n c) p := fun z => by
  rcases z with z | ⟨j, o', h1, h2, h3⟩
  · exact (s.bz p z).2 ⟨m, o, hp, ho, hd⟩
  · obtain ⟨l1, g1⟩ := take_get h1
    obtain ⟨_, g2⟩ := take_get h2
    have := s.inj j m p o' o g1 hp g2 ho h3 hd
    omega
theorem rep_frzR {n : Nat} {c : Cf} (s : Sim W c) : ∀ (k m : Nat) (p : Addr) (a' : AV), c.ρ[m]? = some p → frzR n c.h k m = some a' → Rep W (cutC n c) (.ref p) a'
  | 0, _, _, _, _, e => by simp [frzR] at e
  | k + 1, m, p, a', hp, e => by
    unfold frzR at e
    split at e
    · rename_i hm
      cases e
      refine .ref ?_
      show (c.ρ.take n)[m]? = _
      rw [List.getElem?_take, if_pos hm]; exact hp
    · rename_i hm
      split at e
      · rename_i xs ho
        simp only [Option.map_eq_some_iff] at e
        obtain ⟨ys, e1, rfl⟩ := e
        obtain ⟨vs, h1, h2⟩ := s.obj m _ p ho hp
        exact .lst (.inl ⟨not_live_cut s hp ho (by simp) hm, .inl h1⟩) (reps_frz (rep_frzR s k) xs vs ys h2 e1)
      · rename_i c' ks xs ho
        simp only [Option.map_eq_some_iff] at e
        obtain ⟨ys, e1, rfl⟩ := e
        obtain ⟨dx, fs, h1, h2, h3⟩ := s.obj m _ p ho hp
        exact .obj (not_live_cut s hp ho (by simp) hm) h1 h2 (reps_frz (rep_frzR s k) xs _ ys h3 e1)
      · cases e
theorem Sim.cut {c c' : Cf} (s : Sim W c) (s' : Sim W c') (x : Ext c c') (ok : OkOld c.h c'.h) : Sim W (cutC c.h.length c') where
  len := by
    show (c'.ρ.take _).length = (c'.h.take _).length
    rw [List.length_take, List.length_take, s'.len]
  inj := fun i j p o o' h1 h2 h3 h4 => s'.inj i j p o o' (take_get h1).2 (take_get h2).2 (take_get h3).2 (take_get h4).2
  obj := fun m o p h1 h2 => by
    obtain ⟨l1, g1⟩ := take_get h1
    obtain ⟨_, g2⟩ := take_get h2
    refine orep_cut (s'.obj m o p g1 g2) ?_
    rcases ok m o l1 g1 with z | z
    · have hl : m < c.ρ.length := by rw [s.len]; exact l1
      have := orep_refB (s.obj m o _ z (List.getElem?_eq_getElem hl))
      rw [← s.len]; exact this
    · exact z
  bz := fun p hp => ⟨(s'.bz p hp).1, fun z => (s'.bz p hp).2 (hlive_cut z)⟩
  tb := s'.tb
  tl := fun p hp => s'.tl p (live_cut hp)
theorem Ext.cut {c c' : Cf} (s : Sim W c) (x : Ext c c') : Ext c (cutC c.h.length c') where
  pre := fun m p h => by
    show (c'.ρ.take _)[m]? = _
    rw [List.getElem?_take, if_pos (by rw [← s.len]; exact (List.getElem?_eq_some_iff.mp h).1)]
    exact x.pre m p h
  keep := x.keep
  nl := fun p o h t n z => x.nl p o h t n (live_cut z)
  bx := x.bx
  busy := x.busy
/-- what is promised of the leaving is promised of the body -/
theorem End.exit {Wx : WX} {S : L2.St} {c : Cf} {Q : VK} (s : Sim W c) {o : Out AV} (h : End W Wx S c (Rep W) Q (exitO c.h o)) : End W Wx S c (Rep W) Q o := by
  cases o with
  | bad => exact h
  | ok v h' =>
    unfold exitO exitV at h
    simp only at h
    split at h
    · rename_i w h2 e
      split at e
      · cases e; exact h
      · split at e
        · rename_i ok
          simp only [Option.map_eq_some_iff, Prod.mk.injEq] at e
          obtain ⟨ws, e1, e2, e3⟩ := e
          subst e2 e3
          intro ρ' H' b s' x' r
          exact h _ _ b (Sim.cut s s' x' ok) (Ext.cut s x') (by
            have := reps_frz (rep_frzR s' (h'.length + 1)) [v] [b] [w] (.cons r .nil) e1
            cases this with
            | cons a _ => exact a)
        · cases e
    · exact h.elim
  | exc k ks vs h' =>
    unfold exitO exitV at h
    simp only at h
    split at h
    · rename_i ws h2 e
      split at e
      · cases e; exact h
      · split at e
        · rename_i ok
          simp only [Option.map_eq_some_iff, Prod.mk.injEq] at e
          obtain ⟨ws', e1, e2, e3⟩ := e
          subst e2 e3
          intro ρ' H' d fs s' x' nl hd hf r
          exact h _ _ d fs (Sim.cut s s' x' ok) (Ext.cut s x') (fun z => nl (live_cut z)) hd hf (reps_frz (rep_frzR s' (h'.length + 1)) vs _ _ r e1)
        · cases e
    · exact h.elim
end
end NT
set_option linter.all false
set_option maxRecDepth 100000
set_option autoImplicit false
namespace NT
open PySem PySem.Spec PyProof.Rows L2
structure CtxOk (W : Wd) (Wx : WX) (n : Nat) (X : Cx) : Prop where
  hP : X.prog = W.P
  hw : X.w = W.w
  hK : X.K = W.K
  hg : X.mg = W.mg
  hb : X.base = W.base
  calm : X.calm = true
  room : Room n X.A
  tk : Takes X Wx
  nd : X.N.Nodup
def LocR (W : Wd) (c : Cf) (S : L2.St) (σ : Loc) : Prop := S.length = σ.length ∧ ∀ (i : Nat) (a : AV), σ[i]? = some (some a) → ∃ v, S[i]? = some (some v) ∧ Rep W c v a
theorem LocR.to0 {W : Wd} {c c' : Cf} {S : L2.St} {σ : Loc} (l : LocR W c S σ) (x : Ex0 c c') : LocR W c' S σ := ⟨l.1, fun i a e => let ⟨v, h1, h2⟩ := l.2 i a e; ⟨v, h1, h2.to0 x⟩⟩
theorem LocR.to {W : Wd} {c c' : Cf} {S : L2.St} {σ : Loc} (l : LocR W c S σ) (x : Ext c c') : LocR W c' S σ := l.to0 x.toEx0
theorem LocR.set {W : Wd} {c : Cf} {S : L2.St} {σ : Loc} (l : LocR W c S σ) {v : V} {a : AV} (r : Rep W c v a) (i : Nat) : LocR W c (S.set i (some v)) (σ.set i (some a)) := by
  refine ⟨by rw [List.length_set, List.length_set]; exact l.1, fun j b e => ?_⟩
  by_cases hj : j = i
  · subst hj
    by_cases hl : j < σ.length
    · rw [List.getElem?_set_self hl] at e
      cases e
      exact ⟨v, List.getElem?_set_self (by rw [l.1]; exact hl), r⟩
    · rw [List.getElem?_eq_none (by rw [List.length_set]; omega)] at e
      cases e
  · rw [List.getElem?_set_ne (Ne.symm hj)] at e ⊢
    exact l.2 j b e
theorem LocR.wipe {W : Wd} {c : Cf} {S : L2.St} {σ : Loc} (l : LocR W c S σ) : ∀ vs : List Nat, LocR W c (L2.wipe S vs) (wipeL σ vs)
  | [] => l
  | v :: vs => by
    have ih := LocR.wipe l vs
    unfold L2.wipe wipeL
    refine ⟨by rw [List.length_set, List.length_set]; exact ih.1, fun j b e => ?_⟩
    by_cases hj : j = v
    · subst hj
      by_cases hl : j < (wipeL σ vs).length
      · rw [List.getElem?_set_self hl] at e; cases e
      · rw [List.getElem?_eq_none (by rw [List.length_set]; omega)] at e; cases e
    · rw [List.getElem?_set_ne (Ne.symm hj)] at e ⊢
      exact ih.2 j b e

section
variable (W : Wd) (Wx : WX) (X : Cx) (C : Orc)
def SndE (e : Expr) (ir : E) : Prop := ∀ (c : Cf) (S : L2.St) (σ : Loc) (Q : VK), Sim W c → LocR W c S σ → End W Wx S c (Rep W) Q (ev C σ ir c.h) → wE X e S c.H Q
def SndT (e : Expr) (ir : E) : Prop := ∀ (c : Cf) (S : L2.St) (σ : Loc) (Q : Bool → Hp → Prop), Sim W c → LocR W c S σ → End W Wx S c (fun _ (b k : Bool) => b = k) Q (evT C σ ir c.h) → wT X e S c.H Q
def SndA (es : List Expr) (ir : E) : Prop := ∀ (c : Cf) (S : L2.St) (σ : Loc) (Q : List V → Hp → Prop), Sim W c → LocR W c S σ → End W Wx S c (Reps W) Q (evs C σ ir c.h) → wA X es S c.H Q
def wI (tg iter : Expr) : TI := fun σ H R => ∀ (pins : List (Addr × Obj)) (s : Shared), Inv X pins σ H s → wpAny (model X.prog X.w) X.A (eval iter X.env) (fun v s1 => wpAny (model X.prog X.w) X.A (pyIter v) (PIE X pins σ tg R) X.xe s1) X.xe s
/-- an iterator that goes over xs -/
def WalkA (c : Cf) (J : It) (xs : List AV) : Prop := ∃ (G : Hp → Prop) (Y : Nat → Hp → V → Hp → Prop), Walk J xs.length G Y ∧ (∀ c', Ex0 c c' → G c'.H) ∧
  ∀ (i : Nat) (c' : Cf) (v : V) (H' : Hp) (a : AV), xs[i]? = some a → Sim W c' → Ex0 c c' → Y i c'.H v H' → Sim W { c' with H := H' } ∧ Ext c' { c' with H := H' } ∧ Rep W { c' with H := H' } v a
def SndI (tg iter : Expr) (ir : E) : Prop := ∀ (c : Cf) (S : L2.St) (σ : Loc) (R : It → Hp → Prop), Sim W c → LocR W c S σ → End W Wx S c (WalkA W) R (evI C σ ir c.h) → wI X tg iter S c.H R
end
theorem pi_w {X : Cx} {tg iter : Expr} : PI X tg iter (wI X tg iter) := ⟨fun pins s σ H R I h => h pins s I⟩
theorem wI_of {X : Cx} {tg iter : Expr} {t : TI} {σ : L2.St} {H : Hp} {R : It → Hp → Prop} (h : PI X tg iter t) (q : t σ H R) : wI X tg iter σ H R := fun pins s I => h.run pins s σ H R I q

theorem lget_some {σ : Loc} {i : Nat} {v : AV} (h : σ[i]?.getD none = some v) : σ[i]? = some (some v) := by
  cases q : σ[i]? with
  | none => rw [q] at h; cases h
  | some o => rw [q] at h; exact congrArg some h
section
variable {W : Wd} {Wx : WX} {X : Cx} {C : Orc} {n : Nat} {a b d : Expr} {ia ib id : E} {pos : Pos}
/-! ### names and constants -/
theorem snd_int {i : Int} {j : Nat} : SndE W Wx X C (.Constant (.int i) j pos) (.cst (.int i)) := fun c S σ Q sim _ e => wE_of pe_int (e.here sim (.int i))
theorem snd_bl {i : Bool} {j : Nat} : SndE W Wx X C (.Constant (.bool i) j pos) (.cst (.bl i)) := fun c S σ Q sim _ e => wE_of pe_bl (e.here sim (.bl i))
theorem snd_non {j : Nat} : SndE W Wx X C (.Constant .none j pos) (.cst .non) := fun c S σ Q sim _ e => wE_of pe_non (e.here sim .non)
theorem snd_str {i : Str} {j : Nat} : SndE W Wx X C (.Constant (.str i) j pos) (.cst (.str i)) := fun c S σ Q sim _ e => wE_of pe_str (e.here sim (.str i))
theorem snd_var {i : Nat} {x : Str} (hN : X.N[i]? = some x) (hv : Vis X.env.scope x) (hd : (x == ("__debug__" : Str)) = false) (hcd : (x == ("__classdict__" : Str)) = false) : SndE W Wx X C (.Name x pos) (.var i) := fun c S σ Q sim l e => by
  have e : End W Wx S c (Rep W) Q (lget σ i c.h) := e
  obtain ⟨v, q, e⟩ := End.of e
  obtain ⟨w, h1, h2⟩ := l.2 i v (lget_some q)
  exact wE_of (pe_var hN hv hd hcd) ⟨w, h1, e.here sim h2⟩
/-- a module's constant, a class -/
theorem snd_glob {x : Str} {v : V} {u : Value} {g : AV} (hg : Gl X x) (hm : X.mg x = some u) (r : RelV v u) (ra : ∀ c, Rep W c v g) (hd : (x == ("__debug__" : Str)) = false) : SndE W Wx X C (.Name x pos) (.cst g) :=
  fun c S σ Q sim _ e => wE_of (pe_glob hg hm r hd) (e.here sim (ra c))
theorem snd_bty {x : Str} {T : String} (hg : Gl X x) (hm : X.mg x = none) (hv : bootBuiltins x = some (.type T)) (hn : x ≠ "__name__") (hd : (x == ("__debug__" : Str)) = false) : SndE W Wx X C (.Name x pos) (.cst (.ty T)) :=
  fun c S σ Q sim _ e => wE_of (pe_bltn (v := .ty T) hg hm hv rfl hn hd) (e.here sim (.ty T))

/-! ### operators -/
theorem snd_bin (K : CtxOk W Wx n X) {op : Operator} (ha : SndE W Wx X C a ia) (hb : SndE W Wx X C b ib) : SndE W Wx X C (.BinOp a op b pos) (.bin op ia ib) := fun c S σ Q sim l e => by
  refine wE_of (pe_op (bin_snd K.hK op) pe_w pe_w) (ha c S σ _ sim l (End.bind e fun x c1 v _ s1 x1 r1 e1 => ?_))
  exact hb c1 S σ _ s1 (l.to x1) (End.bind e1 fun y c2 w _ s2 x2 r2 e2 => ⟨c2, x, y, Wx, S, rfl, s2, r1.to x2, r2, e2⟩)
theorem snd_neg (ha : SndE W Wx X C a ia) : SndE W Wx X C (.UnaryOp .USub a pos) (.neg ia) := fun c S σ Q sim l e =>
  wE_of (pe_un neg_snd pe_w) (ha c S σ _ sim l (End.bind e fun x c1 v _ s1 x1 r1 e1 => ⟨c1, x, Wx, S, rfl, s1, r1, e1⟩))
theorem asB_snd {S : L2.St} {c : Cf} {α β : Type} {R : Cf → β → α → Prop} {Q : β → Hp → Prop} {r : AV} {f : Bool → M α} {v : V} (e : End W Wx S c R Q (M.bind (asB r) f c.h)) (h : Rep W c v r) : ∃ k, v = .bl k ∧ r = .bl k ∧ End W Wx S c R Q (f k c.h) := by
  cases h <;> first | exact e.elim | exact ⟨_, rfl, rfl, e⟩
end
end NT
set_option linter.all false
set_option maxRecDepth 100000
set_option autoImplicit false
namespace NT
open PySem PySem.Spec PyProof.Rows L2
section
variable {W : Wd} {Wx : WX} {X : Cx} {C : Orc} {n : Nat} {a b d : Expr} {ia ib id : E} {pos : Pos} {rest es : List Expr}
/-! ### and, or, not, if -/
theorem snd_and (ha : SndE W Wx X C a ia) (hb : SndE W Wx X C (.BoolOp .And (b :: rest) pos) ib) : SndE W Wx X C (.BoolOp .And (a :: b :: rest) pos) (.and ia ib) := fun c S σ Q sim l e => by
  refine wE_of (pe_and pe_w pe_w) (ha c S σ _ sim l (End.bind e fun x c1 v _ s1 x1 r1 e1 => ?_))
  obtain ⟨k, hz, hr, e1⟩ := asB_snd e1 r1
  refine ⟨k, hz, ?_⟩
  cases k with
  | true => rw [if_pos rfl] at e1 ⊢; exact hb c1 S σ _ s1 (l.to x1) e1
  | false => rw [if_neg (by decide)] at e1 ⊢; exact e1.here s1 (.bl false)
theorem snd_or (ha : SndE W Wx X C a ia) (hb : SndE W Wx X C (.BoolOp .Or (b :: rest) pos) ib) : SndE W Wx X C (.BoolOp .Or (a :: b :: rest) pos) (.or ia ib) := fun c S σ Q sim l e => by
  refine wE_of (pe_or pe_w pe_w) (ha c S σ _ sim l (End.bind e fun x c1 v _ s1 x1 r1 e1 => ?_))
  obtain ⟨k, hz, hr, e1⟩ := asB_snd e1 r1
  refine ⟨k, hz, ?_⟩
  cases k with
  | true => rw [if_pos rfl] at e1 ⊢; exact e1.here s1 (.bl true)
  | false => rw [if_neg (by decide)] at e1 ⊢; exact hb c1 S σ _ s1 (l.to x1) e1
theorem snd_one {op : BoolOp} (ha : SndE W Wx X C a ia) : SndE W Wx X C (.BoolOp op [a] pos) ia := fun c S σ Q sim l e => wE_of (pe_one pe_w) (ha c S σ _ sim l e)
theorem pw_w {op : BoolOp} {vs : List Expr} : PW X (.BoolOp op vs pos) (wT X (.BoolOp op vs pos)) := ⟨fun _ pins s _ _ _ I h => h pins s I⟩
theorem sndT_and (ha : SndT W Wx X C a ia) (hb : SndT W Wx X C (.BoolOp .And (b :: rest) pos) ib) : SndT W Wx X C (.BoolOp .And (a :: b :: rest) pos) (.and ia ib) := fun c S σ Q sim l e => by
  refine wT_of (pw_and pt_w pw_w).pt (ha c S σ _ sim l (End.bind e fun x c1 v _ s1 x1 r1 e1 => ?_))
  subst r1
  cases v with
  | true => rw [if_pos rfl] at e1 ⊢; exact hb c1 S σ _ s1 (l.to x1) e1
  | false => rw [if_neg (by decide)] at e1 ⊢; exact e1.here s1 rfl
theorem sndT_or (ha : SndT W Wx X C a ia) (hb : SndT W Wx X C (.BoolOp .Or (b :: rest) pos) ib) : SndT W Wx X C (.BoolOp .Or (a :: b :: rest) pos) (.or ia ib) := fun c S σ Q sim l e => by
  refine wT_of (pw_or pt_w pw_w).pt (ha c S σ _ sim l (End.bind e fun x c1 v _ s1 x1 r1 e1 => ?_))
  subst r1
  cases v with
  | true => rw [if_pos rfl] at e1 ⊢; exact e1.here s1 rfl
  | false => rw [if_neg (by decide)] at e1 ⊢; exact hb c1 S σ _ s1 (l.to x1) e1
theorem sndT_oneA (ha : SndT W Wx X C a ia) : SndT W Wx X C (.BoolOp .And [a] pos) ia := fun c S σ Q sim l e => wT_of (pw_and1 pt_w).pt (ha c S σ _ sim l e)
theorem sndT_oneO (ha : SndT W Wx X C a ia) : SndT W Wx X C (.BoolOp .Or [a] pos) ia := fun c S σ Q sim l e => wT_of (pw_or1 pt_w).pt (ha c S σ _ sim l e)
theorem sndT_not (ha : SndT W Wx X C a ia) : SndT W Wx X C (.UnaryOp .Not a pos) (.not ia) := fun c S σ Q sim l e => by
  refine wT_of (pt_not pt_w) (ha c S σ _ sim l (End.bind e fun x c1 v _ s1 x1 r1 e1 => ?_))
  subst r1
  exact e1.here s1 rfl
/-- a test by its value's truth -/
theorem sndT_tv (K : CtxOk W Wx n X) (ha : SndE W Wx X C a ia) (he : ∀ whole, isTrue a X.env whole = (do let v ← whole; standAt a.pos; holding [v] (truthy v))) : SndT W Wx X C a (.tv ia) := fun c S σ Q sim l e => by
  intro pins s I
  refine isTrue_plain (thn (ha c S σ (fun x H => ∃ (c : Cf) (y : AV) (Wx : WX) (S : L2.St), c.H = H ∧ Sim W c ∧ Rep W c x y ∧ End W Wx S c (fun _ (b k : Bool) => b = k) Q (truV y c.h)) sim l (End.bind e fun x c1 v _ s1 x1 r1 e1 => ⟨c1, x, Wx, S, rfl, s1, r1, e1⟩) pins s I) fun v s1 ⟨x, H1, I1, r1, q1⟩ => ?_) (he _)
  exact tru_snd K.hK pins s1 S H1 x v Q I1 r1 q1
/-- not x as a value, x a bool -/
theorem snd_not (ha : SndE W Wx X C a ia) : SndE W Wx X C (.UnaryOp .Not a pos) (.notv ia) := fun c S σ Q sim l e => by
  refine wE_of (pe_not pe_w) (ha c S σ _ sim l (End.bind e fun x c1 v _ s1 x1 r1 e1 => ?_))
  obtain ⟨k, hz, hr, e1⟩ := asB_snd e1 r1
  exact ⟨k, hz, e1.here s1 (.bl _)⟩
theorem snd_ifx {t : Expr} {it : E} (ht : SndT W Wx X C t it) (ha : SndE W Wx X C a ia) (hb : SndE W Wx X C b ib) : SndE W Wx X C (.IfExp t a b pos) (.ifx it ia ib) := fun c S σ Q sim l e => by
  refine wE_of (pe_ifExp pt_w pe_w pe_w) (ht c S σ _ sim l (End.bind e fun x c1 v _ s1 x1 r1 e1 => ?_))
  subst r1
  cases v with
  | true => rw [if_pos rfl] at e1 ⊢; exact ha c1 S σ _ s1 (l.to x1) e1
  | false => rw [if_neg (by decide)] at e1 ⊢; exact hb c1 S σ _ s1 (l.to x1) e1

/-! ### argument lists, displays -/
theorem sndA_nil : SndA W Wx X C [] .nil := fun c S σ Q sim l e => wA_of pa_nil (e.here sim .nil)
theorem sndA_cons (ha : SndE W Wx X C a ia) (hr : SndA W Wx X C es ib) (hs : starEach (a :: es) X.env = (false, eval a X.env) :: starEach es X.env) : SndA W Wx X C (a :: es) (.cons ia ib) := fun c S σ Q sim l e => by
  refine wA_of (pa_cons pe_w pa_w hs) (ha c S σ _ sim l (End.bind e fun x c1 v _ s1 x1 r1 e1 => ?_))
  exact hr c1 S σ _ s1 (l.to x1) (End.bind e1 fun xs c2 vs _ s2 x2 r2 e2 => e2.here s2 (.cons (r1.to x2) r2))
theorem sndA_star (K : CtxOk W Wx n X) {p : Pos} (ha : SndE W Wx X C a ia) (hr : SndA W Wx X C es ib) : SndA W Wx X C (.Starred a p :: es) (.star ia ib) := fun c S σ Q sim l e => by
  refine wA_of (StX.pa_star pe_w pa_w) (ha c S σ _ sim l (End.bind e fun x c1 v _ s1 x1 r1 e1 => ?_))
  cases r1 <;> try exact e1.elim
  · rename_i h1 r1 _
    exact ⟨_, _, rfl, .inl (by rw [K.hK]; exact h1.sq), hr c1 S σ _ s1 (l.to x1) (End.bind e1 fun xs c2 vs _ s2 x2 r2 e2 => e2.here s2 ((r1.to x2).append r2))⟩
  · rename_i h1 r1 _
    exact ⟨_, _, rfl, .inr (by rw [K.hK]; exact h1.sq), hr c1 S σ _ s1 (l.to x1) (End.bind e1 fun xs c2 vs _ s2 x2 r2 e2 => e2.here s2 ((r1.to x2).append r2))⟩
theorem snd_tup {k : Nat} (ha : SndA W Wx X C es ia) : SndE W Wx X C (.Tuple es k pos) (.tup ia) := fun c S σ Q sim l e => by
  refine wE_of (pe_tup pa_w) (ha c S σ _ sim l (End.bind e fun xs c1 vs _ s1 x1 r1 e1 => ?_))
  obtain ⟨g, e1⟩ := e1.ok1
  exact ⟨by rw [r1.length, line_eq]; exact of_decide_eq_true g, fun p hp => e1.new s1 hp (Rep.newTup s1 hp r1)⟩
theorem snd_lst (ha : SndA W Wx X C es ia) : SndE W Wx X C (.List es pos) (.lst ia) := fun c S σ Q sim l e => by
  refine wE_of (pe_lst pa_w) (ha c S σ _ sim l (End.bind e fun xs c1 vs _ s1 x1 r1 e1 => ?_))
  obtain ⟨g, e1⟩ := e1.ok1
  exact ⟨by rw [r1.length, line_eq]; exact of_decide_eq_true g, fun p hp => e1.new s1 hp (Rep.newLst s1 hp r1)⟩
/-- a new place of the abstract heap -/
theorem app_get {α : Type} {l : List α} {x y : α} {m : Nat} (h : (l ++ [x])[m]? = some y) : l[m]? = some y ∨ (m = l.length ∧ y = x) := by
  by_cases hm : m < l.length
  · rw [List.getElem?_append_left hm] at h; exact .inl h
  · by_cases hm2 : m = l.length
    · subst hm2
      rw [List.getElem?_append_right (Nat.le_refl _), Nat.sub_self] at h
      exact .inr ⟨rfl, by simpa using h.symm⟩
    · rw [List.getElem?_eq_none (by simp; omega)] at h; cases h
theorem Ext.alloc {c : Cf} (s : Sim W c) {p : Addr} {o : AObj} {ho : HO} (hp : c.H p = none) : Ext c ⟨c.ρ ++ [p], c.h ++ [o], upd c.H p ho, c.x⟩ where
  pre := fun k q h => by
    show (c.ρ ++ [p])[k]? = some q
    rw [List.getElem?_append_left (List.getElem?_eq_some_iff.mp h).1]; exact h
  keep := fun q u h _ _ => by
    show upd c.H p ho q = some u
    rw [upd_ne (ne_of_none h hp)]; exact h
  nl := fun q u0 hq _ nl l => by
    rcases l with l | ⟨m, u, h1, h2, h3⟩
    · exact nl (.inl l)
    · have h1 : (c.ρ ++ [p])[m]? = some q := h1
      have h2 : (c.h ++ [o])[m]? = some u := h2
      rcases app_get h1 with h1 | ⟨_, e⟩
      · rcases app_get h2 with h2 | ⟨e, _⟩
        · exact nl (.inr ⟨m, u, h1, h2, h3⟩)
        · rw [e, ← s.len, List.getElem?_eq_none (Nat.le_refl _)] at h1; cases h1
      · rw [e, hp] at hq; cases hq
  bx := rfl
  busy := fun q hq => upd_ne fun z => (s.bz q hq).1 (by rw [z]; exact hp)
theorem Sim.alloc {c : Cf} (s : Sim W c) {p : Addr} {o : AObj} {ho : HO} (hp : c.H p = none) (new : ORep W ⟨c.ρ ++ [p], c.h ++ [o], upd c.H p ho, c.x⟩ p o) (hnt : NoTab ho) : Sim W ⟨c.ρ ++ [p], c.h ++ [o], upd c.H p ho, c.x⟩ := by
  have both : ∀ (m : Nat) (q : Addr) (u : AObj), (c.ρ ++ [p])[m]? = some q → (c.h ++ [o])[m]? = some u → (c.ρ[m]? = some q ∧ c.h[m]? = some u) ∨ (m = c.ρ.length ∧ q = p ∧ u = o) := fun m q u h1 h2 => by
    rcases app_get h1 with h1 | ⟨e1, e2⟩
    · rcases app_get h2 with h2 | ⟨e, _⟩
      · exact .inl ⟨h1, h2⟩
      · rw [e, ← s.len, List.getElem?_eq_none (Nat.le_refl _)] at h1; cases h1
    · rcases app_get h2 with h2 | ⟨_, e⟩
      · rw [e1, s.len, List.getElem?_eq_none (Nat.le_refl _)] at h2; cases h2
      · exact .inr ⟨e1, e2, e⟩
  have old : ∀ (m : Nat) (q : Addr) (u : AObj), c.ρ[m]? = some q → c.h[m]? = some u → u ≠ .dead → q ≠ p := fun m q u h1 h2 h3 z => s.htracked ⟨m, u, h1, h2, h3⟩ (by rw [z]; exact hp)
  refine ⟨?_, fun i j q u u' h1 h2 h3 h4 h5 h6 => ?_, fun m u q h1 h2 => ?_, fun q hq => ⟨?_, fun ⟨m, u, h1, h2, h3⟩ => ?_⟩, ?tbb, ?tll⟩
  case tbb =>
    refine tabs_keep s.tb fun b u h _ => ?_
    show upd c.H p ho b = _
    rw [upd_ne (ne_of_none h hp)]; exact h
  case tll =>
    intro q hq u hu
    have hu : upd c.H p ho q = some u := hu
    by_cases z : q = p
    · rw [z, upd_same] at hu; cases hu; exact hnt
    · rw [upd_ne z] at hu
      refine s.tl q ?_ u hu
      rcases hq with l | ⟨m, w, h1, h2, h3⟩
      · exact .inl l
      · rcases both m q w h1 h2 with ⟨a1, a2⟩ | ⟨_, a2, _⟩
        · exact .inr ⟨m, w, a1, a2, h3⟩
        · exact absurd a2 z
  · show (c.ρ ++ [p]).length = (c.h ++ [o]).length
    rw [List.length_append, List.length_append, s.len]; rfl
  · rcases both i q u h1 h3 with ⟨a1, a2⟩ | ⟨a1, a2, a3⟩
    · rcases both j q u' h2 h4 with ⟨b1, b2⟩ | ⟨b1, b2, b3⟩
      · exact s.inj i j q u u' a1 b1 a2 b2 h5 h6
      · exact absurd b2 (old i q u a1 a2 h5)
    · rcases both j q u' h2 h4 with ⟨b1, b2⟩ | ⟨b1, b2, b3⟩
      · exact absurd a2 (old j q u' b1 b2 h6)
      · rw [a1, b1]
  · rcases both m q u h2 h1 with ⟨a1, a2⟩ | ⟨a1, a2, a3⟩
    · by_cases hd : u = .dead
      · subst hd; trivial
      · exact (s.obj m u q a2 a1).ext (Ext.alloc s hp).toEx0 (upd_ne (old m q u a1 a2 hd))
    · subst a2 a3; exact new
  · show upd c.H p ho q ≠ none
    rw [upd_ne fun z => (s.bz q hq).1 (by rw [z]; exact hp)]; exact (s.bz q hq).1
  · rcases both m q u h1 h2 with ⟨a1, a2⟩ | ⟨a1, a2, a3⟩
    · exact (s.bz q hq).2 ⟨m, u, a1, a2, h3⟩
    · exact (s.bz q hq).1 (by rw [a2]; exact hp)
theorem snd_mlst (ha : SndA W Wx X C es ia) : SndE W Wx X C (.List es pos) (.mlst ia) := fun c S σ Q sim l e => by
  refine wE_of (pe_lst pa_w) (ha c S σ _ sim l (End.bind e fun xs c1 vs _ s1 x1 r1 e1 => ?_))
  by_cases hl : xs.length ≤ line
  · rw [if_pos hl] at e1
    refine ⟨by rw [r1.length, line_eq]; exact hl, fun p hp => ?_⟩
    have x2 : Ext c1 ⟨c1.ρ ++ [p], c1.h ++ [.lst xs], upd c1.H p (.lst vs), c1.x⟩ := Ext.alloc s1 hp
    refine e1 (c1.ρ ++ [p]) _ _ (s1.alloc (ho := .lst vs) (o := .lst xs) hp ⟨vs, upd_same, r1.to x2⟩ noTab_lst) x2 (.ref ?_)
    show (c1.ρ ++ [p])[c1.h.length]? = some p
    rw [← s1.len, List.getElem?_append_right (Nat.le_refl _), Nat.sub_self]; rfl
  · rw [if_neg hl] at e1; exact e1.elim

/-! ### subscripts, slices -/
theorem snd_sub (K : CtxOk W Wx n X) (ha : SndE W Wx X C a ia) (hb : SndE W Wx X C b ib) (hs : PlainIx b) : SndE W Wx X C (.Subscript a b pos) (.sub ia ib) := fun c S σ Q sim l e => by
  refine wE_of (pe_ix (sub_snd K.hK) pe_w pe_w hs) (ha c S σ _ sim l (End.bind e fun x c1 v _ s1 x1 r1 e1 => ?_))
  exact hb c1 S σ _ s1 (l.to x1) (End.bind e1 fun y c2 w _ s2 x2 r2 e2 => ⟨c2, x, y, Wx, S, rfl, s2, r1.to x2, r2, e2⟩)
theorem asI_snd {S : L2.St} {c : Cf} {α β : Type} {R : Cf → β → α → Prop} {Q : β → Hp → Prop} {r : AV} {f : Int → M α} {v : V} (e : End W Wx S c R Q (M.bind (asI r) f c.h)) (h : Rep W c v r) : ∃ k, v = .int k ∧ r = .int k ∧ End W Wx S c R Q (f k c.h) := by
  cases h <;> first | exact e.elim | exact ⟨_, rfl, rfl, e⟩
theorem snd_slc (K : CtxOk W Wx n X) {p : Pos} (ha : SndE W Wx X C a ia) (hb : SndE W Wx X C b ib) (hd : SndE W Wx X C d id) : SndE W Wx X C (.Subscript a (.Slice (some b) (some d) none p) pos) (.slc ia ib id) := fun c S σ Q sim l e => by
  refine wE_of (pe_slice (slc_snd K.hK) pe_w (po_some pe_w) (po_some pe_w)) (ha c S σ _ sim l (End.bind e fun x c1 v _ s1 x1 r1 e1 => ?_))
  refine hb c1 S σ _ s1 (l.to x1) (End.bind e1 fun y c2 w _ s2 x2 r2 e2 => ?_)
  obtain ⟨i, hw, _, e2⟩ := asI_snd e2 r2
  refine ⟨i, hw, hd c2 S σ _ s2 (l.to (x1.trans x2)) (End.bind e2 fun z c3 u _ s3 x3 r3 e3 => ?_)⟩
  obtain ⟨j, hu, _, e3⟩ := asI_snd e3 r3
  exact ⟨j, hu, c3, x, Wx, S, rfl, s3, r1.to (x2.trans x3), e3⟩
theorem snd_slcL (K : CtxOk W Wx n X) {p : Pos} (ha : SndE W Wx X C a ia) (hb : SndE W Wx X C b ib) : SndE W Wx X C (.Subscript a (.Slice (some b) none none p) pos) (.slcL ia ib) := fun c S σ Q sim l e => by
  refine wE_of (pe_slice (slc_snd K.hK) pe_w (po_some pe_w) po_none) (ha c S σ _ sim l (End.bind e fun x c1 v _ s1 x1 r1 e1 => ?_))
  refine hb c1 S σ _ s1 (l.to x1) (End.bind e1 fun y c2 w _ s2 x2 r2 e2 => ?_)
  obtain ⟨i, hw, _, e2⟩ := asI_snd e2 r2
  exact ⟨i, hw, c2, x, Wx, S, rfl, s2, r1.to x2, e2⟩
theorem snd_slcH (K : CtxOk W Wx n X) {p : Pos} (ha : SndE W Wx X C a ia) (hb : SndE W Wx X C b ib) : SndE W Wx X C (.Subscript a (.Slice none (some b) none p) pos) (.slcH ia ib) := fun c S σ Q sim l e => by
  refine wE_of (pe_slice (slc_snd K.hK) pe_w po_none (po_some pe_w)) (ha c S σ _ sim l (End.bind e fun x c1 v _ s1 x1 r1 e1 => ?_))
  refine hb c1 S σ _ s1 (l.to x1) (End.bind e1 fun y c2 w _ s2 x2 r2 e2 => ?_)
  obtain ⟨i, hw, _, e2⟩ := asI_snd e2 r2
  exact ⟨i, hw, c2, x, Wx, S, rfl, s2, r1.to x2, e2⟩

/-! ### built-ins -/
theorem notStar_any {p : Pos} (h : ∀ e ∈ es, ∀ x q, e ≠ .Starred x q) : (backTo p (starEach es X.env)).any (·.1) = false := by
  induction es with
  | nil => rfl
  | cons e es ih =>
    have h1 := h e List.mem_cons_self
    have h2 := ih fun e' he => h e' (List.mem_cons_of_mem _ he)
    have hs : starEach (e :: es) X.env = (false, eval e X.env) :: starEach es X.env := by
      cases e <;> first | rfl | exact absurd rfl (h1 _ _)
    rw [hs]
    unfold backTo at h2 ⊢
    rw [List.map_cons, List.any_cons, h2]
    rfl
theorem reps_rep {c : Cf} {vs : List V} {xs : List AV} (r : Reps W c vs xs) : ∀ k : Nat, Reps W c (List.replicate k vs).flatten (List.replicate k xs).flatten
  | 0 => .nil
  | k + 1 => by
    rw [List.replicate_succ, List.replicate_succ, List.flatten_cons, List.flatten_cons]
    exact r.append (reps_rep r k)
theorem snd_bm (K : CtxOk W Wx n X) (m : BM) (hm : bmOk m = true) {apos : Pos} (ho : SndE W Wx X C a ia) (he : SndA W Wx X C (b :: es) ib) (hs : ∀ e ∈ b :: es, ∀ x q, e ≠ .Starred x q) (hl : es.length < 29)
    (hbase : attributeBase a (bmN m) X.env (eval a X.env) = eval a X.env) (hline : (apos.endLine == pos.line) = true) : SndE W Wx X C (.Call (.Attribute a (bmN m) apos) (b :: es) [] pos) (.bm m ia ib) := fun c S σ Q sim l e => by
  obtain ⟨F⟩ := bm_facts (W := W) (X := X) K.hK m hm
  have h1 : starEach (b :: es) X.env = (false, eval b X.env) :: starEach es X.env := by
    have h1 := hs b List.mem_cons_self
    cases b <;> first | rfl | exact absurd rfl (h1 _ _)
  have h2 : (backTo pos (starEach es X.env)).any (·.1) = false := notStar_any fun e he => hs e (List.mem_cons_of_mem _ he)
  have h3 : ((backTo pos (starEach (b :: es) X.env)).all (fun x => !x.1) && (backToKw pos (keywordEach [] X.env)).all (fun x => x.1.isSome) && decide ((b :: es).length + ([] : List Keyword).length + (if ([] : List Keyword).isEmpty then 0 else 1) < 30)) = true := by
    have z : (backTo pos (starEach (b :: es) X.env)).any (·.1) = false := notStar_any hs
    have z2 : (backTo pos (starEach (b :: es) X.env)).all (fun x => !x.1) = true := by
      rw [← List.not_any_eq_all_not, z]; rfl
    rw [z2]
    simp [backToKw, keywordEach]
    omega
  refine wE_of (pe_bm F.pa F.slot F.ty F.mt pe_w pa_w hbase h3 hline h1 h2) (ho c S σ _ sim l (End.bind e fun x c1 v _ s1 x1 r1 e1 => ?_))
  cases hg : bmTy c1.h m x with
  | false => simp only [M.bind, bmG, hg] at e1; exact e1.elim
  | true =>
    have e1 : End W Wx S c1 (Rep W) Q (M.bind (evs C σ ib) (fun xs => bmV m x xs) c1.h) := by simpa only [M.bind, bmG, hg, if_true] using e1
    exact ⟨F.own c1 v x s1 r1 hg, he c1 S σ _ s1 (l.to x1) (End.bind (m := evs C σ ib) e1 fun xs c2 vs _ s2 x2 r2 e2 => ⟨c2, x, xs, Wx, S, rfl, s2, r1.to x2, r2, e2⟩)⟩
/-- x.m() -/
theorem snd_bm0 (K : CtxOk W Wx n X) (m : BM) (hm : bmOk m = true) {apos : Pos} (ho : SndE W Wx X C a ia)
    (hbase : attributeBase a (bmN m) X.env (eval a X.env) = eval a X.env) (hline : (apos.endLine == pos.line) = true) : SndE W Wx X C (.Call (.Attribute a (bmN m) apos) [] [] pos) (.bm m ia .nil) := fun c S σ Q sim l e => by
  obtain ⟨F⟩ := bm_facts (W := W) (X := X) K.hK m hm
  refine wE_of (pe_bm0 F.pa F.slot F.ty F.mt pe_w hbase hline) (ho c S σ _ sim l (End.bind e fun x c1 v _ s1 x1 r1 e1 => ?_))
  cases hg : bmTy c1.h m x with
  | false => simp only [M.bind, bmG, hg] at e1; exact e1.elim
  | true =>
    have e1 : End W Wx S c1 (Rep W) Q (bmV m x [] c1.h) := by
      simp only [M.bind, bmG, hg, if_true] at e1
      exact e1
    exact ⟨F.own c1 v x s1 r1 hg, c1, x, [], Wx, S, rfl, s1, r1, .nil, e1⟩
/-- [..] * n -/
theorem snd_lrep {lp : Pos} (ha : SndA W Wx X C es ia) (hb : SndE W Wx X C b ib) : SndE W Wx X C (.BinOp (.List es lp) .Mult b pos) (.lrep ia ib) := fun c S σ Q sim l e => by
  refine wE_of (pe_op op_rep (pe_lst pa_w) pe_w) (ha c S σ _ sim l (End.bind e fun xs c1 vs _ s1 x1 r1 e1 => ?_))
  by_cases hl : xs.length ≤ line
  · rw [if_pos hl] at e1
    refine ⟨by rw [r1.length, line_eq]; exact hl, fun p hp => ?_⟩
    have s2 := s1.new (o := .lst vs) hp
    have x2 : Ext c1 { c1 with H := upd c1.H p (.lst vs) } := Ext.new s1 hp
    have nl : ¬ Live { c1 with H := upd c1.H p (.lst vs) } p := s1.fresh hp
    have e1 : End W Wx S { c1 with H := upd c1.H p (.lst vs) } (Rep W) Q (M.bind (ev C σ ib) (fun y => M.bind (asI y) fun k => ok1 (repOk xs.length k) (AV.lst (List.replicate k.toNat xs).flatten)) c1.h) := End.after x2 e1
    refine hb { c1 with H := upd c1.H p (.lst vs) } S σ _ s2 (l.to (x1.trans x2)) (End.bind e1 fun y c3 w _ s3 x3 r3 e3 => ?_)
    obtain ⟨k, hw, _, e3⟩ := asI_snd e3 r3
    obtain ⟨g, e3⟩ := e3.ok1
    unfold repOk at g
    simp only [Bool.and_eq_true, decide_eq_true_eq] at g
    obtain ⟨⟨g1, g2⟩, g3⟩ := g
    have kp : c3.H p = some (.lst vs) := x3.keep p _ upd_same nl (fun _ z => by cases z)
    have rr : Reps W c3 vs xs := (r1.to x2).to x3
    refine ⟨p, k, vs, rfl, hw, kp, g1, g2, by rw [rr.length, line_eq]; exact g3, fun q hq => e3.new s3 hq (Rep.newLst s3 hq (reps_rep rr k.toNat))⟩
  · rw [if_neg hl] at e1; exact e1.elim
end
end NT
set_option linter.all false
set_option maxRecDepth 100000
set_option autoImplicit false
namespace NT
open PySem PySem.Spec PyProof.Rows L2
/-! ### calls of the text's own defs, by values -/
def spI (W : Wd) (C : Orc) (f : Nat) : Sp := fun vs H Q E => ∃ (c : Cf) (args : List AV), c.H = H ∧ Sim W c ∧ Reps W c vs args ∧ End W (fun cls d _ H => E cls d H) [] c (Rep W) Q (C.call f args c.h)
def AkOk (W : Wd) (f c : Nat) : AK → Prop
  | .fld => NoAttr W.K (W.clsA c) (W.nm f)
  | .prop g => ∃ p, PropOf W.K (W.clsA c) (W.nm f) p (W.fnA g)
  | .con v => ∃ vv u, Con W.K (W.clsA c) (W.nm f) vv u ∧ ∀ cf, Rep W cf vv v
def tyL : List String := ["NoneType", "bool", "int", "str", "tuple", "list"]
def ty5 : List String := ["int", "bool", "str", "list", "tuple"]
/-- what isinstance and == ask of a class -/
structure ClsK (W : Wd) (ct : CT) (c : Nat) (l : List Nat) : Prop where
  cl : Cls W.K (W.clsA c)
  ha : PySem.W.findIn W.K (.ref (W.clsA c)) "__class__" = some (some (.builtin "object.__class__"))
  hn : PySem.W.specialIn W.K (.builtin "object.__class__") "__get__" = some (some (.builtin "getset_descriptor.__get__"))
  htk : PySem.W.takesIn W.K (.builtin "object.__class__") = some true
  hm : PySem.W.mroIn W.K (W.clsA c) (.type "object") = some true
  own : ∀ c' l', ct.sub.lookup c' = some l' → PySem.W.kitOne W.K (.ref (W.clsA c)) (.ref (W.clsA c')) = some (l.contains c') ∧ PySem.W.subIn W.K (.ref (W.clsA c)) (.ref (W.clsA c')) = some (l.contains c')
  bin : ∀ T ∈ ty5, PySem.W.kitOne W.K (.ref (W.clsA c)) (.type T) = some false
  of : ∀ T ∈ tyL, PySem.W.kitOne W.K (.type T) (.ref (W.clsA c)) = some false ∧ PySem.W.subIn W.K (.type T) (.ref (W.clsA c)) = some false
/-- the classes' tables are true -/
structure CTOk (W : Wd) (ct : CT) : Prop where
  inj : ∀ i j, W.nm i = W.nm j → i = j
  attr : ∀ f c k, ct.attrOf f c = some k → Cls W.K (W.clsA c) ∧ AkOk W f c k
  meth : ∀ m c g, ct.methOf m c = some g → Cls W.K (W.clsA c) ∧ Meth W.K (W.clsA c) (W.nm m) (W.fnA g)
  init : ∀ c g, ct.init.lookup c = some g → Mk W.K (W.clsA c) (W.fnA g)
  sub : ∀ c l, ct.sub.lookup c = some l → ClsK W ct c l
  nkm : ∀ m c g, ct.methOf m c = some g → ct.ko.contains g = false
  nkp : ∀ f c g, ct.attrOf f c = some (.prop g) → ct.ko.contains g = false
  nms : W.nm nEq = "__eq__" ∧ W.nm nLen = "__len__" ∧ W.nm nBool = "__bool__" ∧ W.nm nRepr = "__repr__" ∧ W.nm nIn = "__contains__"
/-- values put in the parameters' order, defaults among them -/
inductive ArrV (W : Wd) (vs : List V) : List AI → List V → Prop
  | nil : ArrV W vs [] []
  | pl {i : Nat} {v : V} {r : List AI} {ws : List V} : vs[i]? = some v → ArrV W vs r ws → ArrV W vs (.pl i :: r) (v :: ws)
  | dv {j : Nat} {a : AV} {v : V} {r : List AI} {ws : List V} : (∀ c, Rep W c v a) → ArrV W vs r ws → ArrV W vs (.dv j a :: r) (v :: ws)
/-- a promise for a form of call -/
def FnK (W : Wd) (k : Nat) (f : Addr) (sp : Sp) (pat : Pat) : Prop :=
  ∀ (A : Around) (outer : List Env) (s : Shared) (H : Hp) (us zs : List Value) (vs ws : List V) (Q : VK) (E : XK), us.length = pat.np → zs.length = pat.ks.length → Room k A → Env0 W.P W.w W.K W.mg W.base A outer s H → Vals vs us → Vals ws zs →
    (∀ ys, ArrV W (vs ++ ws) pat.ix ys → sp ys H Q E) → codeAny (model W.P W.w) A (.call (.ref f) ⟨us, pat.ks.zip zs⟩) (CR (L2.CX W.P W.w) outer W.P W.w H s Q E) s
structure COk (W : Wd) (n : Nat) (C : Orc) : Prop where
  fn : ∀ f, C.ct.ko.contains f = false → FnR W.P W.w W.K W.mg W.base (L2.CX W.P W.w) n (W.fnA f) (spI W C f)
  ct : CTOk W C.ct
  kw : ∀ f pat, (f, pat) ∈ C.ct.pats → FnK W n (W.fnA f) (spI W C f) pat
  wh : C.whl = NT.whl
  ex : C.ex = exitO
section
variable {W : Wd} {Wx : WX} {X : Cx} {C : Orc} {n m : Nat}
/-- the callee runs, what it raises is wished for at the caller's slots -/
theorem run_call (K : CtxOk W Wx m X) (O : COk W n C) (hn : n ≤ m) {f : Nat} (hko : C.ct.ko.contains f = false) {pins : List (Addr × Obj)} {S : L2.St} {c : Cf} {s : Shared} {vs : List V} {us : List Value} {xs : List AV} {Q : VK} (I : Inv X pins S c.H s) (sim : Sim W c) (r : Reps W c vs xs) (ru : Vals vs us)
    (e : End W Wx S c (Rep W) Q (C.call f xs c.h)) : codeAny (model X.prog X.w) X.A (.call (.ref (W.fnA f)) ⟨us, []⟩) (fun r s' => match r with | .ok (.ret v) => EP X pins S Q v s' | .ok _ => False | .error e => X.xe e s') s := by
  have F : FnR X.prog X.w X.K X.mg X.base (L2.CX X.prog X.w) n (W.fnA f) (spI W C f) := by rw [K.hP, K.hw, K.hK, K.hg, K.hb]; exact O.fn f hko
  have sp : spI W C f vs c.H Q (fun cls d H' => Wx cls d S H') := by
    refine ⟨c, xs, rfl, sim, r, ?_⟩
    cases q : C.call f xs c.h with
    | ok a h' => rw [q] at e; exact e
    | exc k ks ys h' => rw [q] at e; exact e
    | bad => rw [q] at e; exact e
  refine codeAny_mono (F X.A X.stack s c.H us vs Q _ (K.room.mono hn) I.env0 ru sp) fun r s' hq => ?_
  cases r with
  | error e => exact K.tk e s' (XE.of_call I (fun cls d H' h => h) hq)
  | ok fl =>
    cases fl with
    | ret u => exact I.after hq
    | next => exact False.elim hq
    | brk => exact False.elim hq
    | cont => exact False.elim hq
/-! ### instances -/
theorem ins_rep {c : Cf} (sim : Sim W c) {v : V} {x : AV} {k : Nat} {ks : List Nat} {xs : List AV} (r : Rep W c v x) (h : insOf c.h x = some (k, ks, xs)) : ∃ p dx fs, v = .ref p ∧ c.H p = some (.ins (W.clsA k) dx fs) ∧ fs.map (·.1) = ks.map W.nm ∧ Reps W c (fs.map (·.2)) xs := by
  cases r with
  | obj h1 h2 h3 h4 =>
    simp only [insOf, Option.some.injEq, Prod.mk.injEq] at h
    obtain ⟨rfl, rfl, rfl⟩ := h
    exact ⟨_, _, _, rfl, h2, h3, h4⟩
  | ref h1 =>
    rename_i p n
    simp only [insOf] at h
    split at h
    · rename_i k' ks' xs' ho
      cases h
      obtain ⟨dx, fs, e1, e2, e3⟩ := sim.obj n _ p ho h1
      exact ⟨p, dx, fs, rfl, e1, e2, e3⟩
    · cases h
  | _ => simp [insOf] at h
theorem look_nm {c : Cf} (inj : ∀ i j, W.nm i = W.nm j → i = j) {f : Nat} {a : AV} : ∀ {fs : List (Str × V)} {ks : List Nat} {xs : List AV}, fs.map (·.1) = ks.map W.nm → Reps W c (fs.map (·.2)) xs → (ks.zip xs).lookup f = some a → ∃ v, fs.lookup (W.nm f) = some v ∧ Rep W c v a
  | [], ks, _, e, r, h => by
    cases ks with
    | nil => simp at h
    | cons k ks => simp at e
  | (g, w) :: fs, [], _, e, r, h => by simp at e
  | (g, w) :: fs, k :: ks, _, e, r, h => by
    simp only [List.map_cons, List.cons.injEq] at e
    obtain ⟨e1, e2⟩ := e
    subst e1
    cases r with
    | cons r1 r2 =>
      simp only [List.zip_cons_cons, List.lookup] at h ⊢
      by_cases hk : f = k
      · subst hk
        simp at h ⊢
        subst h; exact r1
      · have h1 : (f == k) = false := by simpa using hk
        have h2 : (W.nm f == W.nm k) = false := by
          rw [beq_eq_false_iff_ne]; exact fun z => hk (inj _ _ z)
        rw [h1] at h
        rw [h2]
        exact look_nm inj e2 r2 h
theorem look_none (inj : ∀ i j, W.nm i = W.nm j → i = j) {f : Nat} : ∀ {fs : List (Str × V)} {ks : List Nat}, fs.map (·.1) = ks.map W.nm → ks.contains f = false → fs.lookup (W.nm f) = none
  | [], _, _, _ => rfl
  | (g, w) :: fs, [], e, _ => by simp at e
  | (g, w) :: fs, k :: ks, e, h => by
    simp only [List.map_cons, List.cons.injEq] at e
    obtain ⟨e1, e2⟩ := e
    subst e1
    simp only [List.contains_cons, Bool.or_eq_false_iff] at h
    have h2 : (W.nm f == W.nm k) = false := by
      rw [beq_eq_false_iff_ne]
      exact fun z => by
        have := inj _ _ z
        subst this
        simp at h
    simp only [List.lookup, h2]
    exact look_none inj e2 h.2
/-- a property, by a positional promise -/
theorem getprop_R {CX : CXT} {k : Nat} {Cc p g a dx : Addr} {fs : List (Str × V)} {f : Str} {sp : Sp} {pins : List (Addr × Obj)} {σ : L2.St} {H : Hp} {s : Shared} {Q : VK} {b : Bool} {E' : Value → Shared → Prop} {E : XK} (I : Inv X pins σ H s) (ea : H a = some (.ins Cc dx fs)) (c : Cls X.K Cc) (hp : PropOf X.K Cc f p g)
    (F : FnR X.prog X.w X.K X.mg X.base CX k g sp) (hr : Room (k + 1) X.A) (hx : Passes CX X.nox E) (h : sp [.ref a] H Q E) :
    wpAny (model X.prog X.w) X.A (getAttr (.ref a) f b) (EP X pins σ Q) E' s := by
  obtain ⟨mA, O, _, _, _, _⟩ := ins_get I.hok ea
  obtain ⟨od, J, _⟩ := O.look
  obtain ⟨rest, hrec⟩ := hp.rec_
  have I1 := I.tok (s.toks + 1)
  have hc : (PySem.W.clsIn X.K Cc).isSome = true := by
    obtain ⟨cd, hc, _⟩ := PySem.W.any_some c.hd
    rw [hc]
    rfl
  refine PySem.W.get_bind I.kIn J (PySem.W.plainGet_of (c.get f)).1 (PySem.W.findObj_data hc hp.at_ hp.get hp.tak) (PySem.W.plainGet_of (c.get f)).2 (wpAny_call (PySem.W.prop_get (s := { s with toks := s.toks + 1 }) I.kIn hrec ?_))
  refine codeAny_mono (F X.A.in1 X.stack { s with toks := s.toks + 1 } H [.ref a] [.ref a] Q E hr.in1 I1.env0.in1 (.cons rfl .nil) h) fun r s' hq => ?_
  cases r with
  | error er => exact False.elim (hx pins σ H { s with toks := s.toks + 1 } er s' (I1.wish _) hq)
  | ok fl =>
    cases fl with
    | ret u =>
      obtain ⟨v, H', I3, rv, q3⟩ := I1.after hq
      show wpAny _ _ (handedOut u) _ _ _
      rw [PySem.W.handedOut_of (handed_of rv)]
      exact wpAny_pure ⟨v, H', I3, rv, q3⟩
    | next => exact False.elim hq
    | brk => exact False.elim hq
    | cont => exact False.elim hq
theorem noexc_end {S S' : L2.St} {c : Cf} {Wy : WX} {α β : Type} {R : Cf → β → α → Prop} {Q : β → Hp → Prop} {o : M α} (e : End W Wx S c R Q (noexc o c.h)) : End W Wy S' c R Q (o c.h) := by
  unfold noexc at e
  cases q : o c.h with
  | ok a h' => rw [q] at e; exact e
  | exc k ks vs h' => rw [q] at e; exact e.elim
  | bad => rw [q] at e; exact e
theorem getattr_snd (K : CtxOk W Wx m X) (O : COk W n C) (hn : n + 1 ≤ m) {f : Nat} {b : Bool} {pins : List (Addr × Obj)} {S : L2.St} {c : Cf} {s : Shared} {v : V} {u : Value} {x : AV} {Q : VK} (I : Inv X pins S c.H s) (sim : Sim W c) (r : Rep W c v x) (ru : RelV v u)
    (e : End W Wx S c (Rep W) Q (attrV C f x c.h)) : wpAny (model X.prog X.w) X.A (getAttr u (W.nm f) b) (EP X pins S Q) X.xe s := by
  unfold attrV at e
  split at e
  · rename_i k ks xs hi
    obtain ⟨p, dx, fs, rfl, hp, hnm, rs⟩ := ins_rep sim r hi
    obtain rfl : u = Value.ref p := ru
    split at e
    · rename_i ha
      obtain ⟨hc, hk⟩ := O.ct.attr _ _ _ ha
      obtain ⟨a, hl, e⟩ := End.of e
      obtain ⟨w, h1, h2⟩ := look_nm O.ct.inj hnm rs hl
      exact getattr_ok I hp (by rw [K.hK]; exact hc) (by rw [K.hK]; exact hk) h1 fun u' s2 I2 ru' => ⟨w, _, I2, ru', e.here sim h2⟩
    · rename_i g ha
      obtain ⟨hc, q, hk⟩ := O.ct.attr _ _ _ ha
      have F : FnR X.prog X.w X.K X.mg X.base (L2.CX X.prog X.w) n (W.fnA g) (spI W C g) := by rw [K.hP, K.hw, K.hK, K.hg, K.hb]; exact O.fn g (O.ct.nkp _ _ _ ha)
      refine getprop_R (E := fun _ _ _ => False) I hp (by rw [K.hK]; exact hc) (by rw [K.hK]; exact hk) F (K.room.mono hn) ?_ ⟨c, [x], rfl, sim, .cons r .nil, noexc_end e⟩
      intro pins' σ' H' s' er s2 I2 hq
      obtain ⟨_, _, _, _, _, _, _, _, _, _, _, _, z⟩ := hq
      exact z
    · rename_i v' ha
      obtain ⟨hc, vv, u0, hk, hr⟩ := O.ct.attr _ _ _ ha
      split at e
      · exact e.elim
      · rename_i hks
        exact getcon_ok I hp (by rw [K.hK]; exact hc) (by rw [K.hK]; exact hk) (look_none O.ct.inj hnm (by simpa using hks)) fun s2 I2 => ⟨vv, _, I2, hk.rel, e.here sim (hr _)⟩
    · exact e.elim
  · exact e.elim
theorem snd_attr (K : CtxOk W Wx m X) (O : COk W n C) (hn : n + 1 ≤ m) {f : Nat} {a : Expr} {ia : E} {pos : Pos} (ha : SndE W Wx X C a ia) (hb : attributeBase a (W.nm f) X.env (eval a X.env) = eval a X.env) : SndE W Wx X C (.Attribute a (W.nm f) pos) (.attr ia f) := fun c S σ Q sim l e => by
  intro pins s I
  refine attr_of hb (thn (ha c S σ (fun v H => ∃ (c1 : Cf) (x : AV), c1.H = H ∧ Sim W c1 ∧ Rep W c1 v x ∧ End W Wx S c1 (Rep W) Q (attrV C f x c1.h)) sim l (End.bind e fun x c1 v _ s1 x1 r1 e1 => ⟨c1, x, rfl, s1, r1, e1⟩) pins s I) fun u s1 ⟨v, H1, I1, rv, c1, x, hc, sm, rx, e1⟩ => ?_)
  subst hc
  exact getattr_snd K O hn I1 sm rx rv e1
/-- o.m(..) -/
theorem snd_meth (K : CtxOk W Wx m X) (O : COk W n C) (hn : n ≤ m) {f : Nat} {o : Expr} {io : E} {args : List Expr} {ias : E} {apos pos : Pos} {pl : Sem Bool} (ho : SndE W Wx X C o io) (ha : SndA W Wx X C args ias) (hns : ∀ e ∈ args, ∀ x q, e ≠ .Starred x q) (hnil : args = [] → ias = .nil)
    (ht : eval (.Call (.Attribute o (W.nm f) apos) args [] pos) X.env = (do
      let ov ← eval o X.env
      standAt apos.atName
      let (g, first) ← holding [ov] (getMethod ov (W.nm f) pl)
      callWith pos g first (backTo pos (starEach args X.env)) (backToKw pos (keywordEach [] X.env)))) :
    SndE W Wx X C (.Call (.Attribute o (W.nm f) apos) args [] pos) (.meth io f ias) := fun c S σ Q sim l e => by
  intro pins s I
  refine PySem.W.methodCall_KW (pl := pl) (thn (ho c S σ (fun v H => ∃ (c1 : Cf) (x : AV), c1.H = H ∧ Sim W c1 ∧ Ext c c1 ∧ Rep W c1 v x ∧ End W Wx S c1 (Rep W) Q (M.bind (methV C f x) (fun g => M.bind (evs C σ ias) fun xs => C.call g (x :: xs)) c1.h)) sim l (End.bind e fun x c1 v _ s1 x1 r1 e1 => ⟨c1, x, rfl, s1, x1, r1, e1⟩) pins s I) fun u s1 ⟨v, H1, I1, rv, c1, x, hc, sm, x1, rx, e1⟩ => ?_) ht
  subst hc
  unfold M.bind at e1
  cases q : methV C f x c1.h with
  | bad => rw [q] at e1; exact e1.elim
  | exc k ks vs h' =>
    exfalso
    unfold methV at q
    split at q
    · split at q
      · cases q
      · cases z : C.ct.methOf f _ with
        | none => rw [z] at q; cases q
        | some g => rw [z] at q; cases q
    · cases q
  | ok g h' =>
    rw [q] at e1
    unfold methV at q
    split at q
    · rename_i k ks xs hi
      split at q
      · cases q
      · rename_i hks
        cases z : C.ct.methOf f k with
        | none => rw [z] at q; cases q
        | some g' =>
          rw [z] at q
          cases q
          obtain ⟨hcl, hm⟩ := O.ct.meth _ _ _ z
          obtain ⟨p, dx, fs, rfl, hp, hnm, rs⟩ := ins_rep sm rx hi
          obtain rfl : u = Value.ref p := rv
          refine getmeth_ok I1 hp (by rw [K.hK]; exact hcl) (by rw [K.hK]; exact hm) (look_none O.ct.inj hnm (by simpa using hks)) ?_
          have hkp : PySem.W.keepIn X.K (.ref (W.fnA g)) = true := by rw [K.hK]; exact hm.kp
          replace e1 : End W Wx S c1 (Rep W) Q (M.bind (evs C σ ias) (fun xs => C.call g (x :: xs)) c1.h) := e1
          cases args with
          | nil =>
            have := hnil rfl
            subst this
            refine PySem.W.callWith_K0 (first := [.ref p]) I1.kIn hkp (wpAny_call (run_call K O hn (O.ct.nkm _ _ _ z) (vs := [.ref p]) (xs := [x]) I1 sm (.cons rx .nil) (.cons rfl .nil) e1))
          | cons a es =>
            have h1 : starEach (a :: es) X.env = (false, eval a X.env) :: starEach es X.env := by
              have h1 := hns a List.mem_cons_self
              cases a <;> first | rfl | exact absurd rfl (h1 _ _)
            have h2 : (backTo pos (starEach es X.env)).any (·.1) = false := notStar_any fun e he => hns e (List.mem_cons_of_mem _ he)
            refine PySem.W.callWith_K (first := [.ref p]) (h₀ := X.base) I.ok.mod.kin hkp (thn (ha c1 S σ (fun vs H => ∃ (c2 : Cf) (ys : List AV), c2.H = H ∧ Sim W c2 ∧ Ext c1 c2 ∧ Reps W c2 vs ys ∧ End W Wx S c2 (Rep W) Q (C.call g (x :: ys) c2.h)) sm (l.to x1) (End.bind e1 fun ys c2 vs _ s2 x2 r2 e2 => ⟨c2, ys, rfl, s2, x2, r2, e2⟩) pos pins s1 I1) fun us s2 ⟨vs, H2, I2, r, c2, ys, hc2, sm2, x2, r2, e2⟩ => ⟨I2.kIn, ?_⟩) h1 h2
            subst hc2
            exact wpAny_call (run_call K O hn (O.ct.nkm _ _ _ z) (vs := .ref p :: vs) (xs := x :: ys) I2 sm2 (.cons (rx.to x2) r2) (.cons rfl r) e2)
    · cases q
/-! ### a new instance -/
theorem run_new (K : CtxOk W Wx m X) (O : COk W n C) (hn : n + 1 ≤ m) {k : Nat} (hko : ∀ g, C.ct.init.lookup k = some g → C.ct.ko.contains g = false) {pins : List (Addr × Obj)} {S : L2.St} {c : Cf} {s : Shared} {vs : List V} {us : List Value} {xs : List AV} {Q : VK} (I : Inv X pins S c.H s) (sim : Sim W c) (r : Reps W c vs xs) (ru : Vals vs us)
    (e : End W Wx S c (Rep W) Q (newV C k xs c.h)) : wpAny (model X.prog X.w) X.A (PySem.call (.ref (W.clsA k)) us) (EP X pins S Q) X.xe s := by
  unfold newV at e
  rw [O.ex] at e
  split at e
  · rename_i g hg
    have e := End.exit sim e
    have M := O.ct.init _ _ hg
    have I2 := Inv.made (C := W.clsA k) I
    have ne : s.heap.objs.size ≠ s.heap.objs.size + 1 := Nat.ne_of_lt (Nat.lt_succ_self _)
    have f1 : c.H s.heap.objs.size = none := I.hok.fresh (Nat.le_refl _)
    have f2 : c.H (s.heap.objs.size + 1) = none := I.hok.fresh (Nat.le_succ _)
    have F : FnR X.prog X.w X.K X.mg X.base (L2.CX X.prog X.w) n (W.fnA g) (spI W C g) := by rw [K.hP, K.hw, K.hK, K.hg, K.hb]; exact O.fn g (hko g hg)
    have r2 : Vals (V.ref (s.heap.objs.size + 1) :: vs) (Value.ref (s.heap.objs.size + 1) :: us) := .cons rfl ru
    -- the abstract side
    have s1 : Sim W { c with H := upd c.H s.heap.objs.size (.own (s.heap.objs.size + 1)) } := sim.new f1
    have x1 : Ext c { c with H := upd c.H s.heap.objs.size (.own (s.heap.objs.size + 1)) } := Ext.new sim f1
    have f3 : (upd c.H s.heap.objs.size (.own (s.heap.objs.size + 1))) (s.heap.objs.size + 1) = none := by rw [upd_ne (Ne.symm ne)]; exact f2
    have s2 := Sim.alloc (o := .ins k [] []) (ho := .ins (W.clsA k) s.heap.objs.size []) s1 f3 ⟨s.heap.objs.size, [], upd_same, rfl, .nil⟩ noTab_ins
    have x2 := x1.trans (Ext.alloc (o := .ins k [] []) (ho := .ins (W.clsA k) s.heap.objs.size []) s1 f3)
    have hl : c.ρ.length = c.h.length := sim.len
    have hat : (c.ρ ++ [s.heap.objs.size + 1])[c.h.length]? = some (s.heap.objs.size + 1) := by rw [← hl]; simp
    have sp : spI W C g (V.ref (s.heap.objs.size + 1) :: vs) (upd (upd c.H s.heap.objs.size (.own (s.heap.objs.size + 1))) (s.heap.objs.size + 1) (.ins (W.clsA k) s.heap.objs.size [])) (fun v H2 => v = .non ∧ Q (.ref (s.heap.objs.size + 1)) H2) (fun cls d H' => Wx cls d S H') := by
      refine ⟨_, .ref c.h.length :: xs, rfl, s2, .cons (.ref hat) (r.to x2), ?_⟩
      show End W _ _ _ _ _ (C.call g (.ref c.h.length :: xs) (c.h ++ [.ins k [] []]))
      cases q : C.call g (.ref c.h.length :: xs) (c.h ++ [.ins k [] []]) with
      | bad => rw [q] at e; exact e
      | exc k' ks ys h' =>
        rw [q] at e
        intro ρ' H' d fs s' x'
        exact e ρ' H' d fs s' (x2.trans x')
      | ok a h' =>
        rw [q] at e
        cases a with
        | non =>
          intro ρ' H' b s' x' rb
          cases rb
          exact ⟨rfl, e ρ' H' _ s' (x2.trans x') (.ref (x'.pre _ _ hat))⟩
        | _ => exact e.elim
    have M' : Mk X.K (W.clsA k) (W.fnA g) := by rw [K.hK]; exact M
    refine wpAny_call (make_map (f := W.fnA g) I.kIn M'.makes M'.init (beq_iff_eq.mp M'.fn) (codeAny_mono (F _ X.stack _ _ (Value.ref (s.heap.objs.size + 1) :: us) _ _ _ ((K.room.mono hn).make (W.clsA k) us []) (I2.env0.make (W.clsA k) us []) r2 sp) fun r s' hq' => ?_))
    cases r with
    | error e => exact K.tk e s' (XE.of_call I2 (fun cls d H' h => h) hq')
    | ok fl =>
      cases fl with
      | ret u =>
        obtain ⟨v, H', I3, rv, ev, q3⟩ := I2.after hq'
        subst ev
        exact ⟨rv, ⟨V.ref (s.heap.objs.size + 1), H', I3, rfl, q3⟩⟩
      | next => exact False.elim hq'
      | brk => exact False.elim hq'
      | cont => exact False.elim hq'
  · exact e.elim
end
end NT
set_option linter.all false
set_option maxRecDepth 100000
set_option autoImplicit false
namespace NT
open PySem PySem.Spec PyProof.Rows L2
/-! ### calls with defaults and keywords -/
def wK (X : Cx) (kws : List Keyword) : TA := fun σ H Q => ∀ (pos : Pos) (pins : List (Addr × Obj)) (s : Shared), Inv X pins σ H s → wpAny (model X.prog X.w) X.A (evalAll ((backToKw pos (keywordEach kws X.env)).map (·.2))) (AP X pins σ Q) X.xe s
theorem pk_w {X : Cx} {kws : List Keyword} : PK X kws (wK X kws) := ⟨fun pos pins s σ H Q I h => h pos pins s I⟩
theorem wK_of {X : Cx} {kws : List Keyword} {t : TA} {σ : L2.St} {H : Hp} {Q : List V → Hp → Prop} (h : PK X kws t) (q : t σ H Q) : wK X kws σ H Q := fun pos pins s I => h.run pos pins s σ H Q I q
def SndK (W : Wd) (Wx : WX) (X : Cx) (C : Orc) (kws : List Keyword) (ir : E) : Prop := ∀ (c : Cf) (S : L2.St) (σ : Loc) (Q : List V → Hp → Prop), Sim W c → LocR W c S σ → End W Wx S c (Reps W) Q (evs C σ ir c.h) → wK X kws S c.H Q
section
variable {W : Wd} {Wx : WX} {X : Cx} {C : Orc} {n m : Nat}
theorem sndK_nil : SndK W Wx X C [] .nil := fun c S σ Q sim l e => wK_of pk_nil (e.here sim .nil)
theorem sndK_cons {nm : Option Str} {kpos : Pos} {a : Expr} {ia ib : E} {kws : List Keyword} (ha : SndE W Wx X C a ia) (hr : SndK W Wx X C kws ib) : SndK W Wx X C (⟨nm, a, kpos⟩ :: kws) (.cons ia ib) := fun c S σ Q sim l e => by
  refine wK_of (pk_cons pe_w pk_w) (ha c S σ _ sim l (End.bind e fun x c1 v _ s1 x1 r1 e1 => ?_))
  exact hr c1 S σ _ s1 (l.to x1) (End.bind e1 fun xs c2 vs _ s2 x2 r2 e2 => e2.here s2 (.cons (r1.to x2) r2))
theorem arr_reps {c : Cf} {vs : List V} {xs : List AV} (r : Reps W c vs xs) : ∀ {ix : List AI} {ys : List V} {zs : List AV}, ArrV W vs ix ys → arrL xs ix = some zs → Reps W c ys zs
  | _, _, _, .nil, h => by simp [arrL] at h; subst h; exact .nil
  | .pl i :: ix, _, _, .pl hv t, h => by
    simp only [arrL] at h
    split at h
    · rename_i x ys' h1 h2
      cases h
      obtain ⟨w, g1, g2⟩ := r.get h1
      rw [hv] at g1
      cases g1
      exact .cons g2 (arr_reps r t h2)
    · cases h
  | .dv j a :: ix, _, _, .dv hv t, h => by
    simp only [arrL, Option.map_eq_some_iff] at h
    obtain ⟨ys', h1, rfl⟩ := h
    exact .cons (hv _) (arr_reps r t h1)
/-- the callee runs, keywords and defaults in their places -/
theorem run_callK (K : CtxOk W Wx m X) (O : COk W n C) (hn : n ≤ m) {f : Nat} {pat : Pat} (hp : (f, pat) ∈ C.ct.pats) {pins : List (Addr × Obj)} {S : L2.St} {c : Cf} {s : Shared} {vs ws : List V} {us zs : List Value} {xs : List AV} {Q : VK} (I : Inv X pins S c.H s) (sim : Sim W c) (r : Reps W c (vs ++ ws) xs) (ru : Vals vs us) (rz : Vals ws zs)
    (l1 : vs.length = pat.np) (l2 : ws.length = pat.ks.length) (e : End W Wx S c (Rep W) Q (M.bind (M.of (arrL xs pat.ix)) (fun ys => C.call f ys) c.h)) : wpAny (model X.prog X.w) X.A (PySem.call (.ref (W.fnA f)) us (pat.ks.zip zs)) (EP X pins S Q) X.xe s := by
  unfold M.bind at e
  cases q : arrL xs pat.ix with
  | none => rw [q] at e; exact e.elim
  | some ys =>
    rw [q] at e
    replace e : End W Wx S c (Rep W) Q (C.call f ys c.h) := e
    have F := O.kw f pat hp
    have e0 : Env0 W.P W.w W.K W.mg W.base X.A X.stack s c.H := by
      have := I.env0
      rw [K.hP, K.hw, K.hK, K.hg, K.hb] at this; exact this
    have := F X.A X.stack s c.H us zs vs ws Q (fun cls d H' => Wx cls d S H') (by rw [← ru.length]; exact l1) (by rw [← rz.length]; exact l2) (K.room.mono hn) e0 ru rz fun ys' ha => by
      refine ⟨c, ys, rfl, sim, arr_reps r ha q, ?_⟩
      cases q : C.call f ys c.h with
      | ok a h' => rw [q] at e; exact e
      | exc k ks ys h' => rw [q] at e; exact e
      | bad => rw [q] at e; exact e
    rw [← K.hP, ← K.hw] at this
    refine wpAny_call (codeAny_mono this fun r s' hq => ?_)
    cases r with
    | error e => exact K.tk e s' (XE.of_call I (fun cls d H' h => h) hq)
    | ok fl =>
      cases fl with
      | ret u => exact I.after hq
      | next => exact False.elim hq
      | brk => exact False.elim hq
      | cont => exact False.elim hq
/-- behind the first one -/
def AI.up : AI → AI
  | .pl i => .pl (i + 1)
  | .dv j v => .dv j v
def Pat.self (p : Pat) : Pat := ⟨p.np + 1, p.ks, .pl 0 :: p.ix.map AI.up⟩
theorem arr_up {v : V} {vs : List V} : ∀ {ix : List AI} {ys : List V}, ArrV W (v :: vs) (ix.map AI.up) ys → ArrV W vs ix ys
  | [], _, h => by cases h; exact .nil
  | .pl i :: ix, _, h => by
    cases h with
    | pl h1 h2 => exact .pl (by simpa using h1) (arr_up h2)
  | .dv j a :: ix, _, h => by
    cases h with
    | dv h1 h2 => exact .dv h1 (arr_up h2)
theorem run_newK (K : CtxOk W Wx m X) (O : COk W n C) (hn : n + 1 ≤ m) {k g : Nat} {pat : Pat} (hg : C.ct.init.lookup k = some g) (hp : (g, pat.self) ∈ C.ct.pats) {pins : List (Addr × Obj)} {S : L2.St} {c : Cf} {s : Shared} {vs ws : List V} {us zs : List Value} {xs : List AV} {Q : VK} (I : Inv X pins S c.H s) (sim : Sim W c) (r : Reps W c (vs ++ ws) xs) (ru : Vals vs us) (rz : Vals ws zs)
    (l1 : vs.length = pat.np) (l2 : ws.length = pat.ks.length) (e : End W Wx S c (Rep W) Q (M.bind (M.of (arrL xs pat.ix)) (fun ys => newV C k ys) c.h)) : wpAny (model X.prog X.w) X.A (PySem.call (.ref (W.clsA k)) us (pat.ks.zip zs)) (EP X pins S Q) X.xe s := by
  unfold M.bind at e
  cases q : arrL xs pat.ix with
  | none => rw [q] at e; exact e.elim
  | some ys =>
    rw [q] at e
    replace e : End W Wx S c (Rep W) Q (newV C k ys c.h) := e
    unfold newV at e
    rw [O.ex] at e
    rw [hg] at e
    have e := End.exit sim e
    have M := O.ct.init _ _ hg
    have I2 := Inv.made (C := W.clsA k) I
    have ne : s.heap.objs.size ≠ s.heap.objs.size + 1 := Nat.ne_of_lt (Nat.lt_succ_self _)
    have f1 : c.H s.heap.objs.size = none := I.hok.fresh (Nat.le_refl _)
    have f2 : c.H (s.heap.objs.size + 1) = none := I.hok.fresh (Nat.le_succ _)
    have F := O.kw g pat.self hp
    have r2 : Vals (V.ref (s.heap.objs.size + 1) :: vs) (Value.ref (s.heap.objs.size + 1) :: us) := .cons rfl ru
    have s1 : Sim W { c with H := upd c.H s.heap.objs.size (.own (s.heap.objs.size + 1)) } := sim.new f1
    have x1 : Ext c { c with H := upd c.H s.heap.objs.size (.own (s.heap.objs.size + 1)) } := Ext.new sim f1
    have f3 : (upd c.H s.heap.objs.size (.own (s.heap.objs.size + 1))) (s.heap.objs.size + 1) = none := by rw [upd_ne (Ne.symm ne)]; exact f2
    have s2 := Sim.alloc (o := .ins k [] []) (ho := .ins (W.clsA k) s.heap.objs.size []) s1 f3 ⟨s.heap.objs.size, [], upd_same, rfl, .nil⟩ noTab_ins
    have x2 := x1.trans (Ext.alloc (o := .ins k [] []) (ho := .ins (W.clsA k) s.heap.objs.size []) s1 f3)
    have hl : c.ρ.length = c.h.length := sim.len
    have hat : (c.ρ ++ [s.heap.objs.size + 1])[c.h.length]? = some (s.heap.objs.size + 1) := by rw [← hl]; simp
    have M' : Mk X.K (W.clsA k) (W.fnA g) := by rw [K.hK]; exact M
    have e0 := I2.env0.make (W.clsA k) us (pat.ks.zip zs)
    rw [K.hP, K.hw, K.hK, K.hg, K.hb] at e0
    have := F _ X.stack _ _ (Value.ref (s.heap.objs.size + 1) :: us) zs (V.ref (s.heap.objs.size + 1) :: vs) ws (fun v H2 => v = .non ∧ Q (.ref (s.heap.objs.size + 1)) H2) (fun cls d H' => Wx cls d S H')
      (by show _ + 1 = pat.np + 1; rw [← ru.length, l1]) (by rw [← rz.length]; exact l2) ((K.room.mono hn).make (W.clsA k) us (pat.ks.zip zs)) e0 r2 rz fun ys' ha => by
      refine ⟨_, .ref c.h.length :: ys, rfl, s2, ?_, ?_⟩
      · cases ha with
        | pl h1 h2 =>
          cases h1
          exact .cons (.ref hat) ((arr_reps r (arr_up h2) q).to x2)
      show End W _ _ _ _ _ (C.call g (.ref c.h.length :: ys) (c.h ++ [.ins k [] []]))
      cases q : C.call g (.ref c.h.length :: ys) (c.h ++ [.ins k [] []]) with
      | bad => rw [q] at e; exact e
      | exc k' ks ys h' =>
        rw [q] at e
        intro ρ' H' d fs s' x'
        exact e ρ' H' d fs s' (x2.trans x')
      | ok a h' =>
        rw [q] at e
        cases a with
        | non =>
          intro ρ' H' b s' x' rb
          cases rb
          exact ⟨rfl, e ρ' H' _ s' (x2.trans x') (.ref (x'.pre _ _ hat))⟩
        | _ => exact e.elim
    rw [← K.hP, ← K.hw] at this
    refine wpAny_call (make_map (f := W.fnA g) I.kIn M'.makes M'.init (beq_iff_eq.mp M'.fn) (codeAny_mono this fun r s' hq' => ?_))
    cases r with
    | error e => exact K.tk e s' (XE.of_call I2 (fun cls d H' h => h) hq')
    | ok fl =>
      cases fl with
      | ret u =>
        obtain ⟨v, H', I3, rv, ev, q3⟩ := I2.after hq'
        subst ev
        exact ⟨rv, ⟨V.ref (s.heap.objs.size + 1), H', I3, rfl, q3⟩⟩
      | next => exact False.elim hq'
      | brk => exact False.elim hq'
      | cont => exact False.elim hq'
/-! ### what is called: a def, a class -/
/-- a callee by positional values -/
def CalR (W : Wd) (Wx : WX) (X : Cx) (u : Value) (G : List AV → M AV) : Prop := PySem.W.keepIn X.K u = true ∧ ∀ (pins : List (Addr × Obj)) (S : L2.St) (c : Cf) (s : Shared) (vs : List V) (us : List Value) (xs : List AV) (Q : VK), Inv X pins S c.H s → Sim W c → Reps W c vs xs → Vals vs us →
    End W Wx S c (Rep W) Q (G xs c.h) → wpAny (model X.prog X.w) X.A (PySem.call u us) (EP X pins S Q) X.xe s
def CalK (W : Wd) (Wx : WX) (X : Cx) (u : Value) (G : List AV → M AV) (pat : Pat) : Prop := PySem.W.keepIn X.K u = true ∧ ∀ (pins : List (Addr × Obj)) (S : L2.St) (c : Cf) (s : Shared) (vs ws : List V) (us zs : List Value) (xs : List AV) (Q : VK), Inv X pins S c.H s → Sim W c → Reps W c (vs ++ ws) xs → Vals vs us → Vals ws zs →
    vs.length = pat.np → ws.length = pat.ks.length → End W Wx S c (Rep W) Q (M.bind (M.of (arrL xs pat.ix)) (fun ys => G ys) c.h) → wpAny (model X.prog X.w) X.A (PySem.call u us (pat.ks.zip zs)) (EP X pins S Q) X.xe s
theorem calR_fn (K : CtxOk W Wx m X) (O : COk W n C) (hn : n ≤ m) {f : Nat} (hko : C.ct.ko.contains f = false) (hk : PySem.W.keepIn W.K (.ref (W.fnA f)) = true) : CalR W Wx X (.ref (W.fnA f)) (C.call f) :=
  ⟨by rw [K.hK]; exact hk, fun pins S c s vs us xs Q I sim r ru e => wpAny_call (run_call K O hn hko I sim r ru e)⟩
theorem calR_new (K : CtxOk W Wx m X) (O : COk W n C) (hn : n + 1 ≤ m) {k g : Nat} (hg : C.ct.init.lookup k = some g) (hko : C.ct.ko.contains g = false) : CalR W Wx X (.ref (W.clsA k)) (newV C k) :=
  ⟨by rw [K.hK]; exact (O.ct.init _ _ hg).kp, fun pins S c s vs us xs Q I sim r ru e => run_new K O hn (fun g' h => by rw [hg] at h; cases h; exact hko) I sim r ru e⟩
theorem calK_fn (K : CtxOk W Wx m X) (O : COk W n C) (hn : n ≤ m) {f : Nat} {pat : Pat} (hp : (f, pat) ∈ C.ct.pats) (hk : PySem.W.keepIn W.K (.ref (W.fnA f)) = true) : CalK W Wx X (.ref (W.fnA f)) (C.call f) pat :=
  ⟨by rw [K.hK]; exact hk, fun pins S c s vs ws us zs xs Q I sim r ru rz l1 l2 e => run_callK K O hn hp I sim r ru rz l1 l2 e⟩
theorem calK_new (K : CtxOk W Wx m X) (O : COk W n C) (hn : n + 1 ≤ m) {k g : Nat} {pat : Pat} (hg : C.ct.init.lookup k = some g) (hp : (g, pat.self) ∈ C.ct.pats) : CalK W Wx X (.ref (W.clsA k)) (newV C k) pat :=
  ⟨by rw [K.hK]; exact (O.ct.init _ _ hg).kp, fun pins S c s vs ws us zs xs Q I sim r ru rz l1 l2 e => run_newK K O hn hg hp I sim r ru rz l1 l2 e⟩
/-- the call's node behind the callee -/
theorem with_R {u : Value} {G : List AV → M AV} (F : CalR W Wx X u G) {args : List Expr} {as : E} {pos : Pos} (hns : ∀ a p' r, args ≠ .Starred a p' :: r) (hnil : args = [] → as = .nil) (ha : SndA W Wx X C args as)
    {pins : List (Addr × Obj)} {s : Shared} {c : Cf} {S : L2.St} {σ : Loc} {Q : VK} (I : Inv X pins S c.H s) (sim : Sim W c) (l : LocR W c S σ) (e : End W Wx S c (Rep W) Q (M.bind (evs C σ as) (fun xs => G xs) c.h)) :
    wpAny (model X.prog X.w) X.A (callWith pos u [] (backTo pos (starEach args X.env)) (backToKw pos (keywordEach [] X.env))) (EP X pins S Q) X.xe s := by
  have key : wA X args S c.H (fun vs H1 => ∃ (c1 : Cf) (xs : List AV), c1.H = H1 ∧ Sim W c1 ∧ Reps W c1 vs xs ∧ End W Wx S c1 (Rep W) Q (G xs c1.h)) := ha c S σ _ sim l (End.bind e fun xs c1 vs _ s1 x1 r1 e1 => ⟨c1, xs, rfl, s1, r1, e1⟩)
  cases args with
  | nil =>
    have hn := hnil rfl
    subst hn
    exact PySem.W.callWith_K0 I.kIn F.1 (F.2 pins S c s [] [] [] Q I sim .nil .nil e)
  | cons a es =>
    have h1 : starEach (a :: es) X.env = (false, eval a X.env) :: starEach es X.env := by
      cases a <;> first | rfl | exact absurd rfl (hns _ _ es)
    cases hst : (backTo pos (starEach es X.env)).any (·.1) with
    | false =>
      refine PySem.W.callWith_K (h₀ := X.base) I.ok.mod.kin F.1 (thn (key pos pins s I) fun us s1 ⟨vs, H1, I1, r, c1, xs, q1, q2, q3, q4⟩ => ⟨I1.kIn, ?_⟩) h1 hst
      subst q1
      exact F.2 pins S c1 s1 vs us xs Q I1 q2 q3 r q4
    | true =>
      refine PySem.W.callWith_S2 (h₀ := X.base) I.ok.mod.kin F.1 (thn (key pos pins s I) fun us s1 ⟨vs, H1, I1, r, c1, xs, q1, q2, q3, q4⟩ => ⟨I1.kIn, ?_⟩) h1 hst
      subst q1
      exact F.2 pins S c1 s1 vs us xs Q I1 q2 q3 r q4
theorem kw_all {pos : Pos} {env : Env} : ∀ {kws : List Keyword} {ks : List Str}, kws.map (·.arg) = ks.map some → (backToKw pos (keywordEach kws env)).all (·.1.isSome) = true ∧ (backToKw pos (keywordEach kws env)).filterMap (·.1) = ks ∧ (backToKw pos (keywordEach kws env)).any (·.1.isNone) = false
  | [], ks, h => by
    cases ks with
    | nil => exact ⟨rfl, rfl, rfl⟩
    | cons _ _ => simp at h
  | ⟨a, e, p⟩ :: kws, ks, h => by
    cases ks with
    | nil => simp at h
    | cons k ks =>
      simp only [List.map_cons, List.cons.injEq] at h
      obtain ⟨h1, h2⟩ := h
      have h1 : a = some k := h1
      subst h1
      obtain ⟨i1, i2, i3⟩ := kw_all (pos := pos) (env := env) h2
      have hc : backToKw pos (keywordEach (⟨some k, e, p⟩ :: kws) env) = (some k, do let v ← eval e env; standAt pos; pure v) :: backToKw pos (keywordEach kws env) := rfl
      rw [hc]
      refine ⟨?_, ?_, ?_⟩
      · rw [List.all_cons, i1]; rfl
      · simp only [List.filterMap_cons, i2]
      · rw [List.any_cons, i3]; rfl
theorem with_K {u : Value} {G : List AV → M AV} {pat : Pat} (F : CalK W Wx X u G pat) {args : List Expr} {as ks : E} {kws : List Keyword} {pos : Pos} (hns : ∀ e ∈ args, ∀ x q, e ≠ .Starred x q) (hnil : args = [] → as = .nil) (ha : SndA W Wx X C args as) (hk : SndK W Wx X C kws ks) (hnm : kws.map (·.arg) = pat.ks.map some) (hknil : kws = [] → ks = .nil)
    (hla : args.length = pat.np) (hlen : ∀ (σ : Loc) (h h' : AHeap) (xs : List AV), evs C σ as h = .ok xs h' → xs.length = args.length) (hlenk : ∀ (σ : Loc) (h h' : AHeap) (xs : List AV), evs C σ ks h = .ok xs h' → xs.length = kws.length)
    {pins : List (Addr × Obj)} {s : Shared} {c : Cf} {S : L2.St} {σ : Loc} {Q : VK} (I : Inv X pins S c.H s) (sim : Sim W c) (l : LocR W c S σ) (e : End W Wx S c (Rep W) Q (M.bind (evs C σ (.arr pat.ix as ks)) (fun xs => G xs) c.h)) :
    wpAny (model X.prog X.w) X.A (callWith pos u [] (backTo pos (starEach args X.env)) (backToKw pos (keywordEach kws X.env))) (EP X pins S Q) X.xe s := by
  obtain ⟨k1, k2, k3⟩ := kw_all (pos := pos) (env := X.env) hnm
  have lk : kws.length = pat.ks.length := by have := congrArg List.length hnm; simpa using this
  have hev : evs C σ (.arr pat.ix as ks) = M.bind (evs C σ as) fun xs => M.bind (evs C σ ks) fun ys => M.of (arrL (xs ++ ys) pat.ix) := rfl
  rw [hev] at e
  have e : End W Wx S c (Rep W) Q (M.bind (evs C σ as) (fun xs => M.bind (evs C σ ks) fun ys => M.bind (M.of (arrL (xs ++ ys) pat.ix)) fun xs => G xs) c.h) := by
    have z : M.bind (M.bind (evs C σ as) fun xs => M.bind (evs C σ ks) fun ys => M.of (arrL (xs ++ ys) pat.ix)) (fun xs => G xs) c.h = M.bind (evs C σ as) (fun xs => M.bind (evs C σ ks) fun ys => M.bind (M.of (arrL (xs ++ ys) pat.ix)) fun xs => G xs) c.h := by
      unfold M.bind
      cases evs C σ as c.h with
      | ok xs h1 =>
        simp only
        cases evs C σ ks h1 <;> rfl
      | _ => rfl
    rw [← z]; exact e
  -- behind the positional values
  have rest : ∀ (c1 : Cf) (s1 : Shared) (vs : List V) (us : List Value) (xs : List AV), Ext c c1 → Sim W c1 → Reps W c1 vs xs → xs.length = args.length → Vals vs us → Inv X pins S c1.H s1 → End W Wx S c1 (Rep W) Q (M.bind (evs C σ ks) (fun ys => M.bind (M.of (arrL (xs ++ ys) pat.ix)) fun xs => G xs) c1.h) →
      wpAny (model X.prog X.w) X.A (evalAll ((backToKw pos (keywordEach kws X.env)).map (·.2))) (fun zs s₂ => X.K.In s₂.heap ∧ wpAny (model X.prog X.w) X.A (PySem.call u us (pat.ks.zip zs)) (EP X pins S Q) X.xe s₂) X.xe s1 := fun c1 s1 vs us xs x1 sm1 r1 hx ru I1 e1 => by
    refine thn (hk c1 S σ (fun ws H => ∃ (c2 : Cf) (ys : List AV), c2.H = H ∧ Sim W c2 ∧ Ext c1 c2 ∧ Reps W c2 ws ys ∧ ys.length = kws.length ∧ End W Wx S c2 (Rep W) Q (M.bind (M.of (arrL (xs ++ ys) pat.ix)) (fun xs => G xs) c2.h)) sm1 (l.to x1) (End.bind e1 fun ys c2 ws hok s2 x2 r2 e2 => ⟨c2, ys, rfl, s2, x2, r2, hlenk σ _ _ ys hok, e2⟩) pos pins s1 I1) fun zs s2 ⟨ws, H2, I2, rz, c2, ys, hc, sm2, x2, r2, hy, e2⟩ => ⟨I2.kIn, ?_⟩
    subst hc
    exact F.2 pins S c2 s2 vs ws us zs (xs ++ ys) Q I2 sm2 ((r1.to x2).append r2) ru rz (by rw [r1.length, hx, hla]) (by rw [r2.length, hy, lk]) e2
  cases args with
  | nil =>
    have hn := hnil rfl
    subst hn
    refine PySem.W.callWith_KW0 (h₀ := X.base) I.ok.mod.kin F.1 k1 ?_ (by rw [k3]; rfl)
    rw [k2]
    exact rest c s [] [] [] (Ext.refl c) sim .nil rfl .nil I e
  | cons a es =>
    have h1 : starEach (a :: es) X.env = (false, eval a X.env) :: starEach es X.env := by
      have h1 := hns a List.mem_cons_self
      cases a <;> first | rfl | exact absurd rfl (h1 _ _)
    have h2 : (backTo pos (starEach (a :: es) X.env)).any (·.1) = false := notStar_any hns
    refine PySem.W.callWith_KW (h₀ := X.base) I.ok.mod.kin F.1 k1 (thn (ha c S σ (fun vs H => ∃ (c1 : Cf) (xs : List AV), c1.H = H ∧ Sim W c1 ∧ Ext c c1 ∧ Reps W c1 vs xs ∧ xs.length = (a :: es).length ∧ End W Wx S c1 (Rep W) Q (M.bind (evs C σ ks) (fun ys => M.bind (M.of (arrL (xs ++ ys) pat.ix)) fun xs => G xs) c1.h)) sim l (End.bind e fun xs c1 vs hok s1 x1 r1 e1 => ⟨c1, xs, rfl, s1, x1, r1, hlen σ _ _ xs hok, e1⟩) pos pins s I) fun us s1 ⟨vs, H1, I1, ru, c1, xs, hc, sm1, x1, r1, hx, e1⟩ => ?_) (by rw [h2, k3]; rfl) h1
    subst hc
    rw [k2]
    exact rest c1 s1 vs us xs x1 sm1 r1 hx ru I1 e1
/-- x(..), x a global name -/
theorem snd_callR {u : Value} {G : List AV → M AV} {ir : E} (K : CtxOk W Wx m X) (F : CalR W Wx X u G) {x : Str} {args : List Expr} {as : E} {p pos : Pos} (hns : ∀ a p' r, args ≠ .Starred a p' :: r) (hnil : args = [] → as = .nil) (ha : SndA W Wx X C args as) (hg : Gl X x) (hd : (x == ("__debug__" : Str)) = false)
    (hm : W.mg x = some u) (hir : ∀ σ, ev C σ ir = M.bind (evs C σ as) fun xs => G xs) : SndE W Wx X C (.Call (.Name x p) args [] pos) ir := fun c S σ Q sim l e => by
  intro pins s I
  rw [hir] at e
  exact wpAny_Call_Name_kw (ld_glob I hg (by rw [K.hg]; exact hm) (with_R F hns hnil ha I sim l e) hd)
theorem snd_callK {u : Value} {G : List AV → M AV} {ir : E} {pat : Pat} (K : CtxOk W Wx m X) (F : CalK W Wx X u G pat) {x : Str} {args : List Expr} {as ks : E} {kws : List Keyword} {p pos : Pos} (hns : ∀ e ∈ args, ∀ x q, e ≠ .Starred x q) (hnil : args = [] → as = .nil) (ha : SndA W Wx X C args as) (hk : SndK W Wx X C kws ks) (hnm : kws.map (·.arg) = pat.ks.map some) (hknil : kws = [] → ks = .nil)
    (hla : args.length = pat.np) (hlen : ∀ (σ : Loc) (h h' : AHeap) (xs : List AV), evs C σ as h = .ok xs h' → xs.length = args.length) (hlenk : ∀ (σ : Loc) (h h' : AHeap) (xs : List AV), evs C σ ks h = .ok xs h' → xs.length = kws.length) (hg : Gl X x) (hd : (x == ("__debug__" : Str)) = false)
    (hm : W.mg x = some u) (hir : ∀ σ, ev C σ ir = M.bind (evs C σ (.arr pat.ix as ks)) fun xs => G xs) : SndE W Wx X C (.Call (.Name x p) args kws pos) ir := fun c S σ Q sim l e => by
  intro pins s I
  rw [hir] at e
  exact wpAny_Call_Name_kw (ld_glob I hg (by rw [K.hg]; exact hm) (with_K F hns hnil ha hk hnm hknil hla hlen hlenk I sim l e) hd)
end
end NT
set_option linter.all false
set_option maxRecDepth 100000
set_option autoImplicit false
namespace NT
open PySem PySem.Spec PyProof.Rows L2
section
variable {W : Wd} {Wx : WX} {X : Cx} {C : Orc} {n m : Nat}
/-! ### calls that let nothing out -/
theorem run_noexc (K : CtxOk W Wx m X) (O : COk W n C) {A : Around} (hr : Room n A) {f : Nat} (hko : C.ct.ko.contains f = false) {pins : List (Addr × Obj)} {S S0 : L2.St} {c : Cf} {s : Shared} {vs : List V} {us : List Value} {xs : List AV} {Q : VK} {Wy : WX} {E : Value → Shared → Prop} (I : Inv X pins S c.H s) (e0 : Env0 X.prog X.w X.K X.mg X.base A X.stack s c.H) (sim : Sim W c) (r : Reps W c vs xs) (ru : Vals vs us)
    (e : End W Wy S0 c (Rep W) Q (noexc (C.call f xs) c.h)) : wpAny (model X.prog X.w) A (PySem.call (.ref (W.fnA f)) us) (EP X pins S Q) E s := by
  have F : FnR X.prog X.w X.K X.mg X.base (L2.CX X.prog X.w) n (W.fnA f) (spI W C f) := by rw [K.hP, K.hw, K.hK, K.hg, K.hb]; exact O.fn f hko
  refine wpAny_call (codeAny_mono (F A X.stack s c.H us vs Q (fun _ _ _ => False) hr e0 ru ⟨c, xs, rfl, sim, r, noexc_end e⟩) fun r s' hq => ?_)
  cases r with
  | error e =>
    obtain ⟨_, _, _, _, _, _, _, _, _, _, _, _, z⟩ := hq
    exact z.elim
  | ok fl =>
    cases fl with
    | ret u => exact I.after hq
    | next => exact False.elim hq
    | brk => exact False.elim hq
    | cont => exact False.elim hq
theorem env0_in1 {A : Around} {s : Shared} {H : Hp} (e : Env0 X.prog X.w X.K X.mg X.base A X.stack s H) : Env0 X.prog X.w X.K X.mg X.base A.in1 X.stack s H := e.in1
/-- an object's instance -/
theorem obj_inst {pins : List (Addr × Obj)} {S : L2.St} {c : Cf} {s : Shared} (I : Inv X pins S c.H s) {p dx C : Addr} {fs : List (Str × V)} (h : c.H p = some (.ins C dx fs)) : ∃ ox od, PySem.W.InstAt s.heap p ox C (some od) := by
  obtain ⟨mA, J, _⟩ := ins_get I.hok h
  obtain ⟨od, J, _⟩ := J.look
  exact ⟨_, _, J⟩
theorem rep_obj {c : Cf} {v : V} {k : Nat} {ks : List Nat} {xs : List AV} (r : Rep W c v (.obj k ks xs)) : ∃ p dx fs, v = .ref p ∧ c.H p = some (.ins (W.clsA k) dx fs) := by
  cases r with
  | obj h1 h2 h3 h4 => exact ⟨_, _, _, rfl, h2⟩
/-- a bool comes back -/
theorem back_B {pins : List (Addr × Obj)} {S S0 : L2.St} {c : Cf} {Q : VK} {Wy : WX} {g : Nat} {xs : List AV} (e : End W Wy S0 c (Rep W) Q (callB C g xs c.h)) :
    End W Wy S0 c (Rep W) (fun v H => ∃ k, v = .bl k ∧ Q (.bl k) H) (noexc (C.call g xs) c.h) := by
  unfold callB at e
  refine End.bind e fun a c1 v _ s1 x1 r1 e1 => ?_
  obtain ⟨k, hv, ha, e2⟩ := asB_snd e1 r1
  exact ⟨k, hv, e2.here s1 (.bl k)⟩
theorem plain_type {pins : List (Addr × Obj)} {S : L2.St} {c : Cf} {s : Shared} (K : CtxOk W Wx m X) (I : Inv X pins S c.H s) {v : V} {u : Value} {x : AV} (r : Rep W c v x) (ru : RelV v u) (hp : plainV x = true) : ∃ T ∈ tyL, PySem.W.Looks (model X.prog X.w) s.heap (typeOf u) (.type T) := by
  cases r with
  | non => cases (show u = Value.none from ru); exact ⟨"NoneType", by decide, fun A Q E s' kp q => wpAny_typeOf (show s'.TypeIs Value.none "NoneType" from rfl) q⟩
  | bl b => cases (show u = Value.bool b from ru); exact ⟨"bool", by decide, fun A Q E s' kp q => wpAny_typeOf (show s'.TypeIs (Value.bool b) "bool" from rfl) q⟩
  | int i => obtain ⟨t, z⟩ := (show ∃ t, u = Value.int i t from ru); cases z; exact ⟨"int", by decide, fun A Q E s' kp q => wpAny_typeOf (show s'.TypeIs (Value.int i t) "int" from rfl) q⟩
  | str x => obtain ⟨t, z⟩ := (show ∃ t, u = Value.str x t from ru); cases z; exact ⟨"str", by decide, fun A Q E s' kp q => wpAny_typeOf (show s'.TypeIs (Value.str x t) "str" from rfl) q⟩
  | tup h1 h2 =>
    rename_i p vs xs
    cases (show u = Value.ref p from ru)
    obtain ⟨its, _, ⟨o, ho, hc, _⟩, _⟩ := I.tuple (show SqT X.K c.H p vs by rw [K.hK]; exact h1.sq)
    exact ⟨"tuple", by decide, fun A Q E s' kp q => wpAny_typeOf (show s'.TypeIs (Value.ref p) "tuple" from ⟨o, kp _ _ ho, hc⟩) q⟩
  | lst h1 h2 =>
    rename_i p vs xs
    cases (show u = Value.ref p from ru)
    obtain ⟨its, _, ⟨o, n, ho, hc, _⟩, _⟩ := I.list (show SqL X.K c.H p vs by rw [K.hK]; exact h1.sq)
    exact ⟨"list", by decide, fun A Q E s' kp q => wpAny_typeOf (show s'.TypeIs (Value.ref p) "list" from ⟨o, kp _ _ ho, hc⟩) q⟩
  | _ => simp [plainV] at hp
/-! ### comparisons -/
theorem eqO_snd (K : CtxOk W Wx m X) (O : COk W n C) (hn : n + 2 ≤ m) {pins : List (Addr × Obj)} {S S0 : L2.St} {c : Cf} {s : Shared} {v v' : V} {u u' : Value} {x y : AV} {k : Nat} {ks : List Nat} {xs : List AV} {Q : VK} {Wy : WX} (I : Inv X pins S c.H s) (sim : Sim W c) (r : Rep W c v x) (r' : Rep W c v' y) (ru : RelV v u) (ru' : RelV v' u')
    (hx : x = .obj k ks xs) (e : End W Wy S0 c (Rep W) Q (eqO C x y k c.h)) : wpAny (model X.prog X.w) X.A (richCompare .Eq u u') (EP X pins S Q) X.xe s := by
  subst hx
  unfold eqO at e
  split at e
  · rename_i g l hg hl
    obtain ⟨hc, hm⟩ := O.ct.meth _ _ _ hg
    rw [O.ct.nms.1] at hm
    have CK := O.ct.sub _ _ hl
    obtain ⟨p, dx, fs, rfl, hp⟩ := rep_obj r
    obtain rfl : u = Value.ref p := ru
    obtain ⟨ox, od, J⟩ := obj_inst I hp
    obtain ⟨mm, hF⟩ := I.fr
    have go : ∀ (tb : Value), PySem.W.Looks (model X.prog X.w) s.heap (typeOf u') tb → PySem.W.notFirst X.K (W.clsA k) tb = true → End W Wy S0 c (Rep W) Q (callB C g [.obj k ks xs, y] c.h) → wpAny (model X.prog X.w) X.A (richCompare .Eq (.ref p) u') (EP X pins S Q) X.xe s := by
      intro tb htb hnf e
      refine PySem.W.cmp_K (op := .Eq) (tb := tb) K.room.units0 hF I.ok.mod.kin J htb hnf (by rw [K.hK]; exact hm.at_) (by rw [K.hK]; exact hm.fn) ?_
      refine thn (run_noexc K O (K.room.mono (by omega)) (O.ct.nkm _ _ _ hg) (vs := [.ref p, v']) I I.env0 sim (.cons r (.cons r' .nil)) (.cons rfl (.cons ru' .nil)) (back_B (pins := pins) (S := S) e)) fun w s' ⟨z, H', I', rz, kk, ez, q⟩ => ?_
      subst ez
      cases (show w = Value.bool kk from rz)
      exact ⟨.bl kk, H', I', rfl, q⟩
    split at e
    · rename_i c' ks' vs'
      split at e
      · rename_i l' hl'
        split at e
        · rename_i hcc
          obtain ⟨p', dx', fs', rfl, hp'⟩ := rep_obj r'
          obtain rfl : u' = Value.ref p' := ru'
          obtain ⟨ox', od', J'⟩ := obj_inst I hp'
          refine go (.ref (W.clsA c')) J'.type ?_ e
          unfold PySem.W.notFirst
          rcases hcc with rfl | hcc
          · simp
          · have := ((O.ct.sub _ _ hl').own _ _ hl).2
            rw [K.hK, this, hcc]; simp
        · exact e.elim
      · exact e.elim
    · split at e
      · rename_i hpl
        obtain ⟨T, hT, hlk⟩ := plain_type K I r' ru' hpl
        refine go (.type T) hlk ?_ e
        unfold PySem.W.notFirst
        rw [K.hK, (CK.of T hT).2]; simp
      · exact e.elim
  · exact e.elim
theorem cmpO_snd (K : CtxOk W Wx m X) (O : COk W n C) (hn : n + 2 ≤ m) (op : CmpOp) : OpR X (compareOp op) (v2 W (cmpO C op)) := by
  rintro pins s σ H x y v u Q I rx ry ⟨c, a, b, Wy, S, rfl, sim, ra, rb, e⟩
  unfold cmpO at e
  split at e
  · exact eqO_snd K O hn I sim ra rb rx ry rfl e
  · rename_i k ks vs
    split at e
    · rename_i g hg
      obtain ⟨hc, hm⟩ := O.ct.meth _ _ _ hg
      rw [O.ct.nms.2.2.2.2] at hm
      obtain ⟨p, dx, fs, rfl, hp⟩ := rep_obj rb
      obtain rfl : u = Value.ref p := ry
      obtain ⟨ox, od, J⟩ := obj_inst I hp
      obtain ⟨mm, hF⟩ := I.fr
      refine PySem.W.in_K hF I.ok.mod.kin J (by rw [K.hK]; exact hm.at_) (by rw [K.hK]; exact hm.fn) ?_
      refine thn (run_noexc K O (K.room.mono (by omega)) (O.ct.nkm _ _ _ hg) (vs := [.ref p, x]) I I.env0 sim (.cons rb (.cons ra .nil)) (.cons rfl (.cons rx .nil)) (back_B (pins := pins) (S := σ) e)) fun w s' ⟨z, H', I', rz, kk, ez, q⟩ => ?_
      subst ez
      cases (show w = Value.bool kk from rz)
      exact wpAny_pure ⟨.bl kk, H', I', rfl, q⟩
    · exact e.elim
  · exact cmp_snd K.room.units K.hK op pins s σ _ x y v u Q I rx ry ⟨c, a, b, Wy, S, rfl, sim, ra, rb, e⟩
/-! ### built-ins of own instances -/
def rBltO (W : Wd) (C : Orc) (b : B) : List V → Hp → VK → Prop := fun xs H Q => ∃ (c : Cf) (as : List AV) (Wx : WX) (S : L2.St), c.H = H ∧ Sim W c ∧ Reps W c xs as ∧ End W Wx S c (Rep W) Q (bltO C b as c.h)
theorem reps1 {c : Cf} {vs : List V} {x : AV} (r : Reps W c vs [x]) : ∃ v, vs = [v] ∧ Rep W c v x := by
  cases r with
  | cons h1 h2 => cases h2; exact ⟨_, rfl, h1⟩
theorem reps2 {c : Cf} {vs : List V} {x y : AV} (r : Reps W c vs [x, y]) : ∃ v w, vs = [v, w] ∧ Rep W c v x ∧ Rep W c w y := by
  cases r with
  | cons h1 h2 => obtain ⟨w, rfl, h3⟩ := reps1 h2; exact ⟨_, _, rfl, h1, h3⟩
/-- the type of what isinstance is asked of -/
theorem rep_tyX (O : COk W n C) {c : Cf} {v : V} {x : AV} (r : Rep W c v x) : (plainV x = true → ∃ T ∈ tyL, tyN x = some T ∧ TyX W.K c.H v (.type T)) ∧ (∀ k ks vs l, x = .obj k ks vs → C.ct.sub.lookup k = some l → TyX W.K c.H v (.ref (W.clsA k))) := by
  refine ⟨fun hp => ?_, fun k ks vs l hx hl => ?_⟩
  · cases q : tyN x with
    | none => cases x <;> simp [tyN, plainV] at q hp
    | some T => exact ⟨T, by have := tyN_mem q; exact this, rfl, r.tyX q⟩
  · subst hx
    obtain ⟨p, dx, fs, rfl, hp⟩ := rep_obj r
    have CK := O.ct.sub _ _ hl
    exact .base (.ins hp CK.cl CK.ha CK.hn CK.htk CK.hm)
theorem isi1_snd (O : COk W n C) {c : Cf} {v w : V} {x t : AV} {b : Bool} (r : Rep W c v x) (rt : Rep W c w t) (h : isi1 C x t = some b) : ∃ ty u, ClsV w u ∧ TyX W.K c.H v ty ∧ PySem.W.kitOne W.K ty u = some b ∧ ∀ {w' : V} {t' : AV} {b' : Bool}, Rep W c w' t' → isi1 C x t' = some b' → ∃ u', ClsV w' u' ∧ PySem.W.kitOne W.K ty u' = some b' := by
  have key : ∃ ty, TyX W.K c.H v ty ∧ ∀ {w' : V} {t' : AV} {b' : Bool}, Rep W c w' t' → isi1 C x t' = some b' → ∃ u', ClsV w' u' ∧ PySem.W.kitOne W.K ty u' = some b' := by
    cases hpl : plainV x with
    | true =>
      obtain ⟨T, hT, hty, hX⟩ := (rep_tyX O r).1 hpl
      refine ⟨.type T, hX, fun {w' t' b'} rt' h' => ?_⟩
      cases rt' with
      | ty T' =>
        refine ⟨.type T', .ty T', ?_⟩
        have h' : isTy x T' = some b' := by
          cases x <;> first | exact h' | simp [plainV] at hpl
        unfold isTy at h'
        rw [hty] at h'
        simp only at h'
        split at h'
        · rename_i hm
          cases h'
          exact kit_ty (kitB_all T hT T' (by simp only [List.mem_cons, List.not_mem_nil, or_false]; exact hm))
        · cases h'
      | cls k' =>
        refine ⟨.ref (W.clsA k'), .own _, ?_⟩
        unfold isi1 at h'
        simp only at h'
        split at h'
        · rename_i l hl
          have hb : b' = false := by
            cases x <;> first | (simp [plainV] at hpl; done) | (simp [plainV] at h'; exact h')
          subst hb
          exact ((O.ct.sub _ _ hl).of T hT).1
        · cases h'
      | _ => simp [isi1] at h'
    | false =>
      cases x with
      | obj k ks vs =>
        cases hl : C.ct.sub.lookup k with
        | none =>
          exfalso
          unfold isi1 at h
          cases rt <;> simp [hl] at h
          split at h <;> cases h
        | some l =>
          have CK := O.ct.sub _ _ hl
          refine ⟨.ref (W.clsA k), (rep_tyX O r).2 k ks vs l rfl hl, fun {w' t' b'} rt' h' => ?_⟩
          cases rt' with
          | ty T' =>
            refine ⟨.type T', .ty T', ?_⟩
            simp only [isi1] at h'
            split at h'
            · rename_i hm
              cases h'
              exact CK.bin T' (by simp only [ty5, List.mem_cons, List.not_mem_nil, or_false]; exact hm.2)
            · cases h'
          | cls k' =>
            refine ⟨.ref (W.clsA k'), .own _, ?_⟩
            simp only [isi1] at h'
            split at h'
            · rename_i l' hl'
              rw [hl] at h'
              cases h'
              exact (CK.own _ _ hl').1
            · cases h'
          | _ => simp [isi1] at h'
      | _ =>
        exfalso
        first
        | (simp [plainV] at hpl; done)
        | (cases rt <;> simp [isi1, isTy, tyN, plainV] at h <;> (split at h <;> cases h))
  obtain ⟨ty, hX, hk⟩ := key
  obtain ⟨u, h1, h2⟩ := hk rt h
  exact ⟨ty, u, h1, hX, h2, fun rt' h' => hk rt' h'⟩
theorem isiA_snd (O : COk W n C) {c : Cf} {x : AV} {ty : Value} (hk : ∀ {w' : V} {t' : AV} {b' : Bool}, Rep W c w' t' → isi1 C x t' = some b' → ∃ u', ClsV w' u' ∧ PySem.W.kitOne W.K ty u' = some b') : ∀ {ts : List AV} {ws : List V} {its : List Value} {b : Bool}, Reps W c ws ts → Vals ws its → isiA C x ts = some b → PySem.W.kitAny W.K ty its = some b
  | [], _, _, _, .nil, .nil, h => by simp [isiA] at h; subst h; rfl
  | t :: ts, _, _, b, .cons r1 r2, .cons q1 q2, h => by
    simp only [isiA] at h
    split at h
    · rename_i h1
      cases h
      obtain ⟨u', k1, k2⟩ := hk r1 h1
      have := k1.eq q1
      subst this
      simp only [PySem.W.kitAny, k2]
    · rename_i h1
      obtain ⟨u', k1, k2⟩ := hk r1 h1
      have := k1.eq q1
      subst this
      simp only [PySem.W.kitAny, k2]
      exact isiA_snd O hk r2 q2 h
    · cases h
theorem isiA_first (O : COk W n C) {c : Cf} {v : V} {x : AV} {b : Bool} (r : Rep W c v x) : ∀ {ts : List AV} {ws : List V}, Reps W c ws ts → isiA C x ts = some b → ts ≠ [] → ∃ ty, TyX W.K c.H v ty ∧ ∀ {w' : V} {t' : AV} {b' : Bool}, Rep W c w' t' → isi1 C x t' = some b' → ∃ u', ClsV w' u' ∧ PySem.W.kitOne W.K ty u' = some b'
  | [], _, _, _, hne => absurd rfl hne
  | t :: ts, _, .cons r1 r2, h, _ => by
    simp only [isiA] at h
    split at h
    · rename_i h1
      obtain ⟨ty, u, _, hX, _, hk⟩ := isi1_snd O r r1 h1
      exact ⟨ty, hX, hk⟩
    · rename_i h1
      obtain ⟨ty, u, _, hX, _, hk⟩ := isi1_snd O r r1 h1
      exact ⟨ty, hX, hk⟩
    · cases h
theorem bltO_snd (K : CtxOk W Wx m X) (O : COk W n C) (hn : n + 2 ≤ m) (b : B) : CallR X (bV b) (rBltO W C b) := by
  rintro pins s σ H xs us Q I r ⟨c, as, Wy, S, rfl, sim, rs, e⟩
  unfold bltO at e
  split at e
  · -- len
    rename_i k ks vs
    split at e
    · rename_i g hg
      obtain ⟨hc, hm⟩ := O.ct.meth _ _ _ hg
      rw [O.ct.nms.2.1] at hm
      obtain ⟨v, rfl, rv⟩ := reps1 rs
      obtain ⟨p, dx, fs, rfl, hp⟩ := rep_obj rv
      obtain ⟨u1, rfl, r1⟩ := vals1 r
      obtain rfl : u1 = Value.ref p := r1
      obtain ⟨ox, od, J⟩ := obj_inst I hp
      obtain ⟨mm, hF⟩ := I.fr
      refine PySem.W.len_K hF I.ok.mod.kin J (by rw [K.hK]; exact hm.at_) (by rw [K.hK]; exact hm.fn) ?_
      refine thn (run_noexc K O (K.room.mono (show n + 1 ≤ m by omega)).in1 (O.ct.nkm _ _ _ hg) (vs := [.ref p]) (Q := fun v H => ∃ i, v = .int i ∧ (0 ≤ i ∧ i < 2 ^ 63) ∧ Q (.int i) H) I I.env0.in1 sim (.cons rv .nil) (.cons rfl .nil) (End.bind e fun a c1 w _ s1 x1 r1 e1 => ?_)) fun w s' ⟨z, H', I', rz, i, ez, hi, q⟩ => ?_
      · obtain ⟨i, hv, ha, e2⟩ := asI_snd e1 r1
        obtain ⟨g2, e2⟩ := e2.ok1
        simp only [Bool.and_eq_true, decide_eq_true_eq] at g2
        exact ⟨i, hv, ⟨g2.1, by omega⟩, e2.here s1 (.int i)⟩
      · subst ez
        obtain ⟨t, z⟩ := (show ∃ t, w = Value.int i t from rz)
        cases z
        exact ⟨hi, .int i, H', I'.tok _, ⟨_, rfl⟩, q⟩
    · exact e.elim
  · -- bool
    rename_i k ks vs
    split at e
    · rename_i g hg
      obtain ⟨hc, hm⟩ := O.ct.meth _ _ _ hg
      rw [O.ct.nms.2.2.1] at hm
      obtain ⟨v, rfl, rv⟩ := reps1 rs
      obtain ⟨p, dx, fs, rfl, hp⟩ := rep_obj rv
      obtain ⟨u1, rfl, r1⟩ := vals1 r
      obtain rfl : u1 = Value.ref p := r1
      obtain ⟨ox, od, J⟩ := obj_inst I hp
      obtain ⟨mm, hF⟩ := I.fr
      refine callType_newIn (S := fun A R s => wpAny (model X.prog X.w) A.in1 (truthy (.ref p)) (fun b s' => R (.ok (.ret (.bool b))) s') (fun e s' => R (.error e) s') s) F.called_bool F.newNe_bool (F.typeCall_bool_1 _) (F.newCall_bool_1 _) (fun obj => F.args_object_init_2 obj _) F.entry_bool_new (fun A R s h => ?_) ?_
      · have f1 := F.conv_sub_bool
        unfold Builtin.«bool.__new__»
        refine wpAny_bind (m := isType (.type "bool")) (wpAny_pure ?_)
        simp only [Bool.not_true, Bool.false_eq_true, if_false]
        rw [f1]
        refine wpAny_bind (wpAny_pure ?_)
        simp only [Bool.not_true, Bool.false_eq_true, if_false]
        refine wpAny_bind (m := someArgs "bool" 0 1 _) (wpAny_pure ?_)
        exact wpAny_bind (wpAny_mono h (fun b s' hb => wpAny_pure hb) fun _ _ z => z)
      · refine PySem.W.truthy_K hF I.ok.mod.kin J (by rw [K.hK]; exact hm.at_) (by rw [K.hK]; exact hm.fn) ?_
        refine thn (run_noexc K O (K.room.mono hn).in1.in1 (O.ct.nkm _ _ _ hg) (vs := [.ref p]) I I.env0.in1.in1 sim (.cons rv .nil) (.cons rfl .nil) (back_B (pins := pins) (S := σ) e)) fun w s' ⟨z, H', I', rz, kk, ez, q⟩ => ?_
        subst ez
        cases (show w = Value.bool kk from rz)
        exact ⟨rfl, .bl kk, H', I', rfl, q⟩
    · exact e.elim
  · -- repr
    rename_i k ks vs
    split at e
    · rename_i g hg
      obtain ⟨hc, hm⟩ := O.ct.meth _ _ _ hg
      rw [O.ct.nms.2.2.2.1] at hm
      obtain ⟨v, rfl, rv⟩ := reps1 rs
      obtain ⟨p, dx, fs, rfl, hp⟩ := rep_obj rv
      obtain ⟨u1, rfl, r1⟩ := vals1 r
      obtain rfl : u1 = Value.ref p := r1
      obtain ⟨ox, od, J⟩ := obj_inst I hp
      obtain ⟨mm, hF⟩ := I.fr
      refine PySem.W.repr_K (K.room.mono (show n + 1 ≤ m by omega)).in1.units0 hF I.ok.mod.kin J (by rw [K.hK]; exact hm.at_) (by rw [K.hK]; exact hm.fn) ?_
      refine thn (run_noexc K O (K.room.mono (show n + 1 ≤ m by omega)).in1 (O.ct.nkm _ _ _ hg) (vs := [.ref p]) (Q := fun v H => ∃ i, v = .str i ∧ Q (.str i) H) I I.env0.in1 sim (.cons rv .nil) (.cons rfl .nil) (End.bind e fun a c1 w _ s1 x1 r1 e1 => ?_)) fun w s' ⟨z, H', I', rz, i, ez, q⟩ => ?_
      · cases r1 <;> first | exact e1.elim | exact ⟨_, rfl, e1.here s1 (.str _)⟩
      · subst ez
        obtain ⟨t, z⟩ := (show ∃ t, w = Value.str i t from rz)
        cases z
        exact ⟨.str i, H', I', ⟨t, rfl⟩, q⟩
    · exact e.elim
  · rename_i x T
    obtain ⟨a, h1, e⟩ := End.of e
    simp only [Option.map_eq_some_iff] at h1
    obtain ⟨bb, h1, rfl⟩ := h1
    obtain ⟨v, w, rfl, r1, r2⟩ := reps2 rs
    obtain ⟨ty, u, k1, k2, k3, _⟩ := isi1_snd O r1 r2 h1
    exact call_isi pins s σ _ _ us Q I r ⟨v, w, ty, u, bb, rfl, k1, by rw [K.hK]; exact k2, by rw [K.hK]; exact k3, e.here sim (.bl bb)⟩
  · rename_i x k
    obtain ⟨a, h1, e⟩ := End.of e
    simp only [Option.map_eq_some_iff] at h1
    obtain ⟨bb, h1, rfl⟩ := h1
    obtain ⟨v, w, rfl, r1, r2⟩ := reps2 rs
    obtain ⟨ty, u, k1, k2, k3, _⟩ := isi1_snd O r1 r2 h1
    exact call_isi pins s σ _ _ us Q I r ⟨v, w, ty, u, bb, rfl, k1, by rw [K.hK]; exact k2, by rw [K.hK]; exact k3, e.here sim (.bl bb)⟩
  · rename_i x ts
    split at e
    · exact e.elim
    rename_i hne
    obtain ⟨a, h1, e⟩ := End.of e
    simp only [Option.map_eq_some_iff] at h1
    obtain ⟨bb, h1, rfl⟩ := h1
    obtain ⟨v, w, rfl, r1, r2⟩ := reps2 rs
    obtain ⟨u1, u2, rfl, q1, q2⟩ := vals2 r
    cases r2 with
    | tup h2 r3 =>
      rename_i p vs
      cases (show u2 = Value.ref p from q2)
      obtain ⟨its, rv, ⟨o, ho, hc, nn, hd⟩, _⟩ := I.tuple (show SqT X.K c.H p vs by rw [K.hK]; exact h2.sq)
      obtain ⟨oc, od, dt, sl⟩ := o
      simp only at hc hd
      subst hc hd
      obtain ⟨ty, hX, hk⟩ := isiA_first O r1 r3 h1 (fun z => hne (by rw [z]; rfl))
      have hX' : TyX X.K c.H v ty := by rw [K.hK]; exact hX
      obtain ⟨P, Z, pp, hx⟩ := kit_of I q1 hX'
      have hka := isiA_snd O hk r3 rv h1
      exact PySem.W.kia_tup Z I.kIn pp ho (by rw [K.hK]; exact hka) hx fun tk => ⟨.bl bb, c.H, I.tok tk, rfl, e.here sim (.bl bb)⟩
  · exact blt_snd K.calm K.hK b pins s σ _ xs us Q I r ⟨c, as, Wy, S, rfl, sim, rs, e⟩
variable {a b d : Expr} {ia ib id : E} {pos : Pos} {es : List Expr}
theorem snd_cmp (K : CtxOk W Wx m X) (O : COk W n C) (hn : n + 2 ≤ m) {op : CmpOp} (ha : SndE W Wx X C a ia) (hb : SndE W Wx X C b ib) (hm : behindInMarks op b = false) : SndE W Wx X C (.Compare a [op] [b] pos) (.cmp op ia ib) := fun c S σ Q sim l e => by
  refine wE_of (pe_cmpR (cmpO_snd K O hn op) pe_w pe_w hm) (ha c S σ _ sim l (End.bind e fun x c1 v _ s1 x1 r1 e1 => ?_))
  exact hb c1 S σ _ s1 (l.to x1) (End.bind e1 fun y c2 w _ s2 x2 r2 e2 => ⟨c2, x, y, Wx, S, rfl, s2, r1.to x2, r2, e2⟩)
theorem sndT_cmp (K : CtxOk W Wx m X) (O : COk W n C) (hn : n + 2 ≤ m) {op : CmpOp} (ha : SndE W Wx X C a ia) (hb : SndE W Wx X C b ib) (hm : behindInMarks op b = false) : SndT W Wx X C (.Compare a [op] [b] pos) (.cmp op ia ib) := fun c S σ Q sim l e => by
  refine wT_of (pt_cmpR (cmpO_snd K O hn op) pe_w pe_w hm) (ha c S σ _ sim l (End.bind e fun x c1 v _ s1 x1 r1 e1 => ?_))
  refine hb c1 S σ _ s1 (l.to x1) (End.bind e1 fun y c2 w _ s2 x2 r2 e2 => ⟨c2, x, y, Wx, S, rfl, s2, r1.to x2, r2, End.bind e2 fun r c3 z _ s3 x3 r3 e3 => ?_⟩)
  cases r3 <;> first | exact e3.elim | exact ⟨_, rfl, e3.here s3 rfl⟩
theorem snd_chn (K : CtxOk W Wx m X) (O : COk W n C) (hn : n + 2 ≤ m) {op op' : CmpOp} (ha : SndE W Wx X C a ia) (hb : SndE W Wx X C b ib) (hd : SndE W Wx X C d id) (hm : behindInMarks op' d = false) :
    SndE W Wx X C (.Compare a [op, op'] [b, d] pos) (.chn op op' ia ib id) := fun c S σ Q sim l e => by
  refine wE_of (pe_chain (cmpO_snd K O hn op) (cmpO_snd K O hn op') pe_w pe_w pe_w hm) (ha c S σ _ sim l (End.bind e fun x c1 v _ s1 x1 r1 e1 => ?_))
  refine hb c1 S σ _ s1 (l.to x1) (End.bind e1 fun y c2 w _ s2 x2 r2 e2 => ⟨c2, x, y, Wx, S, rfl, s2, r1.to x2, r2, End.bind e2 fun r c3 z _ s3 x3 r3 e3 => ?_⟩)
  obtain ⟨k, hz, hr, e3⟩ := asB_snd e3 r3
  refine ⟨k, hz, ?_⟩
  cases k with
  | true =>
    rw [if_pos rfl] at e3 ⊢
    exact hd c3 S σ _ s3 (l.to (x1.trans (x2.trans x3))) (End.bind e3 fun q c4 u _ s4 x4 r4 e4 => ⟨c4, y, q, Wx, S, rfl, s4, r2.to (x3.trans x4), r4, e4⟩)
  | false =>
    rw [if_neg (by decide)] at e3 ⊢
    exact e3.here s3 (.bl false)
theorem sndT_chn (K : CtxOk W Wx m X) (O : COk W n C) (hn : n + 2 ≤ m) {op op' : CmpOp} (ha : SndE W Wx X C a ia) (hb : SndE W Wx X C b ib) (hd : SndE W Wx X C d id) (hm : behindInMarks op' d = false) :
    SndT W Wx X C (.Compare a [op, op'] [b, d] pos) (.chn op op' ia ib id) := fun c S σ Q sim l e => by
  refine wT_of (pt_chain (cmpO_snd K O hn op) (cmpO_snd K O hn op') pe_w pe_w pe_w hm) (ha c S σ _ sim l (End.bind e fun x c1 v _ s1 x1 r1 e1 => ?_))
  refine hb c1 S σ _ s1 (l.to x1) (End.bind e1 fun y c2 w _ s2 x2 r2 e2 => ⟨c2, x, y, Wx, S, rfl, s2, r1.to x2, r2, End.bind e2 fun r c3 z _ s3 x3 r3 e3 => ?_⟩)
  obtain ⟨k, hz, hr, e3⟩ := asB_snd e3 r3
  refine ⟨k, hz, ?_⟩
  cases k with
  | true =>
    rw [if_pos rfl] at e3 ⊢
    refine hd c3 S σ _ s3 (l.to (x1.trans (x2.trans x3))) (End.bind e3 fun q c4 u _ s4 x4 r4 e4 => ⟨c4, y, q, Wx, S, rfl, s4, r2.to (x3.trans x4), r4, End.bind e4 fun r c5 z _ s5 x5 r5 e5 => ?_⟩)
    cases r5 <;> first | exact e5.elim | exact ⟨_, rfl, e5.here s5 rfl⟩
  | false =>
    rw [if_neg (by decide)] at e3 ⊢
    exact ⟨false, rfl, e3.here s3 rfl⟩
theorem snd_blt (K : CtxOk W Wx m X) (O : COk W n C) (hn : n + 2 ≤ m) (bb : B) {p : Pos} (ha : SndA W Wx X C (a :: es) ia) (hg : Gl X (bN bb)) (hm : X.mg (bN bb) = none) (hs : ∀ e ∈ a :: es, ∀ x q, e ≠ .Starred x q) :
    SndE W Wx X C (.Call (.Name (bN bb) p) (a :: es) [] pos) (.blt bb ia) := fun c S σ Q sim l e => by
  have h1 : starEach (a :: es) X.env = (false, eval a X.env) :: starEach es X.env := by
    have h1 := hs a List.mem_cons_self
    cases a <;> first | rfl | exact absurd rfl (h1 _ _)
  have h2 : (backTo pos (starEach es X.env)).any (·.1) = false := notStar_any fun e he => hs e (List.mem_cons_of_mem _ he)
  have key : tCB (rBltO W C bb) (wA X (a :: es)) S c.H Q := ha c S σ _ sim l (End.bind e fun xs c1 vs _ s1 x1 r1 e1 => ⟨c1, xs, Wx, S, rfl, s1, r1, e1⟩)
  have hB := bN_boot bb
  cases hv : bV bb with
  | builtin id => exact wE_of (pe_callB (by rw [← hv]; exact bltO_snd K O hn bb) hg hm (by rw [hB, hv]) pa_w (bN_name bb) (bN_dbg bb) h1 h2) key
  | type T => exact wE_of (pe_callTy (by rw [← hv]; exact bltO_snd K O hn bb) hg hm (by rw [hB, hv]) pa_w (bN_name bb) (bN_dbg bb) h1 h2) key
  | _ => cases bb <;> cases hv
end
end NT
set_option linter.all false
set_option maxRecDepth 100000
set_option autoImplicit false
namespace NT
open PySem PySem.Spec PyProof.Rows L2
def noStar (e : Expr) : Prop := ∀ x q, e ≠ .Starred x q
theorem noStar.each {a : Expr} {es : List Expr} {env : Env} (h : noStar a) : starEach (a :: es) env = (false, eval a env) :: starEach es env := by
  cases a <;> first | rfl | exact absurd rfl (h _ _)
section
variable {W : Wd} {Wx : WX} {X : Cx} {C : Orc} {n : Nat} {a b d tg : Expr} {ia ib id : E} {pos p : Pos}
theorem rngL_get {i j : Int} {k : Nat} {x : AV} (h : (rngL i j)[k]? = some x) : x = .int (i + (k : Nat)) := by
  unfold rngL at h
  rw [List.getElem?_map] at h
  cases q : (List.range (j - i).toNat)[k]? with
  | none => rw [q] at h; cases h
  | some m =>
    rw [q] at h
    cases h
    have := List.getElem?_eq_some_iff.mp q
    obtain ⟨_, e⟩ := this
    rw [List.getElem_range] at e
    rw [e]
theorem walkA_range {c : Cf} {i j : Int} : WalkA W c (Itr i (j - i).toNat) (rngL i j) := by
  have hl : (rngL i j).length = (j - i).toNat := by unfold rngL; rw [List.length_map, List.length_range]
  refine ⟨fun _ => True, _, by rw [hl]; exact walk_range, fun _ _ => trivial, fun k c' v H' x hx s' _ y => ?_⟩
  obtain ⟨e1, e2⟩ := y
  subst e1
  refine ⟨s', Ext.refl c', ?_⟩
  rw [rngL_get hx, e2]
  exact .int _
theorem rngOk_all {i j : Int} (h : rngOk i j = true) : -(2 ^ 62) ≤ i ∧ i < 2 ^ 62 ∧ -(2 ^ 62) ≤ j ∧ j < 2 ^ 62 := by
  unfold rngOk at h
  simp only [Bool.and_eq_true, decide_eq_true_eq] at h
  exact ⟨h.1.1.1, h.1.1.2, h.1.2, h.2⟩
theorem sndI_rng1 (ha : SndE W Wx X C a ia) (hs : noStar a) (hg : Gl X "range") (hm : X.mg "range" = none) : SndI W Wx X C tg (.Call (.Name "range" p) [a] [] pos) (.rng (.cst (.int 0)) ia) := fun c S σ R sim l e => by
  refine wI_of (pi_range1 hg hm (pa_cons pe_w pa_nil hs.each) hs.each) (ha c S σ _ sim l (End.bind (m := ev C σ ia) (f := fun y => match AV.int 0, y with | .int i, .int j => ok1 (rngOk i j) (rngL i j) | _, _ => M.bad) e fun y c1 v _ s1 x1 r1 e1 => ?_))
  cases r1 <;> try exact e1.elim
  rename_i j _
  obtain ⟨g, e1⟩ := e1.ok1
  obtain ⟨_, _, h3, h4⟩ := rngOk_all g
  refine ⟨j, rfl, h3, h4, e1.here s1 ?_⟩
  have z := walkA_range (W := W) (c := c1) (i := 0) (j := j)
  rw [Int.sub_zero] at z
  exact z
theorem sndI_rng2 (ha : SndE W Wx X C a ia) (hb : SndE W Wx X C b ib) (hs : noStar a) (hs2 : noStar b) (hg : Gl X "range") (hm : X.mg "range" = none) : SndI W Wx X C tg (.Call (.Name "range" p) [a, b] [] pos) (.rng ia ib) := fun c S σ R sim l e => by
  have h2 : starEach [b] X.env = [(false, eval b X.env)] := hs2.each
  refine wI_of (pi_range2 hg hm (pa_cons pe_w (pa_cons pe_w pa_nil h2) hs.each) (by rw [hs.each, h2]) h2) (ha c S σ _ sim l (End.bind e fun x c1 v _ s1 x1 r1 e1 => ?_))
  refine hb c1 S σ _ s1 (l.to x1) (End.bind e1 fun y c2 w _ s2 x2 r2 e2 => ?_)
  cases r1 <;> try exact e2.elim
  cases r2 <;> try exact e2.elim
  obtain ⟨g, e2⟩ := End.ok1 e2
  exact ⟨_, _, rfl, rngOk_all g, e2.here s2 walkA_range⟩
theorem walkA_lst {c : Cf} {p : Addr} {vs : List V} {xs : List AV} {K : PySem.W.Frag} (hK : K = W.K) (h : FzL W.K c p vs) (r : Reps W c vs xs) : WalkA W c (Itl K p) xs := by
  subst hK
  refine ⟨_, _, by rw [← r.length]; exact walk_list (xs := vs), fun c' x => (h.ext x).sq, fun i c' v H' z hz s' x y => ?_⟩
  obtain ⟨e1, e2⟩ := y
  subst e1
  obtain ⟨w, h1, h2⟩ := r.get hz
  rw [h1] at e2; cases e2
  exact ⟨s', Ext.refl c', h2.to0 x⟩
theorem walkA_tup {c : Cf} {p : Addr} {vs : List V} {xs : List AV} {K : PySem.W.Frag} (hK : K = W.K) (h : FzT W.K c p vs) (r : Reps W c vs xs) : WalkA W c (Itt K p) xs := by
  subst hK
  refine ⟨_, _, by rw [← r.length]; exact walk_tup (xs := vs), fun c' x => (h.ext x).sq, fun i c' v H' z hz s' x y => ?_⟩
  obtain ⟨e1, e2⟩ := y
  subst e1
  obtain ⟨w, h1, h2⟩ := r.get hz
  rw [h1] at e2; cases e2
  exact ⟨s', Ext.refl c', h2.to0 x⟩
theorem walkA_str {c : Cf} {z : Str} : WalkA W c (Its z) (z.cps.toList.map chr1) := by
  refine ⟨_, _, by rw [List.length_map, Array.length_toList]; exact walk_str, fun _ _ => trivial, fun i c' v H' x hx s' _ y => ?_⟩
  obtain ⟨e1, k, h1, h2⟩ := y
  subst e1
  refine ⟨s', Ext.refl c', ?_⟩
  rw [List.getElem?_map, Array.getElem?_toList, h1] at hx
  cases hx
  subst h2
  exact .str _
theorem sndI_itv (K : CtxOk W Wx n X) (ha : SndE W Wx X C a ia) : SndI W Wx X C tg a (.itv ia) := fun c S σ R sim l e => by
  cases hx : ev C σ ia c.h with
  | bad =>
    have e : End W Wx S c (WalkA W) R (M.bind (ev C σ ia) (fun x => M.of (items x)) c.h) := e
    unfold M.bind at e
    rw [hx] at e
    exact e.elim
  | exc q ks xs h1 =>
    refine wI_of (pi_list pe_w) (ha c S σ _ sim l (End.bind e fun y c1 v hy => ?_))
    rw [hx] at hy; cases hy
  | ok x h1 =>
    cases x with
    | lst xs =>
      refine wI_of (pi_list pe_w) (ha c S σ _ sim l (End.bind e fun y c1 v hy s1 x1 r1 e1 => ?_))
      rw [hx] at hy; cases hy
      cases r1 with
      | lst hf rs => exact ⟨_, rfl, ⟨_, by rw [K.hK]; exact hf.sq⟩, e1.here s1 (walkA_lst K.hK hf rs)⟩
    | tup xs =>
      refine wI_of (pi_tup pe_w) (ha c S σ _ sim l (End.bind e fun y c1 v hy s1 x1 r1 e1 => ?_))
      rw [hx] at hy; cases hy
      cases r1 with
      | tup hf rs => exact ⟨_, rfl, ⟨_, by rw [K.hK]; exact hf.sq⟩, e1.here s1 (walkA_tup K.hK hf rs)⟩
    | str z =>
      refine wI_of (pi_str pe_w) (ha c S σ _ sim l (End.bind e fun y c1 v hy s1 x1 r1 e1 => ?_))
      rw [hx] at hy; cases hy
      cases r1
      exact ⟨z, rfl, e1.here s1 walkA_str⟩
    | _ =>
      have e : End W Wx S c (WalkA W) R (M.bind (ev C σ ia) (fun x => M.of (items x)) c.h) := e
      unfold M.bind at e
      rw [hx] at e
      exact e.elim
theorem zipW_get {xs ys : List AV} {i : Nat} {a : AV} (h : (List.zipWith (fun x y => AV.tup [x, y]) xs ys)[i]? = some a) : ∃ x y, xs[i]? = some x ∧ ys[i]? = some y ∧ a = .tup [x, y] := by
  rw [List.getElem?_zipWith] at h
  cases h1 : xs[i]? with
  | none => rw [h1] at h; cases h
  | some x =>
    cases h2 : ys[i]? with
    | none => rw [h1, h2] at h; cases h
    | some y => rw [h1, h2] at h; cases h; exact ⟨x, y, rfl, rfl, rfl⟩
theorem pair_new {c c' : Cf} {xs ys : List AV} {vs ws : List V} {i : Nat} {z : AV} {v : V} {H' : Hp} (hz : (List.zipWith (fun x y => AV.tup [x, y]) xs ys)[i]? = some z) (r : Reps W c vs xs) (q : Reps W c ws ys) (s' : Sim W c') (x : Ex0 c c')
    (y : YPair (fun i => vs[i]?) (fun i => ws[i]?) i c'.H v H') : Sim W { c' with H := H' } ∧ Ext c' { c' with H := H' } ∧ Rep W { c' with H := H' } v z := by
  obtain ⟨T, u, w, rfl, hT, rfl, h1, h2⟩ := y
  obtain ⟨a1, a2, e1, e2, rfl⟩ := zipW_get hz
  obtain ⟨u', g1, g2⟩ := r.get e1
  obtain ⟨w', g3, g4⟩ := q.get e2
  have h1 : vs[i]? = some u := h1
  have h2 : ws[i]? = some w := h2
  rw [h1] at g1; cases g1
  rw [h2] at g3; cases g3
  exact ⟨s'.new hT, Ext.new s' hT, Rep.newTup s' hT (.cons (g2.to0 x) (.cons (g4.to0 x) .nil))⟩
theorem walkA_zipL {c : Cf} {p q : Addr} {vs ws : List V} {xs ys : List AV} {K : PySem.W.Frag} (hK : K = W.K) (h : FzL W.K c p vs) (h' : FzL W.K c q ws) (r : Reps W c vs xs) (r' : Reps W c ws ys) : WalkA W c (Itz K p q) (List.zipWith (fun x y => AV.tup [x, y]) xs ys) := by
  subst hK
  refine ⟨_, _, walk_zip (xs := vs) (ys := ws) (by rw [List.length_zipWith, r.length, r'.length]), fun c' x => ⟨(h.ext x).sq, (h'.ext x).sq⟩, fun i c' v H' z hz s' x y => ?_⟩
  exact pair_new hz r r' s' x y
theorem walk_zipT {K : PySem.W.Frag} {a b : Addr} {xs ys : List V} {n : Nat} (hn : n = min xs.length ys.length) : Walk (RZ.ItzT K a b) n (fun H => SqT K H a xs ∧ SqT K H b ys) (YPair (fun i => xs[i]?) (fun i => ys[i]?)) := by
  subst hn
  refine ⟨fun i _ hi q => ?_, fun _ q => ⟨xs, ys, q.1, q.2, by omega⟩, fun i H v H' _ q y => ?_⟩
  · have h1 : i < xs.length := by omega
    have h2 : i < ys.length := by omega
    exact ⟨xs, ys, xs[i], ys[i], q.1, q.2, by simp [h1], by simp [h2]⟩
  · obtain ⟨T, x, z, h1, h2, h3, h4, h5⟩ := y
    exact ⟨T, x, z, h1, h2, h3, h4 xs q.1, h5 ys q.2⟩
theorem walkA_zipT {c : Cf} {p q : Addr} {vs ws : List V} {xs ys : List AV} {K : PySem.W.Frag} (hK : K = W.K) (h : FzT W.K c p vs) (h' : FzT W.K c q ws) (r : Reps W c vs xs) (r' : Reps W c ws ys) : WalkA W c (RZ.ItzT K p q) (List.zipWith (fun x y => AV.tup [x, y]) xs ys) := by
  subst hK
  refine ⟨_, _, walk_zipT (xs := vs) (ys := ws) (by rw [List.length_zipWith, r.length, r'.length]), fun c' x => ⟨(h.ext x).sq, (h'.ext x).sq⟩, fun i c' v H' z hz s' x y => ?_⟩
  exact pair_new hz r r' s' x y
end
end NT
set_option linter.all false
set_option maxRecDepth 100000
set_option autoImplicit false
set_option maxHeartbeats 2000000
namespace NT
open PySem PySem.Spec PyProof.Rows L2
/-! ### zip of a list and a tuple -/
/-- t = true: a tuple, else a list -/
def SIt (t : Bool) (h : Heap) (it l : Addr) (i : Nat) : Prop := match t with
  | true => h.IsTupleIter it l i
  | false => h.IsListIter it l i
def SSq (t : Bool) (h : Heap) (l : Addr) (xs : Array Value) : Prop := match t with
  | true => h.IsTuple l xs
  | false => h.IsList l xs
theorem SIt.but {t : Bool} {h h' : Heap} {a b l : Addr} {i : Nat} (x : SIt t h a l i) (hs : Heap.ExtBut b h h') (n : a ≠ b) : SIt t h' a l i := by
  cases t with
  | true => exact Heap.IsTupleIter.extBut x hs n
  | false => exact Heap.IsListIter.extBut x hs n
theorem SIt.att {t : Bool} {h h' : Heap} {a l : Addr} {i : Nat} (x : SIt t h a l i) (e : ∀ o, h.get? a = some o → h'.get? a = some o) : SIt t h' a l i := by
  cases t with
  | true => exact Heap.IsTupleIter.at x e
  | false => exact Heap.IsListIter.at x e
theorem SIt.ob {t : Bool} {h : Heap} {a l : Addr} {i : Nat} (x : SIt t h a l i) : ∃ o vs, h.get? a = some o ∧ o.data = .fields vs := by
  cases t with
  | true => obtain ⟨o, e, _, d⟩ := x; exact ⟨o, _, e, d⟩
  | false => obtain ⟨o, e, _, d⟩ := x; exact ⟨o, _, e, d⟩
theorem SSq.but {t : Bool} {h h' : Heap} {b l : Addr} {xs : Array Value} (x : SSq t h l xs) (hs : Heap.ExtBut b h h') (n : l ≠ b) : SSq t h' l xs := by
  cases t with
  | true => exact Heap.IsTuple.extBut x hs n
  | false => exact Heap.IsList.extBut x hs n
section
variable {prog : Program} {w : World} {A : Around} {E : Value → Shared → Prop} {s : Shared}
theorem nx_item {t : Bool} {it l : Addr} {i : Nat} {items : Array Value} {x : Value} {Q : Value → Shared → Prop} (hit : SIt t s.heap it l i) (hl : SSq t s.heap l items) (hx : items[i]? = some x)
    (hQ : ∀ h', SIt t h' it l (i + 1) → Heap.SameBut it s.heap h' → Q x { s with heap := h' }) : wpAny (model prog w) A (Builtin.SmallTypes.nextOf (.ref it)) Q E s := by
  cases t with
  | true => exact RZ.nextOf_tuple_item hit hl hx hQ
  | false => exact wpAny_nextOf_list_item hit hl hx hQ
theorem nx_end {t : Bool} {it l : Addr} {i : Nat} {items : Array Value} {Q : Value → Shared → Prop} (hh : A.handled = none) (hit : SIt t s.heap it l i) (hl : SSq t s.heap l items) (hx : items[i]? = none)
    (hE : ∀ h' e, Heap.ExtBut it s.heap h' → (∃ o, h'.get? e = some o ∧ o.cls = .type "StopIteration") → E (.ref e) { s with heap := h' }) : wpAny (model prog w) A (Builtin.SmallTypes.nextOf (.ref it)) Q E s := by
  cases t with
  | true => exact RZ.nextOf_tuple_end hh hit hl hx hE
  | false => exact wpAny_nextOf_list_end hh hit hl hx hE
variable {t u : Bool}
theorem zm_item {z TI TO i1 i2 l1 l2 : Addr} {k1 k2 : Nat} {xs ys : Array Value} {x y a b : Value} {Q : Value → Shared → Prop} (D : ZipApart z TI TO i1 i2 l1 l2)
    (hz : IsZip s.heap z TI TO .none) (hI : IsPair s.heap TI (.ref i1) (.ref i2)) (hO : IsPair s.heap TO a b) (h1 : SIt t s.heap i1 l1 k1) (h2 : SIt u s.heap i2 l2 k2) (q1 : SSq t s.heap l1 xs) (q2 : SSq u s.heap l2 ys) (hx : xs[k1]? = some x) (hy : ys[k2]? = some y)
    (hQ : ∀ h', IsZip h' z TI TO (rawInt s.heap.objs.size) → IsPair h' TO x y → SIt t h' i1 l1 (k1 + 1) → SIt u h' i2 l2 (k2 + 1) → IsPair h' s.heap.objs.size x y → h'.objs.size = s.heap.objs.size + 1 →
      (∀ c o, c ≠ z → c ≠ TO → c ≠ i1 → c ≠ i2 → s.heap.get? c = some o → h'.get? c = some o) → Q (.ref s.heap.objs.size) { s with heap := h' }) :
    wpAny (model prog w) A (Builtin.«zip.__next__» ⟨[.ref z], []⟩) (fun fin s' => ∃ v, fin = .done (.ret v) ∧ Q v s') E s := by
  show wpAny _ _ (field (.ref z) 2 >>= _) _ _ _; refine wpAny_bind (wpAny_field hz rfl (x := .bool false) rfl ?_)
  show wpAny _ _ (field (.ref z) 3 >>= _) _ _ _; refine wpAny_bind (wpAny_field hz rfl (x := .ref TI) rfl (wpAny_bind (wpAny_seqItems hI rfl ?_)))
  show wpAny _ _ (Builtin.SmallTypes.ownedTupleIsFree (.ref z) >>= _) _ _ _; refine wpAny_bind ?_
  unfold Builtin.SmallTypes.ownedTupleIsFree
  refine wpAny_bind (wpAny_field hz rfl (x := .none) rfl (wpAny_pure ?_)); simp only [if_true]
  refine wpAny_bind (wpAny_rule (wpAny_bind (wpAny_field hz rfl (x := .ref TO) rfl (wpAny_bind (wpAny_setField_rec hz (by simp) fun ha za sa => ?_)))))
  replace za : IsZip ha z TI TO .ellipsis := za
  refine wpAny_bind ?_
  simp only [List.zipIdx_cons, List.zipIdx_nil, List.forIn_cons, List.forIn_nil]
  refine wpAny_bind (wpAny_bind (wpAny_onRaise ?_)); show wpAny _ _ (Builtin.SmallTypes.nextOf (.ref i1) >>= _) _ _ _
  refine wpAny_bind (nx_item (h1.but sa.extBut D.i1z) (q1.but sa.extBut D.l1z) hx fun hb i1b sb => wpAny_pure ?_)
  have Ob : IsPair hb TO a b := sb.extBut _ _ D.TOi1 (sa.extBut _ _ D.TOz hO)
  refine wpAny_bind (wpAny_seqItems Ob rfl (wpAny_bind (wpAny_updateSeq_pair Ob fun hc Oc sc => ?_)))
  replace Oc : IsPair hc TO x b := Oc
  refine wpAny_bind (wpAny_letGo (wpAny_pure (wpAny_bind (wpAny_bind (wpAny_onRaise ?_))))); show wpAny _ _ (Builtin.SmallTypes.nextOf (.ref i2) >>= _) _ _ _
  refine wpAny_bind (nx_item (((h2.but sa.extBut D.i2z).but sb.extBut D.i12.symm).but sc.extBut D.TOi2.symm) (((q2.but sa.extBut D.l2z).but sb.extBut D.l2i1).but sc.extBut D.l2TO) hy fun hd i2d sd => wpAny_pure ?_)
  have Od : IsPair hd TO x b := sd.extBut _ _ D.TOi2 Oc
  refine wpAny_bind (wpAny_seqItems Od rfl (wpAny_bind (wpAny_updateSeq_pair Od fun hf Of sf => ?_)))
  replace Of : IsPair hf TO x y := Of
  refine wpAny_bind (wpAny_letGo (wpAny_pure (wpAny_pure (wpAny_bind (wpAny_seqItems Of rfl (wpAny_bind (wpAny_newTuple ?_)))))))
  have sz : hf.objs.size = s.heap.objs.size := by rw [sf.1, sd.1, sc.1, sb.1, sa.1]
  have zf : IsZip hf z TI TO .ellipsis := sf.extBut _ _ D.TOz.symm (sd.extBut _ _ D.i2z.symm (sc.extBut _ _ D.TOz.symm (sb.extBut _ _ D.i1z.symm za)))
  have kf : ∀ c o, c ≠ z → c ≠ TO → c ≠ i1 → c ≠ i2 → s.heap.get? c = some o → hf.get? c = some o := fun c o c1 c2 c3 c4 e => sf.extBut _ _ c2 (sd.extBut _ _ c4 (sc.extBut _ _ c2 (sb.extBut _ _ c3 (sa.extBut _ _ c1 e))))
  have i1f : SIt t hf i1 l1 (k1 + 1) := ((i1b.but sc.extBut D.TOi1.symm).but sd.extBut D.i12).but sf.extBut D.TOi1.symm
  have i2f : SIt u hf i2 l2 (k2 + 1) := i2d.but sf.extBut D.TOi2.symm
  have zl : z < hf.objs.size := Heap.lt_size zf
  show wpAny _ _ (Builtin.SmallTypes.ownedTupleHandOut (.ref z) (.ref hf.objs.size) >>= _) _ _ _; refine wpAny_bind ?_
  unfold Builtin.SmallTypes.ownedTupleHandOut
  have zg : IsZip (hf.push { cls := .type "tuple", data := .seq #[x, y] }) z TI TO .ellipsis := Heap.get?_push_of_some _ zf
  refine wpAny_bind (wpAny_setField_rec zg (by simp) fun hj zj sj => ?_)
  replace zj : IsZip hj z TI TO (rawInt hf.objs.size) := zj
  refine wpAny_setField_rec zj (by simp) fun hk zk sk => ?_
  replace zk : IsZip hk z TI TO (rawInt hf.objs.size) := zk
  have up : ∀ c o, c ≠ z → hf.get? c = some o → hk.get? c = some o := fun c o c1 e => sk.extBut _ _ c1 (sj.extBut _ _ c1 (Heap.get?_push_of_some _ e))
  have Tk : IsPair hk hf.objs.size x y := sk.extBut _ _ (Nat.ne_of_gt zl) (sj.extBut _ _ (Nat.ne_of_gt zl) (Heap.get?_push_size _ rfl))
  have nk : hk.objs.size = hf.objs.size + 1 := by rw [sk.1, sj.1, Heap.size_push]
  rw [sz] at zk Tk nk
  refine wpAny_pure ⟨_, rfl, ?_⟩
  show Q (.ref hf.objs.size) _
  rw [sz]
  exact hQ hk zk (up _ _ D.TOz Of) (i1f.att fun o e => up _ o D.i1z e) (i2f.att fun o e => up _ o D.i2z e) Tk nk fun c o c1 c2 c3 c4 e => up c o c1 (kf c o c1 c2 c3 c4 e)
theorem zm_end {z TI TO i1 i2 l1 l2 : Addr} {k1 k2 : Nat} {xs ys : Array Value} {a b : Value} {Q : Fin → Shared → Prop} (hh : A.handled = none) (D : ZipApart z TI TO i1 i2 l1 l2)
    (hz : IsZip s.heap z TI TO .none) (hI : IsPair s.heap TI (.ref i1) (.ref i2)) (hO : IsPair s.heap TO a b) (h1 : SIt t s.heap i1 l1 k1) (h2 : SIt u s.heap i2 l2 k2) (q1 : SSq t s.heap l1 xs) (q2 : SSq u s.heap l2 ys) (hend : xs[k1]? = none ∨ ys[k2]? = none)
    (hE : ∀ h' e, (∀ c o, c ≠ z → c ≠ TO → c ≠ i1 → c ≠ i2 → s.heap.get? c = some o → h'.get? c = some o) → (∃ o, h'.get? e = some o ∧ o.cls = .type "StopIteration") → E (.ref e) { s with heap := h' }) :
    wpAny (model prog w) A (Builtin.«zip.__next__» ⟨[.ref z], []⟩) Q E s := by
  show wpAny _ _ (field (.ref z) 2 >>= _) _ _ _; refine wpAny_bind (wpAny_field hz rfl (x := .bool false) rfl ?_)
  show wpAny _ _ (field (.ref z) 3 >>= _) _ _ _; refine wpAny_bind (wpAny_field hz rfl (x := .ref TI) rfl (wpAny_bind (wpAny_seqItems hI rfl ?_)))
  show wpAny _ _ (Builtin.SmallTypes.ownedTupleIsFree (.ref z) >>= _) _ _ _; refine wpAny_bind ?_
  unfold Builtin.SmallTypes.ownedTupleIsFree
  refine wpAny_bind (wpAny_field hz rfl (x := .none) rfl (wpAny_pure ?_)); simp only [if_true]
  refine wpAny_bind (wpAny_rule (wpAny_bind (wpAny_field hz rfl (x := .ref TO) rfl (wpAny_bind (wpAny_setField_rec hz (by simp) fun ha za sa => ?_)))))
  replace za : IsZip ha z TI TO .ellipsis := za
  refine wpAny_bind ?_
  simp only [List.zipIdx_cons, List.zipIdx_nil, List.forIn_cons, List.forIn_nil]
  refine wpAny_bind (wpAny_bind (wpAny_onRaise ?_)); show wpAny _ _ (Builtin.SmallTypes.nextOf (.ref i1) >>= _) _ _ _
  cases hx : xs[k1]? with
  | none =>
    refine wpAny_bind (nx_end hh (h1.but sa.extBut D.i1z) (q1.but sa.extBut D.l1z) hx fun hb e sb he => ?_)
    obtain ⟨oe, hoe, hce⟩ := he
    have zb : IsZip hb z TI TO .ellipsis := sb _ _ D.i1z.symm za
    have ez : e ≠ z := fun x => by subst x; rw [zb] at hoe; cases hoe; simp at hce
    exact wpAny_setField_rec zb (by simp) fun hc _ sc => hE hc e (fun c o c1 _ c3 _ x => sc.extBut _ _ c1 (sb _ _ c3 (sa.extBut _ _ c1 x))) ⟨oe, sc.extBut _ _ ez hoe, hce⟩
  | some x =>
    have hy : ys[k2]? = none := hend.resolve_left fun h => by rw [hx] at h; cases h
    refine wpAny_bind (nx_item (h1.but sa.extBut D.i1z) (q1.but sa.extBut D.l1z) hx fun hb i1b sb => wpAny_pure ?_)
    have Ob : IsPair hb TO a b := sb.extBut _ _ D.TOi1 (sa.extBut _ _ D.TOz hO)
    refine wpAny_bind (wpAny_seqItems Ob rfl (wpAny_bind (wpAny_updateSeq_pair Ob fun hc Oc sc => ?_)))
    refine wpAny_bind (wpAny_letGo (wpAny_pure (wpAny_bind (wpAny_bind (wpAny_onRaise ?_))))); show wpAny _ _ (Builtin.SmallTypes.nextOf (.ref i2) >>= _) _ _ _
    refine wpAny_bind (nx_end hh (((h2.but sa.extBut D.i2z).but sb.extBut D.i12.symm).but sc.extBut D.TOi2.symm) (((q2.but sa.extBut D.l2z).but sb.extBut D.l2i1).but sc.extBut D.l2TO) hy fun hd e sd he => ?_)
    obtain ⟨oe, hoe, hce⟩ := he
    have zd : IsZip hd z TI TO .ellipsis := sd _ _ D.i2z.symm (sc.extBut _ _ D.TOz.symm (sb.extBut _ _ D.i1z.symm za))
    have ez : e ≠ z := fun x => by subst x; rw [zd] at hoe; cases hoe; simp at hce
    exact wpAny_setField_rec zd (by simp) fun hf _ sf => hE hf e (fun c o c1 c2 c3 c4 x => sf.extBut _ _ c1 (sd _ _ c4 (sc.extBut _ _ c2 (sb.extBut _ _ c3 (sa.extBut _ _ c1 x))))) ⟨oe, sf.extBut _ _ ez hoe, hce⟩
theorem nxt_item {z TI TO i1 i2 l1 l2 : Addr} {k1 k2 : Nat} {xs ys : Array Value} {x y a b : Value} {Q : Option Value → Shared → Prop} (D : ZipApart z TI TO i1 i2 l1 l2)
    (hz : IsZip s.heap z TI TO .none) (hI : IsPair s.heap TI (.ref i1) (.ref i2)) (hO : IsPair s.heap TO a b) (h1 : SIt t s.heap i1 l1 k1) (h2 : SIt u s.heap i2 l2 k2) (q1 : SSq t s.heap l1 xs) (q2 : SSq u s.heap l2 ys) (hx : xs[k1]? = some x) (hy : ys[k2]? = some y)
    (hQ : ∀ h', IsZip h' z TI TO (rawInt s.heap.objs.size) → IsPair h' TO x y → SIt t h' i1 l1 (k1 + 1) → SIt u h' i2 l2 (k2 + 1) → IsPair h' s.heap.objs.size x y → h'.objs.size = s.heap.objs.size + 1 →
      (∀ c o, c ≠ z → c ≠ TO → c ≠ i1 → c ≠ i2 → s.heap.get? c = some o → h'.get? c = some o) → Q (some (.ref s.heap.objs.size)) { s with heap := h' }) : wpAny (model prog w) A (pyNext (.ref z)) Q E s := by
  have hT : s.TypeIs (.ref z) "zip" := ⟨_, hz, rfl⟩
  unfold pyNext
  exact wpAny_bind (wpAny_attempt (wpAny_callSpecial?_slot (name := Str.ofString "__next__") hT F.slot_zip_next (wpAny_call_entry F.slot_zip_next hT F.entry_zip_next (zm_item D hz hI hO h1 h2 q1 q2 hx hy fun h' a1 a2 a3 a4 a5 a6 a7 => wpAny_pure (hQ h' a1 a2 a3 a4 a5 a6 a7)) (F.args_zip_next_1 _))))
theorem nxt_end {z TI TO i1 i2 l1 l2 : Addr} {k1 k2 : Nat} {xs ys : Array Value} {a b : Value} {Q : Option Value → Shared → Prop} (hh : A.handled = none) (D : ZipApart z TI TO i1 i2 l1 l2)
    (hz : IsZip s.heap z TI TO .none) (hI : IsPair s.heap TI (.ref i1) (.ref i2)) (hO : IsPair s.heap TO a b) (h1 : SIt t s.heap i1 l1 k1) (h2 : SIt u s.heap i2 l2 k2) (q1 : SSq t s.heap l1 xs) (q2 : SSq u s.heap l2 ys) (hend : xs[k1]? = none ∨ ys[k2]? = none)
    (hQ : ∀ h', (∀ c o, c ≠ z → c ≠ TO → c ≠ i1 → c ≠ i2 → s.heap.get? c = some o → h'.get? c = some o) → Q none { s with heap := h' }) : wpAny (model prog w) A (pyNext (.ref z)) Q E s := by
  have hT : s.TypeIs (.ref z) "zip" := ⟨_, hz, rfl⟩
  unfold pyNext
  refine wpAny_bind (wpAny_attempt (wpAny_callSpecial?_slot (name := Str.ofString "__next__") hT F.slot_zip_next (wpAny_call_entry F.slot_zip_next hT F.entry_zip_next (zm_end hh D hz hI hO h1 h2 q1 q2 hend fun h' e hk he => ?_) (F.args_zip_next_1 _))))
  obtain ⟨o, ho, hc⟩ := he
  exact wpAny_bind (wpAny_isInstance (T := "StopIteration") (b := true) ⟨o, ho, hc⟩ isSubtype_stop (wpAny_pure (hQ _ hk)))
end
def itO (t : Bool) (l : Addr) : Obj := { cls := .type (if t then "tuple_iterator" else "list_iterator"), data := .fields #[.ref l, .int 0 0] }
abbrev zmA (t : Bool) (h : Heap) (l1 : Addr) : Heap := h.push (itO t l1)
abbrev zmB (t u : Bool) (h : Heap) (l1 l2 : Addr) : Heap := (zmA t h l1).push (itO u l2)
abbrev zmC (t u : Bool) (h : Heap) (l1 l2 : Addr) : Heap := (zmB t u h l1 l2).push { cls := .type "tuple", data := .seq #[.ref h.objs.size, .ref (zmA t h l1).objs.size] }
abbrev zmD (t u : Bool) (h : Heap) (l1 l2 : Addr) : Heap := (zmC t u h l1 l2).push { cls := .type "tuple", data := .seq #[.none, .none] }
abbrev zmE (t u : Bool) (h : Heap) (l1 l2 : Addr) : Heap := (zmD t u h l1 l2).push { cls := .type "zip", data := .fields #[.none, .bool false, .bool false, .ref (zmB t u h l1 l2).objs.size, .ref (zmC t u h l1 l2).objs.size] }
theorem zm_new (t u : Bool) (l1 l2 : Addr) (xs ys : Array Value) :
    Meets (Builtin.«zip.__new__» ⟨[.type "zip", .ref l1, .ref l2], []⟩) (fun _ R s => SSq t s.heap l1 xs ∧ SSq u s.heap l2 ys ∧ R (.ok (.ret (.ref (zmD t u s.heap l1 l2).objs.size))) { s with heap := zmE t u s.heap l1 l2 }) :=
  .of_wp fun prog w A R s h => by
    obtain ⟨hp, gg, d, tk, os⟩ := s; obtain ⟨q1, q2, h⟩ := h
    have hsub := sub_zip
    cases t with
    | true =>
      have L1 : Heap.IsTuple (Shared.heap ⟨hp, gg, d, tk, os⟩) l1 xs := q1
      cases u with
      | true =>
        have L2 : Heap.IsTuple (Shared.heap ⟨hp.push { cls := .type "tuple_iterator", data := .fields #[.ref l1, .int 0 0] }, gg, d, tk, os⟩) l2 ys := Heap.IsTuple.push q2 _
        wp_walk using wpAny_pyIter_tuple L1, wpAny_pyIter_tuple L2
        exact ⟨_, rfl, h⟩
      | false =>
        have L2 : Heap.IsList (Shared.heap ⟨hp.push { cls := .type "tuple_iterator", data := .fields #[.ref l1, .int 0 0] }, gg, d, tk, os⟩) l2 ys := Heap.IsList.push q2 _
        wp_walk using wpAny_pyIter_tuple L1, wpAny_pyIter_list L2
        exact ⟨_, rfl, h⟩
    | false =>
      have L1 : Heap.IsList (Shared.heap ⟨hp, gg, d, tk, os⟩) l1 xs := q1
      cases u with
      | true =>
        have L2 : Heap.IsTuple (Shared.heap ⟨hp.push { cls := .type "list_iterator", data := .fields #[.ref l1, .int 0 0] }, gg, d, tk, os⟩) l2 ys := Heap.IsTuple.push q2 _
        wp_walk using wpAny_pyIter_list L1, wpAny_pyIter_tuple L2
        exact ⟨_, rfl, h⟩
      | false =>
        have L2 : Heap.IsList (Shared.heap ⟨hp.push { cls := .type "list_iterator", data := .fields #[.ref l1, .int 0 0] }, gg, d, tk, os⟩) l2 ys := Heap.IsList.push q2 _
        wp_walk using wpAny_pyIter_list L1, wpAny_pyIter_list L2
        exact ⟨_, rfl, h⟩
theorem sit0 (t : Bool) {h : Heap} {a l : Addr} (e : h.get? a = some (itO t l)) : SIt t h a l 0 := by
  cases t with
  | true => exact ⟨_, e, rfl, rfl⟩
  | false => exact ⟨_, e, rfl, rfl⟩
section
variable {prog : Program} {w : World} {A : Around} {E : Value → Shared → Prop} {s : Shared}
theorem zm_call {t u : Bool} {l1 l2 : Addr} {xs ys : Array Value} {Q : Value → Shared → Prop} (q1 : SSq t s.heap l1 xs) (q2 : SSq u s.heap l2 ys)
    (h : ∀ h', IsZip h' (s.heap.objs.size + 4) (s.heap.objs.size + 2) (s.heap.objs.size + 3) .none → IsPair h' (s.heap.objs.size + 2) (.ref s.heap.objs.size) (.ref (s.heap.objs.size + 1)) → IsPair h' (s.heap.objs.size + 3) .none .none →
      SIt t h' s.heap.objs.size l1 0 → SIt u h' (s.heap.objs.size + 1) l2 0 → h'.objs.size = s.heap.objs.size + 5 → (∀ c o, s.heap.get? c = some o → h'.get? c = some o) → Q (.ref (s.heap.objs.size + 4)) { s with heap := h' }) :
    wpAny (model prog w) A (call (.type "zip") [.ref l1, .ref l2]) Q E s := by
  refine callType_new F.called_zip (by decide) (F.typeCall_zip_2 _ _) (F.newCall_zip_2 _ _) (fun obj => F.args_object_init_3 obj _ _) F.entry_zip_new (zm_new t u l1 l2 xs ys) ⟨q1, q2, ?_⟩
  have s1 : (zmA t s.heap l1).objs.size = s.heap.objs.size + 1 := Heap.size_push ..
  have s2 : (zmB t u s.heap l1 l2).objs.size = s.heap.objs.size + 2 := by rw [Heap.size_push, s1]
  have s3 : (zmC t u s.heap l1 l2).objs.size = s.heap.objs.size + 3 := by rw [Heap.size_push, s2]
  have s4 : (zmD t u s.heap l1 l2).objs.size = s.heap.objs.size + 4 := by rw [Heap.size_push, s3]
  have s5 : (zmE t u s.heap l1 l2).objs.size = s.heap.objs.size + 5 := by rw [Heap.size_push, s4]
  have p : ∀ {h : Heap} {o : Obj} {b : Addr} {v : Obj}, h.get? b = some v → (h.push o).get? b = some v := fun e => Heap.get?_push_of_some _ e
  have e5 : (zmE t u s.heap l1 l2).get? (zmD t u s.heap l1 l2).objs.size = some _ := Heap.get?_push_size _ rfl
  have e4 : (zmE t u s.heap l1 l2).get? (zmC t u s.heap l1 l2).objs.size = some _ := p (Heap.get?_push_size _ rfl)
  have e3 : (zmE t u s.heap l1 l2).get? (zmB t u s.heap l1 l2).objs.size = some _ := p (p (Heap.get?_push_size _ rfl))
  have e2 : (zmE t u s.heap l1 l2).get? (zmA t s.heap l1).objs.size = some (itO u l2) := p (p (p (Heap.get?_push_size _ rfl)))
  have e1 : (zmE t u s.heap l1 l2).get? s.heap.objs.size = some (itO t l1) := p (p (p (p (Heap.get?_push_size _ rfl))))
  show _ ∧ _
  rw [s2, s3, s4] at e5
  rw [s1, s2] at e3
  rw [s3] at e4
  rw [s1] at e2
  rw [s4]
  exact ⟨⟨_, e5, rfl⟩, h _ e5 e3 e4 (sit0 t e1) (sit0 u e2) s5 fun c o x => p (p (p (p (p x))))⟩
end
/-- a frozen list or tuple in H -/
def SqS (t : Bool) (K : PySem.W.Frag) (H : Hp) (a : Addr) (xs : List V) : Prop := match t with
  | true => SqT K H a xs
  | false => SqL K H a xs
theorem SqS.of {t : Bool} {X : Cx} {pins : List (Addr × Obj)} {σ : L2.St} {H : Hp} {s : Shared} (I : Inv X pins σ H s) {a : Addr} {xs : List V} (h : SqS t X.K H a xs) : ∃ its : List Value, Vals xs its ∧ SSq t s.heap a its.toArray ∧ a < s.heap.objs.size := by
  cases t with
  | true =>
    obtain ⟨its, r, p, _⟩ := I.tuple h
    have p' : s.heap.IsTuple a its.toArray := p
    obtain ⟨o, ho, _⟩ := id p'
    exact ⟨its, r, p', Heap.lt_size ho⟩
  | false =>
    obtain ⟨its, r, p, _⟩ := I.list h
    exact ⟨its, r, p.isList, p.lt⟩
theorem SqS.inj {t : Bool} {X : Cx} {pins : List (Addr × Obj)} {σ : L2.St} {H : Hp} {s : Shared} (I : Inv X pins σ H s) {a : Addr} {xs ys : List V} (h : SqS t X.K H a xs) (h' : SqS t X.K H a ys) : xs = ys := by
  cases t with
  | true => exact I.tuple_inj h h'
  | false => exact I.list_inj h h'
def ItM (t u : Bool) (K : PySem.W.Frag) (a b : Addr) : It :=
  ⟨fun i H => ∃ (xs ys : List V) (x y : V), SqS t K H a xs ∧ SqS u K H b ys ∧ xs[i]? = some x ∧ ys[i]? = some y,
    fun i H v H' => ∃ T x y, v = .ref T ∧ H T = none ∧ H' = upd H T (.tup [x, y]) ∧ (∀ xs, SqS t K H a xs → xs[i]? = some x) ∧ ∀ ys, SqS u K H b ys → ys[i]? = some y,
    fun i H => ∃ xs ys : List V, SqS t K H a xs ∧ SqS u K H b ys ∧ (xs.length ≤ i ∨ ys.length ≤ i)⟩
theorem turn_zm {t u : Bool} {P : Program} {w : World} {K : PySem.W.Frag} {elts : List Expr} {kk : Nat} {tpos : Pos} {a b z TI TO i1 i2 : Addr} (D : ZipApart z TI TO i1 i2 a b) :
    Turn P w K (.Tuple elts kk tpos) (ItM t u K a b) [z, TI, TO, i1, i2] z (fun i h => IsZip h z TI TO .none ∧ IsPair h TI (.ref i1) (.ref i2) ∧ (∃ x y, IsPair h TO x y) ∧ SIt t h i1 a i ∧ SIt u h i2 b i) where
  mem := by simp
  obj := fun i h st c hc => by
    obtain ⟨hz, hI, ⟨x, y, hO⟩, g1, g2⟩ := st
    obtain ⟨o1, v1, e1, d1⟩ := g1.ob
    obtain ⟨o2, v2, e2, d2⟩ := g2.ob
    have e' : c = z ∨ c = TI ∨ c = TO ∨ c = i1 ∨ c = i2 := by simpa using hc
    rcases e' with rfl | rfl | rfl | rfl | rfl
    · exact ⟨_, hz, fun v q => nomatch q⟩
    · exact ⟨_, hI, fun v q => nomatch q⟩
    · exact ⟨_, hO, fun v q => nomatch q⟩
    · exact ⟨o1, e1, fun v q => by rw [d1] at q; cases q⟩
    · exact ⟨o2, e2, fun v q => by rw [d2] at q; cases q⟩
  keep := fun i h h' st k => by
    obtain ⟨hz, hI, ⟨x, y, hO⟩, g1, g2⟩ := st
    exact ⟨k z (by simp) _ hz, k TI (by simp) _ hI, ⟨x, y, k TO (by simp) _ hO⟩, g1.att fun o q => k i1 (by simp) o q, g2.att fun o q => k i2 (by simp) o q⟩
  item := by
    intro X hP hw hK hc i pins s σ H E I hf st hg
    subst hP hw hK
    obtain ⟨hz, hI, ⟨x0, y0, hO⟩, g1, g2⟩ := st
    obtain ⟨xs, ys, x, y, qx, qy, hx, hy⟩ := hg
    obtain ⟨its, rv, p, _⟩ := qx.of I
    obtain ⟨its2, rv2, p2, _⟩ := qy.of I
    obtain ⟨v1, hv1, rv1⟩ := rv.get hx
    obtain ⟨v2, hv2, rv2'⟩ := rv2.get hy
    have hzl : z < s.heap.objs.size := Heap.lt_size hz
    refine nxt_item D hz hI hO g1 g2 p p2 (x := v1) (y := v2) (by simpa using hv1) (by simpa using hv2) fun h' z' O' g1' g2' hT hsz hk => ?_
    refine ⟨_, rfl, wpAny_letOwnedTupleGo_zip (s := { s with heap := h' }) z' fun h'' z'' sb => ?_⟩
    have hT2 : h''.get? s.heap.objs.size = some { cls := .type "tuple", data := .seq #[v1, v2] } := (sb.2 _ (Nat.ne_of_gt hzl)).trans hT
    have new : ObjOk X.prog X.w (upd H s.heap.objs.size (.tup [x, y])) h'' s.heap.objs.size (.tup [x, y]) := ⟨by show 2 ≤ sizeLine; decide, [v1, v2], .cons rv1 (.cons rv2' .nil), ⟨_, hT2, rfl, _, rfl⟩⟩
    have I1 : Inv X pins σ (upd H s.heap.objs.size (.tup [x, y])) { s with heap := h'' } := I.turnedNew (t' := s.toks) (ch := [z, TI, TO, i1, i2])
      (fun c o hb q => (sb.2 c (fun q' => hb (by simp [q']))).trans (hk c o (fun q' => hb (by simp [q'])) (fun q' => hb (by simp [q'])) (fun q' => hb (by simp [q'])) (fun q' => hb (by simp [q'])) q)) hf (Nat.le_refl _) new
    refine ⟨.ref s.heap.objs.size, _, I1, rfl, ⟨_, x, y, rfl, I.hok.fresh (Nat.le_refl _), rfl, fun l hl => by rw [hl.inj I qx]; exact hx, fun l hl => by rw [hl.inj I qy]; exact hy⟩, ⟨z'', ?_, ⟨v1, v2, ?_⟩, ?_, ?_⟩, fun c hcm => ?_⟩
    · exact (sb.2 _ D.TIz).trans (hk _ _ D.TIz D.TITO D.TIi1 D.TIi2 hI)
    · exact (sb.2 _ D.TOz).trans O'
    · exact g1'.att fun o q => (sb.2 _ D.i1z).trans q
    · exact g2'.att fun o q => (sb.2 _ D.i2z).trans q
    · have hlt : c < s.heap.objs.size := by
        obtain ⟨o1, _, e1, _⟩ := g1.ob
        obtain ⟨o2, _, e2, _⟩ := g2.ob
        have e' : c = z ∨ c = TI ∨ c = TO ∨ c = i1 ∨ c = i2 := by simpa using hcm
        rcases e' with rfl | rfl | rfl | rfl | rfl
        · exact hzl
        · exact Heap.lt_size hI
        · exact Heap.lt_size hO
        · exact Heap.lt_size e1
        · exact Heap.lt_size e2
      rw [upd_ne (Nat.ne_of_lt hlt)]
      exact (hf c hcm).1
  done := by
    intro X hP hw hK hc i pins s σ H E I hf st hg
    subst hP hw hK
    obtain ⟨hz, hI, ⟨x0, y0, hO⟩, g1, g2⟩ := st
    obtain ⟨xs, ys, qx, qy, hend⟩ := hg
    obtain ⟨its, rv, p, _⟩ := qx.of I
    obtain ⟨its2, rv2, p2, _⟩ := qy.of I
    have l1 := rv.length
    have l2 := rv2.length
    have he : its.toArray[i]? = none ∨ its2.toArray[i]? = none := hend.imp (fun q => by simp; omega) (fun q => by simp; omega)
    exact nxt_end (I.ok.hd hc) D hz hI hO g1 g2 p p2 he fun h' hk => ⟨rfl, I.turnedL (t' := s.toks) (ch := [z, TI, TO, i1, i2]) (fun c o hb q => hk c o (fun q' => hb (by simp [q'])) (fun q' => hb (by simp [q'])) (fun q' => hb (by simp [q'])) (fun q' => hb (by simp [q'])) q) hf⟩
  self := fun A i s Q E st h => wpAny_pyIter_zip st.1 h
def iZm (K : PySem.W.Frag) (ta : TA) : TI := fun σ H R => ta σ H fun vs H1 => ∃ t u a b xs ys, vs = [.ref a, .ref b] ∧ SqS t K H1 a xs ∧ SqS u K H1 b ys ∧ R (ItM t u K a b) H1
theorem pi_zm {X : Cx} {e e2 : Expr} {ta : TA} {p pos tpos : Pos} {elts : List Expr} {kk : Nat} (hg : Gl X "zip") (hm : X.mg "zip" = none) (ha : PA X [e, e2] ta)
    (hs : starEach [e, e2] X.env = (false, eval e X.env) :: starEach [e2] X.env) (hpl : (backTo pos (starEach [e2] X.env)).any (·.1) = false) : PI X (.Tuple elts kk tpos) (.Call (.Name "zip" p) [e, e2] [] pos) (iZm X.K ta) := by
  refine ⟨fun pins s σ H R I h => ?_⟩
  refine Call_ (ld_blt I hg hm PyProof.Rows.boot_zip (PyProof.Rows.callWith_type1 (thn (ha.run pos pins s σ H _ I h) fun us s1 ⟨vs, H1, I1, r1, q1⟩ => ?_) hs hpl))
  obtain ⟨t, u, a, b, xs, ys, ex, qx, qy, q⟩ := q1
  subst ex
  cases r1 with
  | cons r rr =>
    cases rr with
    | cons r' rr =>
      cases rr
      cases r
      cases r'
      have n := s1.heap.objs.size
      have fresh5 : ∀ c, c ∈ [s1.heap.objs.size + 4, s1.heap.objs.size + 2, s1.heap.objs.size + 3, s1.heap.objs.size, s1.heap.objs.size + 1] → FpOk X pins H1 c := fun c hcm => by
        have hle : s1.heap.objs.size ≤ c := by
          simp only [List.mem_cons, List.not_mem_nil, or_false] at hcm
          omega
        exact I1.fpOk hle (I1.hok.fresh hle)
      obtain ⟨its, rv, p1, lt1⟩ := qx.of I1
      obtain ⟨its2, rv2, p2, lt2⟩ := qy.of I1
      refine zm_call p1 p2 fun h' hz hTI hTO g1 g2 hsz hk => wpAny_pyIter_zip hz ?_
      have I2 : Inv X pins σ H1 { s1 with heap := h' } := I1.kept (t' := s1.toks) hk
      exact ⟨s1.heap.objs.size + 4, [s1.heap.objs.size + 4, s1.heap.objs.size + 2, s1.heap.objs.size + 3, s1.heap.objs.size, s1.heap.objs.size + 1], _, _, H1, rfl, I2, turn_zm (PySem.W.ktu_apart s1.heap.objs.size a b lt1 lt2), ⟨hz, hTI, ⟨_, _, hTO⟩, g1, g2⟩, fresh5, q⟩
theorem walk_zm {t u : Bool} {K : PySem.W.Frag} {a b : Addr} {xs ys : List V} {n : Nat} (hn : n = min xs.length ys.length) : Walk (ItM t u K a b) n (fun H => SqS t K H a xs ∧ SqS u K H b ys) (YPair (fun i => xs[i]?) (fun i => ys[i]?)) := by
  subst hn
  refine ⟨fun i _ hi q => ⟨xs, ys, xs[i]'(by omega), ys[i]'(by omega), q.1, q.2, List.getElem?_eq_getElem _, List.getElem?_eq_getElem _⟩, fun _ q => ⟨xs, ys, q.1, q.2, by omega⟩, fun i H v H' _ q ⟨T, x, z, h1, h2, h3, h4, h5⟩ => ⟨T, x, z, h1, h2, h3, h4 xs q.1, h5 ys q.2⟩⟩
/-- frozen, a list or a tuple -/
def FzS (t : Bool) (K : PySem.W.Frag) (c : Cf) (p : Addr) (xs : List V) : Prop := match t with
  | true => FzT K c p xs
  | false => FzL K c p xs
theorem FzS.sq {t : Bool} {K : PySem.W.Frag} {c : Cf} {p : Addr} {xs : List V} (h : FzS t K c p xs) : SqS t K c.H p xs := by
  cases t with
  | true => exact FzT.sq h
  | false => exact FzL.sq h
theorem FzS.ext {t : Bool} {K : PySem.W.Frag} {c c' : Cf} {p : Addr} {xs : List V} (x : Ex0 c c') (h : FzS t K c p xs) : FzS t K c' p xs := by
  cases t with
  | true => exact FzT.ext x h
  | false => exact FzL.ext x h
section
variable {W : Wd} {Wx : WX} {X : Cx} {C : Orc} {n : Nat} {a b : Expr} {ia ib : E} {p pos : Pos}
theorem walkA_zm {t u : Bool} {c : Cf} {p q : Addr} {vs ws : List V} {xs ys : List AV} {K : PySem.W.Frag} (hK : K = W.K) (h : FzS t W.K c p vs) (h' : FzS u W.K c q ws) (r : Reps W c vs xs) (r' : Reps W c ws ys) : WalkA W c (ItM t u K p q) (List.zipWith (fun x y => AV.tup [x, y]) xs ys) := by
  subst hK
  refine ⟨_, _, walk_zm (xs := vs) (ys := ws) (by rw [List.length_zipWith, r.length, r'.length]), fun c' x => ⟨(h.ext x).sq, (h'.ext x).sq⟩, fun i c' v H' z hz s' x y => pair_new hz r r' s' x y⟩
theorem seqV_rep {c : Cf} {v : V} {x : AV} {xs : List AV} (r : Rep W c v x) (h : seqV x = some xs) : ∃ (t : Bool) (p : Addr) (vs : List V), v = .ref p ∧ FzS t W.K c p vs ∧ Reps W c vs xs := by
  cases r with
  | tup h1 q1 => cases h; exact ⟨true, _, _, rfl, h1, q1⟩
  | lst h1 q1 => cases h; exact ⟨false, _, _, rfl, h1, q1⟩
  | _ => simp [seqV] at h
theorem sndI_zip (K : CtxOk W Wx n X) {elts : List Expr} {kk : Nat} {tpos : Pos} (ha : SndE W Wx X C a ia) (hb : SndE W Wx X C b ib) (hs : noStar a) (hs2 : noStar b) (hg : Gl X "zip") (hm : X.mg "zip" = none) :
    SndI W Wx X C (.Tuple elts kk tpos) (.Call (.Name "zip" p) [a, b] [] pos) (.zip ia ib) := fun c S σ R sim l e => by
  have h2 : starEach [b] X.env = [(false, eval b X.env)] := hs2.each
  refine wI_of (pi_zm hg hm (pa_cons pe_w (pa_cons pe_w pa_nil h2) hs.each) hs.each (by rw [h2]; rfl)) (ha c S σ _ sim l (End.bind e fun x c1 v _ s1 x1 r1 e1 => ?_))
  refine hb c1 S σ _ s1 (l.to x1) (End.bind e1 fun y c2 w _ s2 x2 r2 e2 => ?_)
  have r1 := r1.to x2
  obtain ⟨zs, hz, e2⟩ := e2.of
  unfold zipV at hz
  split at hz
  · rename_i xs ys q1 q2
    cases hz
    obtain ⟨t, p, vs, rfl, f1, g1⟩ := seqV_rep r1 q1
    obtain ⟨u, q, ws, rfl, f2, g2⟩ := seqV_rep r2 q2
    exact ⟨t, u, _, _, _, _, rfl, by rw [K.hK]; exact f1.sq, by rw [K.hK]; exact f2.sq, e2.here s2 (walkA_zm K.hK f1 f2 g1 g2)⟩
  · cases hz
end
end NT
set_option linter.all false
set_option maxRecDepth 100000
set_option autoImplicit false
set_option maxHeartbeats 2000000
namespace NT
open PySem PySem.Spec PyProof.Rows L2
/-! ### enumerate of a tuple -/
abbrev enA (h : Heap) (l : Addr) : Heap := h.push (itO true l)
abbrev enB (h : Heap) (l : Addr) : Heap := (enA h l).push { cls := .type "enumerate", data := .fields #[.none, .bool false, .ref h.objs.size, rawInt 0, .none, .none] }
theorem en_new (l : Addr) (xs : Array Value) :
    Meets (Builtin.«enumerate.__new__» ⟨[.type "enumerate", .ref l], []⟩) (fun _ R s => s.heap.IsTuple l xs ∧ R (.ok (.ret (.ref (enA s.heap l).objs.size))) { s with heap := enB s.heap l }) :=
  .of_wp fun prog w A R s h => by
    obtain ⟨hp, gg, d, tk, os⟩ := s; obtain ⟨q1, h⟩ := h
    have hsub := sub_enumerate
    have L1 : Heap.IsTuple (Shared.heap ⟨hp, gg, d, tk, os⟩) l xs := q1
    obtain ⟨ol, hol, hcl, nl, hdl⟩ := id L1
    wp_walk using AutoSeq1.wpAny_loadPart' hol, wpAny_pyIter_tuple L1
    refine wpAny_stack_any fun st => (wpAny_pure ?_)
    split
    · rename_i c _ _ _ _ _
      cases (c == Value.type "enumerate") <;> (wp_walk using AutoSeq1.wpAny_loadPart' hol, wpAny_pyIter_tuple L1; exact ⟨_, rfl, h⟩)
    · wp_walk using AutoSeq1.wpAny_loadPart' hol, wpAny_pyIter_tuple L1
      exact ⟨_, rfl, h⟩
section
variable {prog : Program} {w : World} {A : Around} {E : Value → Shared → Prop} {s : Shared}
theorem en_call {l : Addr} {xs : Array Value} {Q : Value → Shared → Prop} (q1 : s.heap.IsTuple l xs)
    (h : ∀ h', IsEnum h' (s.heap.objs.size + 1) s.heap.objs.size 0 .none → h'.IsTupleIter s.heap.objs.size l 0 → (∀ b o, s.heap.get? b = some o → h'.get? b = some o) → Q (.ref (s.heap.objs.size + 1)) { s with heap := h' }) :
    wpAny (model prog w) A (call (.type "enumerate") [.ref l]) Q E s := by
  refine callType_new F.called_enumerate (by decide) (F.typeCall_enumerate_1 _) (F.newCall_enumerate_1 _) (fun obj => F.args_object_init_2 obj _) F.entry_enumerate_new (en_new l xs) ⟨q1, ?_⟩
  have z1 : (enA s.heap l).objs.size = s.heap.objs.size + 1 := Heap.size_push ..
  have p : ∀ {h : Heap} {o : Obj} {b : Addr} {v : Obj}, h.get? b = some v → (h.push o).get? b = some v := fun e => Heap.get?_push_of_some _ e
  have e2 : (enB s.heap l).get? (enA s.heap l).objs.size = some _ := Heap.get?_push_size _ rfl
  have e1 : (enB s.heap l).get? s.heap.objs.size = some (itO true l) := p (Heap.get?_push_size _ rfl)
  show _ ∧ _
  rw [z1] at e2 ⊢
  exact ⟨⟨_, e2, rfl⟩, h _ e2 ⟨_, e1, rfl, rfl⟩ fun b o x => p (p x)⟩
theorem en_end {e it l : Addr} {i : Nat} {c : Int} {items : Array Value} {old : Value} {Q : Option Value → Shared → Prop} (hh : A.handled = none) (he : IsEnum s.heap e it c old) (hit : s.heap.IsTupleIter it l i) (hl : s.heap.IsTuple l items) (hx : items[i]? = none)
    (hQ : ∀ h', Heap.ExtBut it s.heap h' → Q none { s with heap := h' }) : wpAny (model prog w) A (pyNext (.ref e)) Q E s := by
  have ht : s.TypeIs (.ref e) "enumerate" := ⟨_, he, rfl⟩
  unfold pyNext
  refine wpAny_bind (wpAny_attempt (wpAny_callSpecial?_slot (name := Str.ofString "__next__") ht F.slot_enumerate_next (wpAny_call_entry F.slot_enumerate_next ht F.entry_enumerate_next ?_ (F.args_enumerate_next_1 _))))
  show wpAny _ _ (field (.ref e) 2 >>= _) _ _ _; refine wpAny_bind (wpAny_field he rfl (x := .ref it) rfl (wpAny_bind (nx_end (t := true) hh hit hl hx fun h' x he' hx' => ?_)))
  obtain ⟨o, ho, hc⟩ := hx'; exact wpAny_bind (wpAny_isInstance (T := "StopIteration") (b := true) ⟨o, ho, hc⟩ isSubtype_stop (wpAny_pure (hQ _ he')))
end
def ItU (K : PySem.W.Frag) (a : Addr) : It :=
  ⟨fun i H => ∃ (xs : List V) (x : V), SqT K H a xs ∧ xs[i]? = some x,
    fun i H v H' => ∃ T x, v = .ref T ∧ H T = none ∧ H' = upd H T (.tup [.int (i : Nat), x]) ∧ ∀ xs, SqT K H a xs → xs[i]? = some x,
    fun i H => ∃ xs : List V, SqT K H a xs ∧ xs.length ≤ i⟩
theorem turn_en {P : Program} {w : World} {K : PySem.W.Frag} {elts : List Expr} {kk : Nat} {tpos : Pos} (a e it : Addr) :
    Turn P w K (.Tuple elts kk tpos) (ItU K a) [e, it] e (fun i h => (∃ old, IsEnum h e it ((i : Nat) : Int) old) ∧ h.IsTupleIter it a i ∧ e ≠ it ∧ a ≠ it ∧ e ≠ a) where
  mem := by simp
  obj := fun i h st c hc => by
    obtain ⟨⟨old, he⟩, ⟨o, ho, _, hd⟩, _⟩ := st
    have e' : c = e ∨ c = it := by simpa using hc
    rcases e' with rfl | rfl
    · exact ⟨_, he, fun v q => nomatch q⟩
    · exact ⟨o, ho, fun v q => by rw [hd] at q; cases q⟩
  keep := fun i h h' st k => by
    obtain ⟨⟨old, he⟩, hi, n1, n2, n3⟩ := st
    exact ⟨⟨old, k e (by simp) _ he⟩, Heap.IsTupleIter.at hi fun o q => k it (by simp) o q, n1, n2, n3⟩
  item := by
    intro X hP hw hK hc i pins s σ H E I hf st hg
    subst hP hw hK
    obtain ⟨⟨old, he⟩, hit, n1, n2, n3⟩ := st
    obtain ⟨xs, x, hq, hx⟩ := hg
    obtain ⟨its, rv, p, _⟩ := I.tuple hq
    have p : s.heap.IsTuple a its.toArray := p
    obtain ⟨v1, hv1, rv1⟩ := rv.get hx
    have hel : e < s.heap.objs.size := Heap.lt_size he
    have hil : it < s.heap.objs.size := by
      obtain ⟨_, q, _⟩ := hit
      exact Heap.lt_size q
    have hlen : i < its.toArray.size := by
      have := (List.getElem?_eq_some_iff.mp hv1).1
      simpa using this
    refine wpAny_pyNext_enum_itemD (Draws.tuple (prog := X.prog) (w := X.w) (A := X.A.in1) (I.ok.hd hc) it a n2 its.toArray) he ⟨hit, p⟩ hlen n1 (by simp [n1, n3]) fun u h' tk hu ho hst hT hsz hk => ?_
    have hu1 : u = v1 := by
      have : its.toArray[i]? = some v1 := by simpa using hv1
      rw [this] at hu; cases hu; rfl
    subst hu1
    refine ⟨_, rfl, wpAny_letOwnedTupleGo_enum (s := { s with heap := h', toks := tk + 1 }) ho fun h'' he' sb => ?_⟩
    have hT2 : h''.get? s.heap.objs.size = some { cls := .type "tuple", data := .seq #[.int i tk, u] } := (sb.2 _ (Nat.ne_of_gt hel)).trans hT
    have new : ObjOk X.prog X.w (upd H s.heap.objs.size (.tup [.int (i : Nat), x])) h'' s.heap.objs.size (.tup [.int (i : Nat), x]) := ⟨by show 2 ≤ sizeLine; decide, [.int i tk, u], .cons ⟨_, rfl⟩ (.cons rv1 .nil), ⟨_, hT2, rfl, _, rfl⟩⟩
    have I1 : Inv X pins σ (upd H s.heap.objs.size (.tup [.int (i : Nat), x])) { s with heap := h'', toks := tk + 1 } := I.turnedNew (ch := [e, it])
      (fun b ob hb q => (sb.2 b (fun q' => hb (by simp [q']))).trans (hk b ob (fun q' => hb (by simp [q'])) (fun q' => hb (by simp [q'])) q)) hf (Nat.le_refl _) new
    refine ⟨.ref s.heap.objs.size, _, I1, rfl, ⟨_, x, rfl, I.hok.fresh (Nat.le_refl _), rfl, fun ys hy => by rw [I.tuple_inj hy hq]; exact hx⟩, ⟨⟨u, ?_⟩, ?_, n1, n2, n3⟩, fun c hcm => ?_⟩
    · have e1 : ((i + 1 : Nat) : Int) = (i : Int) + 1 := by omega
      rw [e1]; exact he'
    · exact Heap.IsTupleIter.at hst.1 fun o q => (sb.2 it (Ne.symm n1)).trans q
    · have hlt : c < s.heap.objs.size := by
        have e' : c = e ∨ c = it := by simpa using hcm
        rcases e' with rfl | rfl
        · exact hel
        · exact hil
      rw [upd_ne (Nat.ne_of_lt hlt)]
      exact (hf c hcm).1
  done := by
    intro X hP hw hK hc i pins s σ H E I hf st hg
    subst hP hw hK
    obtain ⟨⟨old, he⟩, hit, n1, n2, n3⟩ := st
    obtain ⟨xs, hq, hx⟩ := hg
    obtain ⟨its, rv, p, _⟩ := I.tuple hq
    have p : s.heap.IsTuple a its.toArray := p
    have l1 := rv.length
    have hx2 : its.toArray[i]? = none := by simp; omega
    exact en_end (I.ok.hd hc) he hit p hx2 fun h' eb => ⟨rfl, I.turnedL (t' := s.toks) (ch := [e, it]) (fun c o hb q => eb c o (fun q' => hb (by simp [q'])) q) hf⟩
  self := fun A i s Q E st h => wpAny_pyIter_enum st.1.choose_spec h
/-- of a list or of a tuple -/
def iEm (K : PySem.W.Frag) (ta : TA) : TI := fun σ H R => ta σ H fun vs H1 => ∃ a xs, vs = [.ref a] ∧ ((SqL K H1 a xs ∧ R (Ite K a) H1) ∨ (SqT K H1 a xs ∧ R (ItU K a) H1))
theorem pi_em {X : Cx} {e : Expr} {ta : TA} {p pos tpos : Pos} {elts : List Expr} {kk : Nat} (hg : Gl X "enumerate") (hm : X.mg "enumerate" = none) (ha : PA X [e] ta) (hs : starEach [e] X.env = [(false, eval e X.env)]) :
    PI X (.Tuple elts kk tpos) (.Call (.Name "enumerate" p) [e] [] pos) (iEm X.K ta) := by
  refine ⟨fun pins s σ H R I h => ?_⟩
  refine Call_ (ld_blt I hg hm boot_enumerate (PyProof.Rows.callWith_type1 (thn (ha.run pos pins s σ H _ I h) fun us s1 ⟨vs, H1, I1, r1, a, xs, ex, q⟩ => ?_) hs rfl))
  subst ex
  cases r1 with
  | cons r rr =>
    cases rr
    cases r
    have fresh : ∀ b, b ∈ [s1.heap.objs.size + 1, s1.heap.objs.size] → FpOk X pins H1 b := fun b hb => by
      have hle : s1.heap.objs.size ≤ b := by
        have e' : b = s1.heap.objs.size + 1 ∨ b = s1.heap.objs.size := by simpa using hb
        rcases e' with z | z
        · rw [z]; exact Nat.le_add_right _ _
        · rw [z]; exact Nat.le_refl _
      exact I1.fpOk hle (I1.hok.fresh hle)
    rcases q with ⟨hq, q⟩ | ⟨hq, q⟩
    · obtain ⟨its, rv, p', _⟩ := I1.list hq
      refine call_enumerate_list p'.isList fun h' he hit _ hk => (wpAny_pyIter_enum he ?_)
      have I2 : Inv X pins σ H1 { s1 with heap := h' } := I1.kept (t' := s1.toks) hk
      exact ⟨s1.heap.objs.size + 1, [s1.heap.objs.size + 1, s1.heap.objs.size], _, _, H1, rfl, I2, turn_enum a (s1.heap.objs.size + 1) s1.heap.objs.size, ⟨⟨.none, he⟩, hit, Nat.succ_ne_self _⟩, fresh, q⟩
    · obtain ⟨its, rv, p', _⟩ := I1.tuple hq
      have p' : s1.heap.IsTuple a its.toArray := p'
      have hal : a < s1.heap.objs.size := by
        obtain ⟨o, ho, _⟩ := id p'
        exact Heap.lt_size ho
      refine en_call p' fun h' he hit hk => (wpAny_pyIter_enum he ?_)
      have I2 : Inv X pins σ H1 { s1 with heap := h' } := I1.kept (t' := s1.toks) hk
      exact ⟨s1.heap.objs.size + 1, [s1.heap.objs.size + 1, s1.heap.objs.size], _, _, H1, rfl, I2, turn_en a (s1.heap.objs.size + 1) s1.heap.objs.size, ⟨⟨.none, he⟩, hit, Nat.succ_ne_self _, Nat.ne_of_lt hal, Nat.ne_of_gt (Nat.lt_succ_of_lt hal)⟩, fresh, q⟩
theorem walk_en {K : PySem.W.Frag} {a : Addr} {xs : List V} : Walk (ItU K a) xs.length (fun H => SqT K H a xs) (YPair (fun i => some (.int (i : Nat))) (fun i => xs[i]?)) :=
  ⟨fun i _ hi q => ⟨xs, xs[i]'hi, q, List.getElem?_eq_getElem _⟩, fun _ q => ⟨xs, q, Nat.le_refl _⟩, fun i H v H' _ q ⟨T, x, h1, h2, h3, h4⟩ => ⟨T, .int (i : Nat), x, h1, h2, h3, rfl, h4 xs q⟩⟩
end NT
set_option linter.all false
set_option maxRecDepth 100000
set_option autoImplicit false
namespace NT
open PySem PySem.Spec PyProof.Rows L2
/-! ### slots -/
def setSlots : List Nat → List V → L2.St → L2.St
  | i :: is, v :: vs, S => setSlots is vs (S.set i (some v))
  | _, _, S => S
theorem wipe_set_set (i : Nat) (x y : Option V) (S : L2.St) : ∀ vs : List Nat, (L2.wipe (S.set i x) vs).set i y = (L2.wipe S vs).set i y
  | [] => by unfold L2.wipe; rw [List.set_set]
  | v :: vs => by
    unfold L2.wipe
    by_cases h : v = i
    · subst h; rw [List.set_set, List.set_set]; exact wipe_set_set v x y S vs
    · rw [List.set_comm _ _ h, wipe_set_set i x y S vs, List.set_comm _ _ (Ne.symm h)]
theorem wipe_set {i : Nat} {x : Option V} {S : L2.St} : ∀ {vs : List Nat}, i ∈ vs → L2.wipe (S.set i x) vs = L2.wipe S vs
  | v :: vs, h => by
    unfold L2.wipe
    by_cases e : i = v
    · subst e; exact wipe_set_set i x none S vs
    · rw [wipe_set (by rcases List.mem_cons.mp h with z | z; exact absurd z e; exact z)]
theorem wipe_wipe (S : L2.St) (vs : List Nat) : ∀ us : List Nat, (∀ i ∈ us, i ∈ vs) → L2.wipe (L2.wipe S us) vs = L2.wipe S vs
  | [], _ => rfl
  | u :: us, h => by
    have e : L2.wipe S (u :: us) = (L2.wipe S us).set u none := rfl
    rw [e, wipe_set (h u List.mem_cons_self)]
    exact wipe_wipe S vs us fun i hi => h i (List.mem_cons_of_mem _ hi)
theorem wipe_setSlots {vs0 : List Nat} : ∀ (is : List Nat) (ws : List V) (S : L2.St), (∀ i ∈ is, i ∈ vs0) → L2.wipe (setSlots is ws S) vs0 = L2.wipe S vs0
  | [], _, _, _ => rfl
  | i :: is, [], _, _ => rfl
  | i :: is, w :: ws, S, h => by
    unfold setSlots
    rw [wipe_setSlots is ws _ fun j hj => h j (List.mem_cons_of_mem _ hj), wipe_set (h i List.mem_cons_self)]
theorem LocR.setAll {W : Wd} {c : Cf} : ∀ {is : List Nat} {vs : List V} {xs : List AV} {S : L2.St} {σ σ' : Loc}, LocR W c S σ → Reps W c vs xs → NT.setAll is xs σ = some σ' → LocR W c (setSlots is vs S) σ'
  | [], _, _, _, _, _, l, .nil, e => by cases e; exact l
  | [], _, _, _, _, _, l, .cons _ _, e => by simp [NT.setAll] at e
  | i :: is, _, _, _, _, _, l, .nil, e => by simp [NT.setAll] at e
  | i :: is, _, _, _, _, _, l, .cons r t, e => by
    unfold NT.setAll at e
    unfold setSlots
    exact LocR.setAll (l.set r i) t e
theorem setAll_len : ∀ {is : List Nat} {xs : List AV} {σ σ' : Loc}, NT.setAll is xs σ = some σ' → xs.length = is.length
  | [], [], _, _, _ => rfl
  | [], _ :: _, _, _, e => by simp [NT.setAll] at e
  | _ :: _, [], _, _, e => by simp [NT.setAll] at e
  | i :: is, x :: xs, _, _, e => by
    unfold NT.setAll at e
    simp [setAll_len e]
/-! ### targets -/
def gsOf : List Nat → TGs
  | [] => gNil
  | i :: is => gCons (gName i) (gsOf is)
theorem gs_run : ∀ {is : List Nat} {vs : List V} {S : L2.St} {H : Hp} {Q : L2.St → Hp → Prop}, vs.length = is.length → Q (setSlots is vs S) H → gsOf is vs S H Q
  | [], [], _, _, _, _, q => ⟨rfl, q⟩
  | _ :: _, [], _, _, _, e, _ => by cases e
  | [], _ :: _, _, _, _, e, _ => by cases e
  | i :: is, v :: vs, _, _, _, e, q => ⟨v, vs, rfl, gs_run (by simpa using e) q⟩
/-- plain names at their places -/
inductive NamesAt (X : Cx) : List Expr → List Nat → Prop
  | nil : NamesAt X [] []
  | cons {x : Str} {p : Pos} {i : Nat} {es : List Expr} {is : List Nat} : X.N[i]? = some x → L2.Loc X.env.scope x → (X.fn x = true ∨ X.env.scope.names.lookup x = some .local) → NamesAt X es is → NamesAt X (.Name x p :: es) (i :: is)
theorem NamesAt.pgs {X : Cx} (nd : X.N.Nodup) : ∀ {es : List Expr} {is : List Nat}, NamesAt X es is → PGs X es (gsOf is)
  | _, _, .nil => pgs_nil
  | _, _, .cons h1 h2 h3 t => pgs_cons (pg_name nd h1 h2 h3) (NamesAt.pgs nd t)
theorem NamesAt.len {X : Cx} : ∀ {es : List Expr} {is : List Nat}, NamesAt X es is → (assignEach es X.env).length = is.length
  | _, _, .nil => rfl
  | _, _, .cons _ _ _ t => by
    show (_ :: assignEach _ X.env).length = _
    rw [List.length_cons, NamesAt.len t]; rfl
theorem NamesAt.idx {X : Cx} : ∀ {es : List Expr} {is : List Nat}, NamesAt X es is → (assignEach es X.env).findIdx? (·.1) = none
  | _, _, .nil => rfl
  | _, _, .cons (x := x) (p := p) _ _ _ t => by
    show List.findIdx? (·.1) ((false, assign (.Name x p) X.env) :: assignEach _ X.env) = none
    rw [List.findIdx?_cons, NamesAt.idx t]; rfl
/-- a target: one name, or a tuple of several -/
inductive Tgt (X : Cx) : Expr → List Nat → Prop
  | name {x : Str} {p : Pos} {i : Nat} : X.N[i]? = some x → L2.Loc X.env.scope x → (X.fn x = true ∨ X.env.scope.names.lookup x = some .local) → Tgt X (.Name x p) [i]
  | tup {es : List Expr} {k : Nat} {p : Pos} {is : List Nat} : NamesAt X es is → is.length ≠ 1 → nestB is = false → Tgt X (.Tuple es k p) is
  | nest {x : Str} {p p1 p2 : Pos} {i a b : Nat} {js : List Nat} {es : List Expr} {k1 k2 : Nat} : NamesAt X [.Name x p] [i] → NamesAt X es (a :: b :: js) → Tgt X (.Tuple [.Name x p, .Tuple es k2 p2] k1 p1) (i :: i :: a :: b :: js)
def gBoth (K : PySem.W.Frag) (n : Nat) (t : TGs) : TG := fun v σ H Q => gTup K n t v σ H Q ∨ gLst K n t v σ H Q
theorem pg_both {X : Cx} {tg : Expr} {n : Nat} {t : TGs} (h1 : PG X tg (gTup X.K n t)) (h2 : PG X tg (gLst X.K n t)) : PG X tg (gBoth X.K n t) := ⟨fun pins s σ H v u Q I r h => h.elim (h1.run pins s σ H v u Q I r) (h2.run pins s σ H v u Q I r)⟩
def gsN (K : PySem.W.Frag) : List Nat → TGs
  | i :: _ :: js => gCons (gName i) (gCons (gBoth K js.length (gsOf js)) gNil)
  | _ => gNil
def gOf (K : PySem.W.Frag) : List Nat → TG
  | [i] => gName i
  | is => bif nestB is then gBoth K 2 (gsN K is) else gBoth K is.length (gsOf is)
theorem nestB_self {i a b : Nat} {js : List Nat} : nestB (i :: i :: a :: b :: js) = true := by
  show (i == i) = true
  exact beq_self_eq_true i
theorem nestB_shape {is : List Nat} (h : nestB is = true) : ∃ i a b js, is = i :: i :: a :: b :: js := by
  unfold nestB at h
  split at h
  · rename_i i j a b js
    have e : i = j := eq_of_beq h
    subst e
    exact ⟨i, a, b, js, rfl⟩
  · cases h
theorem Tgt.pg {X : Cx} (nd : X.N.Nodup) (hc : X.calm = true) {tg : Expr} {is : List Nat} (h : Tgt X tg is) : PG X tg (gOf X.K is) := by
  cases h with
  | name h1 h2 h3 => exact pg_name nd h1 h2 h3
  | tup h1 h2 h3 =>
    have e : gOf X.K is = gBoth X.K is.length (gsOf is) := by
      match is, h2, h3 with
      | [], _, _ => rfl
      | [i], h2, _ => exact absurd rfl h2
      | i :: j :: r, _, h3 =>
        show (bif nestB (i :: j :: r) then _ else _) = _
        rw [h3]; rfl
    rw [e]
    exact pg_both (pg_tup hc (h1.pgs nd) h1.len h1.idx) (pg_lst hc (h1.pgs nd) h1.len h1.idx)
  | nest h1 h2 =>
    rename_i x p p1 p2 i a b js es k1 k2
    have e : gOf X.K (i :: i :: a :: b :: js) = gBoth X.K 2 (gsN X.K (i :: i :: a :: b :: js)) := by
      show (bif nestB (i :: i :: a :: b :: js) then _ else _) = _
      rw [nestB_self]; rfl
    rw [e]
    cases h1 with
    | cons g1 g2 g3 _ =>
      have inn : PG X (.Tuple es k2 p2) (gBoth X.K (a :: b :: js).length (gsOf (a :: b :: js))) := pg_both (pg_tup hc (h2.pgs nd) h2.len h2.idx) (pg_lst hc (h2.pgs nd) h2.len h2.idx)
      have out : PGs X [.Name x p, .Tuple es k2 p2] (gsN X.K (i :: i :: a :: b :: js)) := pgs_cons (pg_name nd g1 g2 g3) (pgs_cons inn pgs_nil)
      exact pg_both (pg_tup hc out rfl rfl) (pg_lst hc out rfl rfl)
theorem bindT_ok {is : List Nat} {x : AV} {σ σ' : Loc} {h h' : AHeap} (e : bindT is x σ h = .ok σ' h') : h' = h := by
  unfold bindT at e
  split at e
  · cases e; rfl
  · split at e
    · cases q : NT.setN is _ σ with
      | none => rw [q] at e; cases e
      | some s => rw [q] at e; cases e; rfl
    · cases q : NT.setN is _ σ with
      | none => rw [q] at e; cases e
      | some s => rw [q] at e; cases e; rfl
    · cases e
theorem gOf_run {W : Wd} {K : PySem.W.Frag} (hK : K = W.K) {c : Cf} {is : List Nat} {S : L2.St} {σ σ' : Loc} {v : V} {a : AV} {h : AHeap} {Q : L2.St → Hp → Prop} (l : LocR W c S σ) (r : Rep W c v a) (e : bindT is a σ h = .ok σ' h)
    (q : ∀ S', LocR W c S' σ' → (∀ vs0 : List Nat, (∀ i ∈ is, i ∈ vs0) → L2.wipe S' vs0 = L2.wipe S vs0) → Q S' c.H) : gOf K is v S c.H Q := by
  subst hK
  have tupc : ∀ xs, a = .tup xs → NT.setAll is xs σ = some σ' → gTup W.K is.length (gsOf is) v S c.H Q := fun xs ea hs => by
    subst ea
    cases r with
    | tup h1 r1 => exact ⟨_, _, rfl, h1.sq, by rw [r1.length]; exact setAll_len hs, gs_run (by rw [r1.length]; exact setAll_len hs) (q _ (LocR.setAll l r1 hs) fun vs0 hv => wipe_setSlots is _ S hv)⟩
  have lstc : ∀ xs, a = .lst xs → NT.setAll is xs σ = some σ' → gLst W.K is.length (gsOf is) v S c.H Q := fun xs ea hs => by
    subst ea
    cases r with
    | lst h1 r1 => exact ⟨_, _, rfl, h1.sq, by rw [r1.length]; exact setAll_len hs, gs_run (by rw [r1.length]; exact setAll_len hs) (q _ (LocR.setAll l r1 hs) fun vs0 hv => wipe_setSlots is _ S hv)⟩
  have flat : (∀ i, is ≠ [i]) → nestB is = false → gBoth W.K is.length (gsOf is) v S c.H Q := fun hne hn => by
    unfold bindT setN at e
    rw [hn] at e
    split at e
    · rename_i i
      exact absurd rfl (hne i)
    · split at e
      · rename_i xs
        cases z : NT.setAll is xs σ with
        | none => rw [z] at e; cases e
        | some s => rw [z] at e; cases e; exact .inl (tupc xs rfl z)
      · rename_i xs
        cases z : NT.setAll is xs σ with
        | none => rw [z] at e; cases e
        | some s => rw [z] at e; cases e; exact .inr (lstc xs rfl z)
      · cases e
  have inner : ∀ {js : List Nat} {S0 : L2.St} {σ0 : Loc} {w : V} {y : AV} {Q0 : L2.St → Hp → Prop}, LocR W c S0 σ0 → Rep W c w y → setAs js y σ0 = some σ' → (∀ S', LocR W c S' σ' → (∀ vs0 : List Nat, (∀ i ∈ js, i ∈ vs0) → L2.wipe S' vs0 = L2.wipe S0 vs0) → Q0 S' c.H) → gBoth W.K js.length (gsOf js) w S0 c.H Q0 := fun {js S0 σ0 w y Q0} l0 r0 hs q0 => by
    unfold setAs at hs
    split at hs
    · cases r0 with
      | tup h1 r1 => exact .inl ⟨_, _, rfl, h1.sq, by rw [r1.length]; exact setAll_len hs, gs_run (by rw [r1.length]; exact setAll_len hs) (q0 _ (LocR.setAll l0 r1 hs) fun vs0 hv => wipe_setSlots js _ S0 hv)⟩
    · cases r0 with
      | lst h1 r1 => exact .inr ⟨_, _, rfl, h1.sq, by rw [r1.length]; exact setAll_len hs, gs_run (by rw [r1.length]; exact setAll_len hs) (q0 _ (LocR.setAll l0 r1 hs) fun vs0 hv => wipe_setSlots js _ S0 hv)⟩
    · cases hs
  have two : ∀ {i : Nat} {js : List Nat} {vs : List V} {xs : List AV}, is = i :: i :: js → Reps W c vs xs → nst2 is xs σ = some σ' → vs.length = 2 ∧ gsN W.K is vs S c.H Q := fun {i js vs xs} hi rs hs => by
    subst hi
    unfold nst2 at hs
    split at hs
    · rename_i i1 j1 js1 a1 w1 z
      cases z
      cases rs with
      | cons r1 rs =>
        cases rs with
        | cons r2 rs =>
          cases rs
          refine ⟨rfl, _, _, rfl, ?_⟩
          show gCons _ _ _ _ _ _
          refine ⟨_, _, rfl, ?_⟩
          refine inner (l.set r1 i) r2 hs fun S' l' hw => ⟨rfl, q S' l' fun vs0 hv => ?_⟩
          rw [hw vs0 fun k hk => hv k (List.mem_cons_of_mem _ (List.mem_cons_of_mem _ hk))]
          exact wipe_set (hv i List.mem_cons_self)
    · cases hs
  have nest : nestB is = true → gBoth W.K 2 (gsN W.K is) v S c.H Q := fun hn => by
    obtain ⟨i, a1, b1, js, hi⟩ := nestB_shape hn
    unfold bindT setN at e
    rw [hn] at e
    split at e
    · cases hn
    · split at e
      · rename_i xs
        cases z : nst2 is xs σ with
        | none => simp only [cond_true, z] at e; cases e
        | some s =>
          simp only [cond_true, z] at e
          cases e
          cases r with
          | tup h1 r1 =>
            obtain ⟨g1, g2⟩ := two hi r1 z
            exact .inl ⟨_, _, rfl, h1.sq, g1, g2⟩
      · rename_i xs
        cases z : nst2 is xs σ with
        | none => simp only [cond_true, z] at e; cases e
        | some s =>
          simp only [cond_true, z] at e
          cases e
          cases r with
          | lst h1 r1 =>
            obtain ⟨g1, g2⟩ := two hi r1 z
            exact .inr ⟨_, _, rfl, h1.sq, g1, g2⟩
      · cases e
  match is, e, flat, nest, q with
  | [i], e, _, _, q => cases e; exact q _ (l.set r i) fun vs0 hv => wipe_set (hv i (by simp))
  | [], _, flat, _, _ => exact flat (fun i z => by cases z) rfl
  | i :: j :: r', _, flat, nest, _ =>
    show (bif nestB (i :: j :: r') then _ else _ : TG) v S c.H Q
    cases hn : nestB (i :: j :: r') with
    | false => exact flat (fun i z => by cases z) hn
    | true => exact nest hn

/-! ### list comprehensions -/
theorem lcL_cons {F : AV → M (Option AV)} {a : AV} {xs : List AV} {β : Type} {k : List AV → M β} (h : AHeap) : M.bind (lcL F (a :: xs)) k h = M.bind (F a) (fun o => M.bind (lcL F xs) fun r => k (consO o r)) h := by
  unfold M.bind
  simp only [lcL, M.bind]
  cases F a h with
  | ok o h1 =>
    simp only
    cases lcL F xs h1 <;> rfl
  | exc _ _ _ _ => rfl
  | bad => rfl
theorem noexc_ok {α : Type} {m : M α} {h h' : AHeap} {a : α} (e : noexc m h = .ok a h') : m h = .ok a h' := by
  unfold noexc at e
  cases q : m h with
  | ok b h1 => rw [q] at e; exact e
  | exc _ _ _ _ => rw [q] at e; cases e
  | bad => rw [q] at e; cases e
theorem noexc_not {α : Type} {m : M α} {h h' : AHeap} {k : Nat} {ks : List Nat} {vs : List AV} : noexc m h ≠ .exc k ks vs h' := by
  unfold noexc
  cases m h <;> simp
theorem lcL_not {F : AV → M (Option AV)} (hF : ∀ a h k ks vs h', F a h ≠ .exc k ks vs h') : ∀ (xs : List AV) (h : AHeap) (k : Nat) (ks : List Nat) (vs : List AV) (h' : AHeap), lcL F xs h ≠ .exc k ks vs h'
  | [], h, _, _, _, _ => by simp [lcL, M.pure]
  | a :: xs, h, k, ks, vs, h' => by
    simp only [lcL, M.bind]
    cases q : F a h with
    | ok o h1 =>
      simp only
      cases q2 : lcL F xs h1 with
      | ok r h2 => simp [M.pure]
      | exc _ _ _ _ => exact absurd q2 (lcL_not hF xs _ _ _ _ _)
      | bad => simp
    | exc _ _ _ _ => exact absurd q (hF _ _ _ _ _ _)
    | bad => simp
theorem bind_ok {α β : Type} {m : M α} {f : α → M β} {h h' : AHeap} {b : β} (e : M.bind m f h = .ok b h') : ∃ a h1, m h = .ok a h1 ∧ f a h1 = .ok b h' := by
  unfold M.bind at e
  cases q : m h with
  | ok a h1 => rw [q] at e; exact ⟨a, h1, rfl, e⟩
  | exc _ _ _ _ => rw [q] at e; cases e
  | bad => rw [q] at e; cases e
/-- a list that a comprehension fills is written -/
theorem Ex0.fill {W : Wd} {c : Cf} (s : Sim W c) {D : Addr} {o : HO} (hD : D ∈ c.x) : Ex0 c { c with H := upd c.H D o } where
  pre := fun _ _ h => h
  keep := fun p u h n _ => by
    show upd c.H D o p = some u
    rw [upd_ne (fun z => n (.inl (by rw [z]; exact hD)))]; exact h
  nl := fun _ _ _ _ h => h
theorem Sim.fill {W : Wd} {c : Cf} (s : Sim W c) {D : Addr} {o : HO} (hD : D ∈ c.x) (hnt : NoTab o) : Sim W { c with H := upd c.H D o } where
  len := s.len
  inj := s.inj
  obj := fun m u q h1 h2 => by
    by_cases hd : u = .dead
    · subst hd; trivial
    · refine (s.obj m u q h1 h2).ext (Ex0.fill s hD) (upd_ne fun z => (s.bz D hD).2 ?_)
      rw [← z]
      exact ⟨m, u, h2, h1, hd⟩
  bz := fun p hp => ⟨by
    show upd c.H D o p ≠ none
    by_cases z : p = D
    · rw [z, upd_same]; simp
    · rw [upd_ne z]; exact (s.bz p hp).1, (s.bz p hp).2⟩
  tb := tabs_keep s.tb fun b u h nt => by
    show upd c.H D o b = _
    rw [upd_ne (fun z => nt (s.tl b (.inl (by rw [z]; exact hD)) _ h))]; exact h
  tl := fun q hq u hu => by
    have hu : upd c.H D o q = some u := hu
    by_cases z : q = D
    · rw [z, upd_same] at hu; cases hu; exact hnt
    · rw [upd_ne z] at hu; exact s.tl q hq u hu
theorem Ex0.enter {c : Cf} {D : Addr} {o : HO} (hD : c.H D = none) : Ex0 c ⟨c.ρ, c.h, upd c.H D o, D :: c.x⟩ where
  pre := fun _ _ h => h
  keep := fun p u h _ _ => by
    show upd c.H D o p = some u
    rw [upd_ne (ne_of_none h hD)]; exact h
  nl := fun p u0 hp _ n l => by
    rcases l with l | l
    · rcases List.mem_cons.mp l with z | z
      · rw [z, hD] at hp; cases hp
      · exact n (.inl z)
    · exact n (.inr l)
theorem Sim.enter {W : Wd} {c : Cf} (s : Sim W c) {D : Addr} {o : HO} (hD : c.H D = none) (hnt : NoTab o) : Sim W ⟨c.ρ, c.h, upd c.H D o, D :: c.x⟩ where
  len := s.len
  inj := s.inj
  obj := fun m u q h1 h2 => by
    by_cases hd : u = .dead
    · subst hd; trivial
    · exact (s.obj m u q h1 h2).ext (Ex0.enter hD) (upd_ne fun z => s.htracked (p := q) ⟨m, u, h2, h1, hd⟩ (by rw [z]; exact hD))
  bz := fun p hp => by
    rcases List.mem_cons.mp hp with z | z
    · refine ⟨?_, fun l => s.htracked (p := D) (by rw [← z]; exact l) hD⟩
      show upd c.H D o p ≠ none
      rw [z, upd_same]; simp
    · refine ⟨?_, (s.bz p z).2⟩
      show upd c.H D o p ≠ none
      rw [upd_ne fun q => (s.bz p z).1 (by rw [q]; exact hD)]; exact (s.bz p z).1
  tb := tabs_keep s.tb fun b u h _ => by
    show upd c.H D o b = _
    rw [upd_ne (ne_of_none h hD)]; exact h
  tl := fun q hq u hu => by
    have hu : upd c.H D o q = some u := hu
    by_cases z : q = D
    · rw [z, upd_same] at hu; cases hu; exact hnt
    · rw [upd_ne z] at hu
      refine s.tl q ?_ u hu
      rcases hq with l | l
      · rcases List.mem_cons.mp l with y | y
        · exact absurd y z
        · exact .inl y
      · exact .inr l
theorem Ex0.exit {c : Cf} {D : Addr} {x : List Addr} (hx : c.x = D :: x) : Ex0 c { c with x := x } where
  pre := fun _ _ h => h
  keep := fun _ _ h _ _ => h
  nl := fun p _ _ _ n l => by
    rcases l with l | l
    · exact n (.inl (by rw [hx]; exact List.mem_cons_of_mem _ l))
    · exact n (.inr l)
theorem Sim.exit {W : Wd} {c : Cf} (s : Sim W c) {D : Addr} {x : List Addr} (hx : c.x = D :: x) : Sim W { c with x := x } where
  len := s.len
  inj := s.inj
  obj := fun m u q h1 h2 => (s.obj m u q h1 h2).ext (Ex0.exit hx) rfl
  bz := fun p hp => s.bz p (by rw [hx]; exact List.mem_cons_of_mem _ hp)
  tb := s.tb
  tl := fun q hq u hu => by
    refine s.tl q ?_ u hu
    rcases hq with l | l
    · exact .inl (by rw [hx]; exact List.mem_cons_of_mem _ l)
    · exact .inr l
abbrev WF : WX := fun _ _ _ _ => False
theorem snd_lcX {W : Wd} {Wx : WX} {X : Cx} {C : Orc} {n : Nat} {elt tg iter : Expr} {ifs : List Expr} {scope : Scope} {own : List (Str × Nat)} {is : List Nat} {pos : Pos} {iit icond ielt : E} {tt : TT} {te : TE}
    (K : CtxOk W Wx n X) (ok : BlkOk X.N X.env.scope scope own) (hsub : ∀ i ∈ is, i ∈ own.map (·.2)) (hit : SndI W Wx X C tg iter iit)
    (hg : ∀ (s : Shared) (H : Hp) (Cc : Addr) (cl : List (Str × Addr)) (fp : List Addr), PG (X.blk s H scope (compEnvC scope cl Cc X.env) fp) tg (gOf X.K is))
    (ht : ∀ (s : Shared) (H : Hp) (Cc : Addr) (cl : List (Str × Addr)) (fp : List Addr), PTs (X.blk s H scope (compEnvC scope cl Cc X.env) fp) ifs tt)
    (htt : ∀ (c : Cf) (S : L2.St) (σ : Loc) (Q : Bool → Hp → Prop), Sim W c → LocR W c S σ → End W WF S c (fun _ (b k : Bool) => b = k) Q (evT C σ icond c.h) → tt S c.H Q)
    (he : ∀ (s : Shared) (H : Hp) (Cc : Addr) (cl : List (Str × Addr)) (fp : List Addr), PE (X.blk s H scope (compEnvC scope cl Cc X.env) fp) elt te)
    (c : Cf) (hte : ∀ (c' : Cf) (S : L2.St) (σ : Loc) (Q : VK), Ex0 c c' → Sim W c' → LocR W c' S σ → End W WF S c' (Rep W) Q (ev C σ ielt c'.h) → te S c'.H Q)
    (hs : ∀ x, foldedSetIterable iter X.env x = pure x) : ∀ (S : L2.St) (σ : Loc) (Q : VK), Sim W c → LocR W c S σ → End W Wx S c (Rep W) Q (ev C σ (.lc is (own.map (·.2)) iit icond ielt) c.h) → tLc (wI X tg iter) (gOf X.K is) tt te (own.map (·.2)) S c.H Q := fun S σ Q sim l e => by
  obtain ⟨vs, hvs⟩ : ∃ vs, own.map (·.2) = vs := ⟨_, rfl⟩
  rw [hvs] at e hsub ⊢
  obtain ⟨F, hF⟩ : ∃ F : AV → M (Option AV), F = (fun x => noexc (M.bind (bindT is x (wipeL σ vs)) fun σ2 => M.bind (evT C σ2 icond) fun k => if k = true then M.bind (ev C σ2 ielt) fun y => M.pure (some y) else M.pure none)) := ⟨_, rfl⟩
  have e : End W Wx S c (Rep W) Q (M.bind (evI C σ iit) (fun xs => M.bind (lcL F xs) fun ys => ok1 (decide (ys.length ≤ line)) (AV.lst ys)) c.h) := by rw [hF]; exact e
  have hFn : ∀ a h k ks vs h', F a h ≠ .exc k ks vs h' := fun a h k ks vs h' => by rw [hF]; exact noexc_not
  refine hit c S σ _ sim l (End.bind e fun xs c1 J hx s1 x1 wk e1 => ?_)
  intro D hD
  obtain ⟨G, Y, w, hG, hY⟩ := wk
  have l1 : LocR W c1 (L2.wipe S vs) (wipeL σ vs) := (l.to x1).wipe vs
  refine lc_it w (fun i H => ∃ (c' : Cf) (acc : List V) (ys : List AV), c'.H = H ∧ c'.x = D :: c1.x ∧ Sim W c' ∧ Ex0 c1 c' ∧ (∀ p ∈ c1.x, c'.H p = c1.H p) ∧ c'.H D = some (.lst acc) ∧ Reps W c' acc ys ∧
    End W Wx S c1 (Rep W) Q (M.bind (lcL F (xs.drop i)) (fun r => ok1 (decide ((ys ++ r).length ≤ line)) (AV.lst (ys ++ r))) c'.h)) ?_ ?_ ?_ ?_
  · refine ⟨⟨c1.ρ, c1.h, upd c1.H D (.lst []), D :: c1.x⟩, [], [], rfl, rfl, s1.enter hD noTab_lst, Ex0.enter hD, fun p hp => ?_, upd_same, .nil, e1⟩
    exact upd_ne fun z => (s1.bz p hp).1 (by rw [z]; exact hD)
  · rintro i H hi ⟨c', acc, ys, rfl, _, _, x0, _⟩
    exact hG c' x0
  · rintro i x H H' hi ⟨c', acc, ys, rfl, hx', s', x0, bz, hDa, ra, en⟩ hy
    have hDm : D ∈ c'.x := by rw [hx']; exact List.mem_cons_self
    have hxi : xs[i]? = some xs[i] := by simp [hi]
    obtain ⟨s2, x2, r2⟩ := hY i c' x H' xs[i] hxi s' x0 hy
    have hdrop : xs.drop i = xs[i] :: xs.drop (i + 1) := by rw [List.drop_eq_getElem_cons hi]
    rw [hdrop, lcL_cons] at en
    generalize xs[i] = a at r2 en
    -- the turn's own end
    cases q : F a c'.h with
    | exc k ks us h' => exact absurd q (hFn _ _ _ _ _ _)
    | bad => unfold M.bind at en; rw [q] at en; exact en.elim
    | ok o h3 =>
      unfold M.bind at en
      rw [q] at en
      have en : End W Wx S c1 (Rep W) Q (M.bind (lcL F (xs.drop (i + 1))) (fun r => ok1 (decide ((ys ++ consO o r).length ≤ line)) (AV.lst (ys ++ consO o r))) h3) := en
      rw [hF] at q
      obtain ⟨σ2, h4, b1, q⟩ := bind_ok (noexc_ok q)
      have hh := bindT_ok b1
      subst hh
      obtain ⟨k, h5, b2, q⟩ := bind_ok q
      refine gOf_run K.hK (c := { c' with H := H' }) (l1.to0 (x0.trans x2.toEx0)) r2 b1 fun S2 l2 hw => ?_
      refine ⟨by rw [hw vs hsub]; exact wipe_wipe S vs vs fun _ h => h, ?_⟩
      refine htt { c' with H := H' } S2 σ2 _ s2 l2 ?_
      show End W WF S2 _ _ _ (evT C σ2 icond c'.h)
      rw [b2]
      intro ρ3 H3 b s3 x3 rb
      subst rb
      -- what follows from the state s' to any later one
      have later : ∀ {c4 : Cf}, Sim W c4 → Ext { c' with H := H' } c4 → c4.x = D :: c1.x ∧ Ex0 c1 c4 ∧ (∀ p ∈ c1.x, c4.H p = c1.H p) ∧ c4.H D = some (.lst acc) ∧ Reps W c4 acc ys := fun {c4} s4 x4 => by
        refine ⟨x4.bx.trans hx', x0.trans (x2.toEx0.trans x4.toEx0), fun p hp => ?_, ?_, ra.to (x2.trans x4)⟩
        · have hp' : p ∈ c'.x := by rw [hx']; exact List.mem_cons_of_mem _ hp
          rw [x4.busy p hp', x2.busy p hp']; exact bz p hp
        · rw [x4.busy D hDm, x2.busy D hDm]; exact hDa
      cases b with
      | false =>
        rw [if_neg (by decide)] at q ⊢
        cases q
        obtain ⟨h1, h2, h3', h4', h5'⟩ := later s3 x3
        exact ⟨_, acc, ys, rfl, h1, s3, h2, h3', h4', h5', en⟩
      | true =>
        rw [if_pos rfl] at q ⊢
        obtain ⟨y, h6, b3, q⟩ := bind_ok q
        cases q
        refine hte _ S2 σ2 _ (x1.toEx0.trans (x0.trans (x2.toEx0.trans x3.toEx0))) s3 (l2.to x3) ?_
        show End W WF S2 _ _ _ (ev C σ2 ielt h5)
        rw [b3]
        intro ρ4 H4 v s4 x4 rv
        obtain ⟨g1, g2, g3, g4, g5⟩ := later s4 (x3.trans x4)
        have hlen : ys.length + 1 ≤ line := by
          cases z : lcL F (xs.drop (i + 1)) h3 with
          | exc _ _ _ _ => exact absurd z (lcL_not hFn _ _ _ _ _ _)
          | bad => unfold M.bind at en; rw [z] at en; exact en.elim
          | ok r h7 =>
            unfold M.bind at en
            rw [z] at en
            have en2 : End W Wx S c1 (Rep W) Q (ok1 (decide ((ys ++ y :: r).length ≤ line)) (AV.lst (ys ++ y :: r)) h7) := en
            unfold ok1 at en2
            split at en2
            · rename_i g
              have g := of_decide_eq_true g
              rw [List.length_append, List.length_cons] at g
              omega
            · exact en2.elim
        have hDx : D ∈ ({ c' with H := H' } : Cf).x := hDm
        refine ⟨acc, g4, by rw [g5.length, line_eq]; omega, ⟨ρ4, h3, upd H4 D (.lst (acc ++ [v])), c'.x⟩, acc ++ [v], ys ++ [y], rfl, g1, Sim.fill s4 hDx noTab_lst, g2.trans (Ex0.fill s4 hDx), fun p hp => ?_, upd_same, ?_, ?_⟩
        · show upd H4 D _ p = _
          rw [upd_ne fun z => (s1.bz p hp).1 (by rw [z]; exact hD)]; exact g3 p hp
        · exact (g5.append (.cons rv .nil)).to0 (Ex0.fill s4 hDx)
        · simp only [List.append_assoc, List.singleton_append]
          exact en
  · rintro H ⟨c', acc, ys, rfl, hx', s', x0, bz, hDa, ra, en⟩
    rw [List.drop_length] at en
    have en : End W Wx S c1 (Rep W) Q (ok1 (decide ((ys ++ []).length ≤ line)) (AV.lst (ys ++ [])) c'.h) := en
    rw [List.append_nil] at en
    unfold ok1 at en
    split at en
    · have x5 : Ex0 c' { c' with x := c1.x } := Ex0.exit hx'
      refine en c'.ρ c'.H (.ref D) (s'.exit hx') ⟨x0.trans x5, rfl, bz⟩ (.lst (.inl ⟨fun lv => ?_, .inl hDa⟩) (ra.to0 x5))
      rcases lv with z | z
      · exact (s1.bz D z).1 hD
      · exact (s'.bz D (by rw [hx']; exact List.mem_cons_self)).2 z
    · exact en.elim
theorem snd_lc {W : Wd} {Wx : WX} {X : Cx} {C : Orc} {n : Nat} {elt tg iter : Expr} {ifs : List Expr} {scope : Scope} {own : List (Str × Nat)} {is : List Nat} {pos : Pos} {iit icond ielt : E} {tt : TT} {te : TE}
    (K : CtxOk W Wx n X) (ok : BlkOk X.N X.env.scope scope own) (hsub : ∀ i ∈ is, i ∈ own.map (·.2)) (hit : SndI W Wx X C tg iter iit)
    (hg : ∀ (s : Shared) (H : Hp) (Cc : Addr) (cl : List (Str × Addr)) (fp : List Addr), PG (X.blk s H scope (compEnvC scope cl Cc X.env) fp) tg (gOf X.K is))
    (ht : ∀ (s : Shared) (H : Hp) (Cc : Addr) (cl : List (Str × Addr)) (fp : List Addr), PTs (X.blk s H scope (compEnvC scope cl Cc X.env) fp) ifs tt)
    (htt : ∀ (c : Cf) (S : L2.St) (σ : Loc) (Q : Bool → Hp → Prop), Sim W c → LocR W c S σ → End W WF S c (fun _ (b k : Bool) => b = k) Q (evT C σ icond c.h) → tt S c.H Q)
    (he : ∀ (s : Shared) (H : Hp) (Cc : Addr) (cl : List (Str × Addr)) (fp : List Addr), PE (X.blk s H scope (compEnvC scope cl Cc X.env) fp) elt te)
    (hte : ∀ (c : Cf) (S : L2.St) (σ : Loc) (Q : VK), Sim W c → LocR W c S σ → End W WF S c (Rep W) Q (ev C σ ielt c.h) → te S c.H Q)
    (hs : ∀ x, foldedSetIterable iter X.env x = pure x) : ∀ (c : Cf) (S : L2.St) (σ : Loc) (Q : VK), Sim W c → LocR W c S σ → End W Wx S c (Rep W) Q (ev C σ (.lc is (own.map (·.2)) iit icond ielt) c.h) → tLc (wI X tg iter) (gOf X.K is) tt te (own.map (·.2)) S c.H Q := fun c => snd_lcX (pos := pos) K ok hsub hit hg ht htt he c (fun c' S σ Q _ => hte c' S σ Q) hs
end NT
set_option linter.all false
set_option maxRecDepth 100000
set_option autoImplicit false
set_option maxHeartbeats 1000000
namespace NT
open PySem PySem.Spec PyProof.Rows L2
/-! ### comprehensions of several clauses: the loops -/
theorem turnN {elt tg iter : Expr} {ifs : List Expr} {gens : List Comprehension} {scope : Scope} {pos : Pos} {d : Nat} (it acc : Value) (env : Env) (hd : gens[d]? = some ⟨tg, iter, ifs, 0⟩) :
    compTurn (.ListComp elt gens scope pos) d it acc env = (do
      standAt iter.pos
      match ← pyNext it with
      | none => pure (.done .next)
      | some v =>
        letOwnedTupleGo tg it v
        assign tg env v
        let mut ok := true
        for c in ifs do
          if ok then ok ← isTrue c env (eval c env)
        if ok then
          match gens[d + 1]? with
          | some g' =>
            let x ← eval g'.iter env
            standAt g'.iter.pos
            let x ← if g'.is_async != 0 then foldedIterable g'.iter x else foldedSetIterable g'.iter env x
            let _ ← runOwn (.compStart (.ListComp elt gens scope pos) (d + 1) (← holding [x] (if g'.is_async != 0 then asyncIter x else pyIter x)) acc env) env
          | none => (do let _ ← call (.builtin "list.append") [acc, ← eval elt env])
        again (.compLoop (.ListComp elt gens scope pos) d it acc env)) := by
  unfold compTurn
  simp only [hd]
  rfl
section
variable {prog : Program} {w : World} {A : Around} {R : Result → Shared → Prop} {s : Shared} {elt : Expr} {gens : List Comprehension} {scope : Scope} {pos : Pos} {it acc : Value} {env : Env}
/-- what stands behind the tests of a clause: the next clause, or the item -/
def BodyWp (prog : Program) (w : World) (A : Around) (elt : Expr) (gens : List Comprehension) (scope : Scope) (pos : Pos) (acc : Value) (env : Env) (NB : Value → Shared → Prop) (d : Nat) (Q : Shared → Prop) (s : Shared) : Prop := match gens[d]? with
  | some g' => wpAny (model prog w) A (eval g'.iter env) (fun x s₄ => wpAny (model prog w) A (pyIter x) (fun it1 s₅ =>
      codeAny (model prog w) A (.compStart (.ListComp elt gens scope pos) d it1 acc env) (fun r s' => match r with
        | .ok _ => Q s'
        | .error _ => False) s₅) NB s₄) NB s
  | none => wpAny (model prog w) A (eval elt env) (fun x s₄ => wpAny (model prog w) A (call (.builtin "list.append") [acc, x]) (fun _ s₅ => Q s₅) NB s₄) NB s
theorem loopN {d : Nat} {tg iter : Expr} {ifs : List Expr} (hd : gens[d]? = some ⟨tg, iter, ifs, 0⟩) (hs : ∀ g', gens[d + 1]? = some g' → g'.is_async = 0 ∧ ∀ x, foldedSetIterable g'.iter env x = pure x) (I : Nat → Shared → Prop)
    (turn : ∀ n s, I n s → wpAny (model prog w) A (pyNext it) (fun r s₁ => match r with
      | none => R (.ok .next) s₁
      | some v => wpAny (model prog w) A (letOwnedTupleGo tg it v) (fun _ s₁' => wpAny (model prog w) A (assign tg env v) (fun _ s₂ =>
          wpAny (model prog w) A (forIn ifs true fun c r => if r = true then do let ok ← isTrue c env (eval c env); pure (ForInStep.yield ok) else pure (ForInStep.yield r)) (fun ok s₃ =>
            if ok = true then BodyWp prog w A elt gens scope pos acc env (notedBy (model prog w) A env fun e s' => R (.error e) s') (d + 1) (fun s' => ∃ m, m < n ∧ I m s') s₃
            else ∃ m, m < n ∧ I m s₃) (notedBy (model prog w) A env fun e s' => R (.error e) s') s₂) (notedBy (model prog w) A env fun e s' => R (.error e) s') s₁') (notedBy (model prog w) A env fun e s' => R (.error e) s') s₁) (notedBy (model prog w) A env fun e s' => R (.error e) s') s)
    (n : Nat) (h : I n s) :
    codeAny (model prog w) A (.compLoop (.ListComp elt gens scope pos) d it acc env) R s := by
  refine codeAny_loop rfl I (fun n s hI => ?_) n h
  show wpAny _ A ((compTurn (.ListComp elt gens scope pos) d it acc env).onRaise (fun x => do noteFrame x env; theTreesLotGoes x)) _ _ s
  refine wpAny_noted ?_
  rw [turnN it acc env hd]
  refine wpAny_bind (wpAny_standAt (wpAny_bind (wpAny_mono (turn n s hI) (fun r s₁ h₁ => ?_) fun _ _ h' => h')))
  cases r with
  | none => exact wpAny_pure h₁
  | some v =>
    refine wpAny_bind (wpAny_mono h₁ (fun _ s₁' h₁' => ?_) fun _ _ h' => h')
    refine wpAny_bind (wpAny_mono h₁' (fun _ s₂ h₂ => wpAny_bind (wpAny_mono h₂ (fun ok s₃ h₃ => ?_) fun _ _ h' => h')) fun _ _ h' => h')
    cases ok with
    | false => exact wpAny_pure ⟨rfl, h₃⟩
    | true =>
      simp only [if_true] at h₃
      unfold BodyWp at h₃
      cases hn : gens[d + 1]? with
      | none =>
        simp only [hn] at h₃ ⊢
        exact wpAny_bind (wpAny_bind (wpAny_mono h₃ (fun x s₄ h₄ => wpAny_bind (wpAny_mono h₄ (fun _ s₅ h₅ => wpAny_pure (wpAny_pure ⟨rfl, h₅⟩)) fun _ _ h' => h')) fun _ _ h' => h'))
      | some g' =>
        obtain ⟨ha, hf⟩ := hs g' hn
        simp only [hn] at h₃ ⊢
        have ha' : (g'.is_async != 0) = false := by rw [ha]; rfl
        simp only [ha', Bool.false_eq_true, if_false]
        refine wpAny_bind (wpAny_mono h₃ (fun x s₄ h₄ => ?_) fun _ _ h' => h')
        refine wpAny_bind (wpAny_standAt (wpAny_bind (wpAny_of_eq (hf x) (wpAny_bind (wpAny_holding (wpAny_mono h₄ (fun it1 s₅ h₅ => ?_) fun _ _ h' => h'))))))
        refine wpAny_bind (wpAny_runOwn ?_)
        rw [Around.mark_none]
        refine codeAny_mono h₅ fun r s' hr => ?_
        cases r with
        | ok f =>
          first
            | exact wpAny_pure ⟨rfl, hr⟩
            | exact wpAny_bind (wpAny_pure (wpAny_pure ⟨rfl, hr⟩))
        | error e => exact hr.elim
/-- a clause's start -/
theorem startN {d : Nat} {tg iter : Expr} {ifs : List Expr} (hd : gens[d]? = some ⟨tg, iter, ifs, 0⟩) (h0 : codeAny (model prog w) A (.compLoop (.ListComp elt gens scope pos) d it acc env) R s)
    (h : wpAny (model prog w) A (pyIter it) (fun it' s' => codeAny (model prog w) A (.compLoop (.ListComp elt gens scope pos) d it' acc env) R s')
      (notedBy (model prog w) A env fun x s' => R (.error x) s') s) :
    codeAny (model prog w) A (.compStart (.ListComp elt gens scope pos) d it acc env) R s := by
  refine codeAny_of_tree ?_
  show wpAny _ _ ((compStart (.ListComp elt gens scope pos) d it acc env).onRaise (fun x => do noteFrame x env; standAt theWindowsPlace)) _ _ s
  refine wpAny_notedAt ?_
  unfold compStart
  have hcl : clausesOf (.ListComp elt gens scope pos) = gens := rfl
  simp only [hcl, hd]
  show wpAny _ _ (ask >>= _) _ _ s
  refine wpAny_bind (wpAny_askSetting (wpAny_ite ?_))
  split
  · first
      | exact wpAny_bind (wpAny_pure (wpAny_pure (And.intro rfl h0)))
      | exact wpAny_pure (And.intro rfl h0)
  · first
      | exact wpAny_bind (wpAny_rule (wpAny_bind (wpAny_standAt (wpAny_bind (wpAny_mono h (fun it' s' h' => wpAny_pure (And.intro rfl h')) fun _ _ x => x)))))
      | (refine wpAny_bind (wpAny_rule ?_); show wpAny _ _ (standAt iter.pos >>= _) _ _ s; exact wpAny_bind (wpAny_standAt (wpAny_bind (wpAny_mono h (fun it' s' h' => wpAny_pure (And.intro rfl h')) fun _ _ x => x))))
end
/-! ### the readings -/
/-- a clause -/
structure Cl where
  tg : Expr
  iter : Expr
  ifs : List Expr
  wi : TI
  g : TG
  tt : TT
  vs : List Nat
def Cl.gen (c : Cl) : Comprehension := ⟨c.tg, c.iter, c.ifs, 0⟩
/-- from a clause on, to the wish Nx -/
def tG (te : TE) (D : Addr) : List Cl → L2.St → Hp → (Hp → Prop) → Prop
  | [], σ, H, Nx => te σ H fun y H7 => ∃ acc, H7 D = some (.lst acc) ∧ acc.length < sizeLine ∧ Nx (upd H7 D (.lst (acc ++ [y])))
  | c :: cs, σ, H, Nx => c.wi σ H fun J H4 => ∃ W : Nat → Nat → Hp → Prop, (∃ m, W 0 m H4) ∧ ∀ j k H, W j k H →
      (J.stop j H ∧ Nx H) ∨ (J.go j H ∧ ∃ Nx1 : Hp → Prop, (∀ H', Nx1 H' → ∃ k', k' < k ∧ W (j + 1) k' H') ∧ ∀ x H', J.yld j H x H' → c.g x (wipe σ c.vs) H' fun σ3 H5 => wipe σ3 c.vs = wipe σ c.vs ∧ c.tt σ3 H5 fun b H6 =>
        if b = true then tG te D cs σ3 H6 Nx1 else Nx1 H6)
def tLcN (wi : TI) (g : TG) (tt : TT) (vs : List Nat) (cs : List Cl) (te : TE) : TE := fun σ H Q => wi σ H fun J H1 => ∀ D, H1 D = none → ∃ W : Nat → Nat → Hp → Prop, (∃ m, W 0 m (upd H1 D (.lst []))) ∧ ∀ i m H, W i m H →
  (J.stop i H ∧ Q (.ref D) H) ∨ (J.go i H ∧ ∃ Nx : Hp → Prop, (∀ H', Nx H' → ∃ m', m' < m ∧ W (i + 1) m' H') ∧ ∀ x H', J.yld i H x H' → g x (wipe σ vs) H' fun σ2 H2 => wipe σ2 vs = wipe σ vs ∧ tt σ2 H2 fun b H3 =>
    if b = true then tG te D cs σ2 H3 Nx else Nx H3)
structure ClOk (Y : Cx) (c : Cl) : Prop where
  pi : PI Y c.tg c.iter c.wi
  pg : PG Y c.tg c.g
  pt : PTs Y c.ifs c.tt
  fs : ∀ env x, foldedSetIterable c.iter env x = pure x
def hdvs : List Cl → List Nat
  | [] => []
  | c :: _ => c.vs
def SubOk : List Cl → Prop
  | [] => True
  | c :: cs => (∀ i ∈ hdvs cs, i ∈ c.vs) ∧ SubOk cs
theorem BodyWp.mono {prog : Program} {w : World} {A : Around} {elt : Expr} {gens : List Comprehension} {scope : Scope} {pos : Pos} {acc : Value} {env : Env} {NB : Value → Shared → Prop} {d : Nat} {Q Q' : Shared → Prop} {s : Shared} (h : BodyWp prog w A elt gens scope pos acc env NB d Q s) (k : ∀ s', Q s' → Q' s') : BodyWp prog w A elt gens scope pos acc env NB d Q' s := by
  unfold BodyWp at h ⊢
  cases hn : gens[d]? with
  | none =>
    simp only [hn] at h ⊢
    exact wpAny_mono h (fun x s₄ h₄ => wpAny_mono h₄ (fun _ s₅ h₅ => k s₅ h₅) fun _ _ z => z) fun _ _ z => z
  | some g' =>
    simp only [hn] at h ⊢
    refine wpAny_mono h (fun x s₄ h₄ => wpAny_mono h₄ (fun it1 s₅ h₅ => codeAny_mono h₅ fun r s' hr => ?_) fun _ _ z => z) fun _ _ z => z
    cases r with
    | ok f => exact k s' hr
    | error e => exact hr
theorem drop_head {α : Type} {l : List α} {d : Nat} {a : α} {r : List α} (h : l.drop d = a :: r) : l[d]? = some a ∧ l.drop (d + 1) = r := by
  have hl : d < l.length := by
    rcases Nat.lt_or_ge d l.length with z | z
    · exact z
    · rw [List.drop_eq_nil_of_le z] at h; cases h
  rw [List.drop_eq_getElem_cons hl] at h
  cases h
  exact ⟨by simp [hl], rfl⟩
theorem thn0 {α : Type} {t : Sem α} {Q Q' : α → Shared → Prop} {M : Model} {A : Around} {E E' : Value → Shared → Prop} {s : Shared} (hE : ∀ e s, E e s → False) (h : wpAny M A t Q E s) (hQ : ∀ a s, Q a s → Q' a s) : wpAny M A t Q' E' s := wpAny_mono h hQ fun e s z => (hE e s z).elim
section
variable {Y : Cx} {elt : Expr} {gens : List Comprehension} {scope : Scope} {pos : Pos} {D : Addr} {te : TE}
theorem innerN (hc : Y.calm = true) (hx : ∀ e s, Y.xe e s → False) (pe : PE Y elt te) : ∀ (cs : List Cl) (d : Nat), gens.drop d = cs.map Cl.gen → (∀ c ∈ cs, ClOk Y c) → SubOk cs →
    ∀ (pins : List (Addr × Obj)) (σ : L2.St) (H : Hp) (s : Shared) (Nx : Hp → Prop) (NB : Value → Shared → Prop), Inv Y pins σ H s → tG te D cs σ H Nx →
      BodyWp Y.prog Y.w Y.A elt gens scope pos (.ref D) Y.env NB d (fun s' => ∃ σ' H', Inv Y pins σ' H' s' ∧ σ'.length = σ.length ∧ (∀ (j : Nat) v, (wipe σ (hdvs cs))[j]? = some (some v) → σ'[j]? = some (some v)) ∧ Nx H') s
  | [], d, hd, _, _, pins, σ, H, s, Nx, NB, I, q => by
    have hn : gens[d]? = none := by
      rw [List.getElem?_eq_none_iff]
      exact List.drop_eq_nil_iff.mp hd
    unfold BodyWp
    simp only [hn]
    refine thn0 hx (pe.run pins s σ H _ I q) fun z s1 ⟨yv, H1, I1, r1, acc, hD1, hz1, nx⟩ => ?_
    exact app_ok (X := Y) I1 hD1 hz1 r1 fun s2 I2 => ⟨σ, _, I2, rfl, fun j v e => e, nx⟩
  | c :: cs, d, hd, hok, hsub, pins, σ, H, s, Nx, NB, I, q => by
    obtain ⟨hg, hd'⟩ := drop_head hd
    have C := hok c List.mem_cons_self
    have hg' : gens[d]? = some ⟨c.tg, c.iter, c.ifs, 0⟩ := hg
    unfold BodyWp
    simp only [hg']
    refine thn0 hx (C.pi.run pins s σ H _ I q) fun xv s1 hxv => thn0 hx hxv fun itv s2 h2 => ?_
    obtain ⟨it1, fp1, tn1, J1, H2, e1, I2, T1, st2, f2, W1, ⟨m1, w1⟩, turn1⟩ := h2
    subst e1
    have stat1 : ∀ {H' : Hp}, (∀ b ∈ fp1, H' b = none) → ∀ b ∈ fp1, FpOk Y pins H' b := fun hn b hb => ⟨hn b hb, (f2 b hb).2⟩
    have loop1 : codeAny (model Y.prog Y.w) Y.A (.compLoop (.ListComp elt gens scope pos) d (.ref it1) (.ref D) Y.env)
        (fun r s' => match r with
          | .ok _ => ∃ σ' H', Inv Y pins σ' H' s' ∧ σ'.length = σ.length ∧ (∀ (j : Nat) v, (wipe σ (hdvs (c :: cs)))[j]? = some (some v) → σ'[j]? = some (some v)) ∧ Nx H'
          | .error _ => False) s2 := by
      refine loopN hg' (fun g' hgn => ?_) (fun k s' => ∃ j H', Inv Y pins (wipe σ c.vs) H' s' ∧ tn1 j s'.heap ∧ (∀ b ∈ fp1, H' b = none) ∧ W1 j k H') ?_ m1 ⟨0, H2, I2.weak (wipe_length _ _) (fun j v e => (wipe_some e).1), st2, fun b hb => (f2 b hb).1, w1⟩
      · cases cs with
        | nil =>
          have : gens[d + 1]? = none := by
            rw [List.getElem?_eq_none_iff]
            exact List.drop_eq_nil_iff.mp hd'
          rw [this] at hgn; cases hgn
        | cons c2 cs2 =>
          have := (drop_head hd').1
          rw [this] at hgn
          cases hgn
          exact ⟨rfl, fun x => (hok c2 (List.mem_cons_of_mem _ List.mem_cons_self)).fs _ x⟩
      · rintro k s12 ⟨j, H12, I12, st12, n12, w12⟩
        rcases turn1 j k H12 w12 with ⟨stop1, nx1⟩ | ⟨go1, Nx1, hNx1, step1⟩
        · refine thnF (T1.done Y rfl rfl rfl hc j _ s12 (wipe σ c.vs) H12 (fun _ _ => False) I12 (stat1 n12) st12 stop1) fun r s13 ⟨hr, I13⟩ => ?_
          subst hr
          exact ⟨wipe σ c.vs, H12, I13, wipe_length _ _, fun j v e => e, nx1⟩
        · refine thnF (T1.item Y rfl rfl rfl hc j _ s12 (wipe σ c.vs) H12 (fun _ _ => False) I12 (stat1 n12) st12 go1) fun r s13 ⟨u1, hr, h13⟩ => ?_
          subst hr
          refine thnF h13 fun _ s14 ⟨x1, H14, I14, r14, y14, st14, n14⟩ => ?_
          have I14' := I14.pinned (stat1 n14) (T1.obj _ _ st14)
          refine thn0 hx (C.pg.run _ s14 (wipe σ c.vs) H14 x1 u1 _ I14' r14 (step1 x1 H14 y14)) fun _ s15 ⟨σ15, H15, I15, hw15, q15⟩ => ?_
          refine thn0 hx (C.pt.run _ s15 σ15 H15 _ I15 q15) fun b1 s16 ⟨H16, I16, q16⟩ => ?_
          have fin1 : ∀ {σ' : L2.St} {s' : Shared} {H' : Hp}, Inv Y (pins ++ pinsAt fp1 s14.heap) σ' H' s' → (wipe σ c.vs).length = σ'.length → (∀ (j : Nat) v, (wipe σ c.vs)[j]? = some (some v) → σ'[j]? = some (some v)) → Nx1 H' →
              ∃ m, m < k ∧ ∃ j H', Inv Y pins (wipe σ c.vs) H' s' ∧ tn1 j s'.heap ∧ (∀ b ∈ fp1, H' b = none) ∧ W1 j m H' := fun {σ' s' H'} I' hl hk nx => by
            obtain ⟨m', hm, w'⟩ := hNx1 H' nx
            have pin' : ∀ b ∈ fp1, ∀ o, s14.heap.get? b = some o → s'.heap.get? b = some o ∧ H' b = none := fun b hb o e =>
              let z := I'.pin (b, o) (List.mem_append_right _ (List.mem_append_right _ (mem_pinsAt hb e)))
              ⟨z.1, z.2.1⟩
            refine ⟨m', hm, j + 1, H', I'.unpinned.weak hl hk, T1.keep _ _ _ st14 fun b hb o e => (pin' b hb o e).1, fun b hb => ?_, w'⟩
            obtain ⟨o, e, _⟩ := T1.obj _ _ st14 b hb
            exact (pin' b hb o e).2
          have hl15 : (wipe σ c.vs).length = σ15.length := by rw [← hw15, wipe_length]
          cases b1 with
          | false =>
            simp only [Bool.false_eq_true, if_false] at q16 ⊢
            exact fin1 I16 hl15 (fun j v e => by rw [← hw15] at e; exact (wipe_some e).1) q16
          | true =>
            simp only [if_true] at q16 ⊢
            refine BodyWp.mono (innerN hc hx pe cs (d + 1) hd' (fun c' h => hok c' (List.mem_cons_of_mem _ h)) hsub.2 _ σ15 H16 s16 Nx1 _ I16 q16) fun s' ⟨σ', H', I', hl, hk, nx⟩ => ?_
            refine fin1 I' (by rw [hl15, hl]) (fun j v e => ?_) nx
            rw [← hw15] at e
            obtain ⟨e1, e2⟩ := wipe_some e
            refine hk j v ?_
            rw [wipe_out fun z => e2 (hsub.1 j z)]
            exact e1
    exact startN hg' loop1 (T1.self Y.A 0 _ _ _ st2 loop1)
end
/-! ### the whole -/
section
variable {X : Cx}
theorem coreN {pins : List (Addr × Obj)} {s : Shared} {σ : L2.St} {H : Hp} {Q : VK} {elt tg iter : Expr} {ifs : List Expr} {scope : Scope} {own : List (Str × Nat)} {pos pos' : Pos} {wi : TI} {g : TG} {tt : TT} {te : TE} {cs : List Cl} {use : Option (Value → Sem Unit)} {Qf : Value → Shared → Prop}
    (hc : X.calm = true) (hN : X.N.Nodup) (I : Inv X pins σ H s) (hi : PI X tg iter wi) (ok : BlkOk X.N X.env.scope scope own) (hv : ∀ i ∈ hdvs cs, i ∈ own.map (·.2)) (hsub : SubOk cs)
    (hg : ∀ (s : Shared) (H : Hp) (C : Addr) (cl : List (Str × Addr)) (fp : List Addr), PG (X.blk s H scope (compEnvC scope cl C X.env) fp) tg g) (ht : ∀ (s : Shared) (H : Hp) (C : Addr) (cl : List (Str × Addr)) (fp : List Addr), PTs (X.blk s H scope (compEnvC scope cl C X.env) fp) ifs tt)
    (he : ∀ (s : Shared) (H : Hp) (C : Addr) (cl : List (Str × Addr)) (fp : List Addr), PE (X.blk s H scope (compEnvC scope cl C X.env) fp) elt te) (hs : ∀ x, foldedSetIterable iter X.env x = pure x)
    (hcs : ∀ (s : Shared) (H : Hp) (C : Addr) (cl : List (Str × Addr)) (fp : List Addr), ∀ c ∈ cs, ClOk (X.blk s H scope (compEnvC scope cl C X.env) fp) c)
    (h : tLcN wi g tt (own.map (·.2)) cs te σ H Q)
    (hRR : ∀ D C s' m H', Inv X pins σ H' s' → Q (.ref D) H' → s'.heap.Ns C m → FpOk X pins H' C → compPost (model X.prog X.w) X.A X.xe use Qf (.ref D) C (.ok .next) s') :
    wpAny (model X.prog X.w) X.A (comprehension (.ListComp elt (⟨tg, iter, ifs, 0⟩ :: cs.map Cl.gen) scope pos) scope X.env pos' (newList []) false (eval iter X.env) use) Qf X.xe s := by
  have hfree : ∀ y ∈ scope.names, y.2 = .free → ∃ c, X.env.cells.lookup y.1 = some c := fun y hy e => by
    rcases ok.free y hy e with k | k
    · exact I.ok.has _ (.inl k)
    · exact I.ok.has _ (.inr k)
  refine wpAny_comprehension_free (use := use) rfl hs (closure_ok hfree) ok.kind (fun y hy e => by rw [ok.uniq y hy, e])
    (thn (hi.run pins s σ H _ I h) fun xv s1 hx => thn hx fun itv s2 h2 => ?_)
  obtain ⟨it, fp, tn, J, H2, e, I2, T, st2, f2, q⟩ := h2
  subst e
  refine wpAny_newObj_type (newEnv_comp ?_) (by show 0 ≤ sizeLine; decide)
  generalize hD : s2.heap.objs.size = D
  have hDn : H2 D = none := I2.hok.fresh (Nat.le_of_eq hD)
  obtain ⟨W, ⟨m0, w0⟩, turn⟩ := q D hDn
  generalize hs3 : ({ s2 with heap := s2.heap.push { cls := .type "list", data := .seq ([] : List Value).toArray } } : Shared) = s3
  have I3 : Inv X pins σ (upd H2 D (.lst [])) s3 := by
    rw [← hs3]
    refine I2.laid (t' := s2.toks) (fun b o e => Heap.get?_push_of_some _ e) (Nat.le_of_eq hD) ⟨Nat.zero_le _, [], 0, .nil, ?_⟩
    rw [← hD]
    exact Heap.get?_push_size _ rfl
  have h3 : s3.heap = s2.heap.push { cls := .type "list", data := .seq ([] : List Value).toArray } := by rw [← hs3]
  have sz : ∀ b ∈ fp, b < s2.heap.objs.size := fun b hb => by
    obtain ⟨o, e, _⟩ := T.obj _ _ st2 b hb
    exact Heap.lt_size e
  have f3 : ∀ b ∈ fp, FpOk X pins (upd H2 D (.lst [])) b ∧ b < s3.heap.objs.size := fun b hb => by
    have hlt := sz b hb
    refine ⟨⟨?_, (f2 b hb).2⟩, by rw [h3, Heap.size_push]; exact Nat.lt_succ_of_lt hlt⟩
    rw [upd_ne (by rw [← hD]; exact Nat.ne_of_lt hlt)]
    exact (f2 b hb).1
  have st3 : tn 0 s3.heap := T.keep _ _ _ st2 fun b _ o e => by rw [h3]; exact Heap.get?_push_of_some _ e
  have I4 := block_start I3 ok hN f3
  have pg := hg s3 (upd H2 D (.lst [])) s3.heap.objs.size (cellsFrom (s3.heap.objs.size + 1) scope.names (cloFrom X.env.cells scope.names [])) fp
  have pt := ht s3 (upd H2 D (.lst [])) s3.heap.objs.size (cellsFrom (s3.heap.objs.size + 1) scope.names (cloFrom X.env.cells scope.names [])) fp
  have pe := he s3 (upd H2 D (.lst [])) s3.heap.objs.size (cellsFrom (s3.heap.objs.size + 1) scope.names (cloFrom X.env.cells scope.names [])) fp
  have pcs := hcs s3 (upd H2 D (.lst [])) s3.heap.objs.size (cellsFrom (s3.heap.objs.size + 1) scope.names (cloFrom X.env.cells scope.names [])) fp
  show codeAny _ _ (.compStart (.ListComp elt (⟨tg, iter, ifs, 0⟩ :: cs.map Cl.gen) scope pos) 0 (.ref it) (.ref D) (compEnvC scope (cellsFrom (s3.heap.objs.size + 1) scope.names (cloFrom X.env.cells scope.names [])) s3.heap.objs.size X.env)) (compPost (model X.prog X.w) X.A X.xe use Qf (.ref D) s3.heap.objs.size) { s3 with heap := pushCells (s3.heap.push { cls := .type "dict", data := .dict #[] }) scope.names }
  have nfp : ∀ b ∈ fp, (upd H2 D (.lst [])) b = none := fun b hb => (f3 b hb).1.1
  generalize hce : compEnvC scope (cellsFrom (s3.heap.objs.size + 1) scope.names (cloFrom X.env.cells scope.names [])) s3.heap.objs.size X.env = ce at I4 pg pt pe pcs ⊢
  have cL : ce.locals = s3.heap.objs.size := by subst hce; rfl
  generalize hH3 : upd H2 D (.lst []) = H3 at I3 I4 pg pt pe pcs w0 nfp f3
  generalize hs4 : ({ s3 with heap := pushCells (s3.heap.push { cls := .type "dict", data := .dict #[] }) scope.names } : Shared) = s4 at I4 ⊢
  have st4 : tn 0 s4.heap := T.keep _ _ _ st3 fun b _ o e => by rw [← hs4]; exact pushCells_keeps _ _ _ _ (Heap.get?_push_of_some _ e)
  have stat : ∀ {σ' : L2.St} {H' : Hp} {s' : Shared}, Inv (X.blk s3 H3 scope ce fp) [] σ' H' s' → (∀ b ∈ fp, H' b = none) → ∀ b ∈ fp, FpOk (X.blk s3 H3 scope ce fp) [] H' b := fun {σ' H' s'} I' hn b hb =>
    ⟨hn b hb, (I'.ok.exf b hb).1, I'.ok.exfs b hb, .inl hb, fun x c e => (I'.ok.exf b hb).2 x c e, fun p hp => absurd (show p ∈ ([] : List (Addr × Obj)) ++ [] from hp) (by simp)⟩
  have h0 : (⟨tg, iter, ifs, 0⟩ :: cs.map Cl.gen : List Comprehension)[0]? = some ⟨tg, iter, ifs, 0⟩ := rfl
  have loop : codeAny (model X.prog X.w) X.A (.compLoop (.ListComp elt (⟨tg, iter, ifs, 0⟩ :: cs.map Cl.gen) scope pos) 0 (.ref it) (.ref D) ce) (compPost (model X.prog X.w) X.A X.xe use Qf (.ref D) s3.heap.objs.size) s4 := by
    refine loopN h0 (fun g' hgn => ?_) (fun n s' => ∃ i H', Inv (X.blk s3 H3 scope ce fp) [] (wipe σ (own.map (·.2))) H' s' ∧ tn i s'.heap ∧ (∀ b ∈ fp, H' b = none) ∧ W i n H') ?_ m0 ⟨0, H3, I4, st4, nfp, w0⟩
    · cases cs with
      | nil => cases hgn
      | cons c2 cs2 => cases hgn; exact ⟨rfl, fun x => (pcs c2 List.mem_cons_self).fs _ x⟩
    rintro n s5 ⟨i, H5, I5, st5, n5, w5⟩
    rcases turn i n H5 w5 with ⟨stop, qq⟩ | ⟨go, Nx, hNx, step⟩
    · have td := T.done (X.blk s3 H3 scope ce fp) rfl rfl rfl hc i [] s5 _ H5 (fun _ _ => False) I5 (stat I5 n5) st5 stop
      refine thnF td fun r s6 ⟨hr, I6⟩ => ?_
      subst hr
      have I7 : Inv X pins σ H5 s6 := I3.call' (ch := fp) I6.os I6.base I6.hok I6.bare fun b hb => ⟨(f3 b hb).1.2.2.2.1, (f3 b hb).1.2.1, (f3 b hb).1.2.2.2.2.1, (f3 b hb).1.2.2.2.2.2⟩
      have nC : H5 s3.heap.objs.size = none := by
        have z : H5 ce.locals = none := I6.free
        rw [cL] at z
        exact z
      obtain ⟨m, hn, _⟩ := I6.loc
      have hn : s6.heap.Ns ce.locals m := hn
      rw [cL] at hn
      exact hRR D s3.heap.objs.size s6 m H5 I7 qq hn (I3.fpOk (Nat.le_refl _) nC)
    · have ti := T.item (X.blk s3 H3 scope ce fp) rfl rfl rfl hc i [] s5 _ H5 (fun _ _ => False) I5 (stat I5 n5) st5 go
      refine thnF ti fun r s6 ⟨u, hr, h6⟩ => ?_
      subst hr
      refine thnF h6 fun _ s7 ⟨x, H7, I7, r7, y7, st7, n7⟩ => ?_
      have I7' := I7.pinned (stat I7 n7) (T.obj _ _ st7)
      refine thnF (pg.run _ s7 _ H7 x u _ I7' r7 (step x H7 y7)) fun _ s8 ⟨σ8, H8, I8, hw8, q8⟩ => ?_
      refine thnF (pt.run _ s8 σ8 H8 _ I8 q8) fun b s9 ⟨H9, I9, q9⟩ => ?_
      have fin : ∀ {σ9 : L2.St} {s' : Shared} {H' : Hp}, Inv (X.blk s3 H3 scope ce fp) ([] ++ pinsAt fp s7.heap) σ9 H' s' → (wipe σ (own.map (·.2))).length = σ9.length → (∀ (j : Nat) v, (wipe σ (own.map (·.2)))[j]? = some (some v) → σ9[j]? = some (some v)) → Nx H' →
          ∃ m, m < n ∧ ∃ i H', Inv (X.blk s3 H3 scope ce fp) [] (wipe σ (own.map (·.2))) H' s' ∧ tn i s'.heap ∧ (∀ b ∈ fp, H' b = none) ∧ W i m H' := fun {σ9 s' H'} I' hl hk nx => by
        obtain ⟨m', hm, w'⟩ := hNx H' nx
        have pin' : ∀ b ∈ fp, ∀ o, s7.heap.get? b = some o → s'.heap.get? b = some o ∧ H' b = none := fun b hb o e =>
          let z := I'.pin (b, o) (List.mem_append_right _ (List.mem_append_right _ (mem_pinsAt hb e)))
          ⟨z.1, z.2.1⟩
        refine ⟨m', hm, i + 1, H', (I'.unpinned (pins := [])).weak hl hk, T.keep _ _ _ st7 fun b hb o e => (pin' b hb o e).1, fun b hb => ?_, w'⟩
        obtain ⟨o, e, _⟩ := T.obj _ _ st7 b hb
        exact (pin' b hb o e).2
      have hl8 : (wipe σ (own.map (·.2))).length = σ8.length := by rw [← hw8, wipe_length]
      cases b with
      | false =>
        simp only [Bool.false_eq_true, if_false] at q9 ⊢
        exact fin I9 hl8 (fun j v e => by rw [← hw8] at e; exact (wipe_some e).1) q9
      | true =>
        simp only [if_true] at q9 ⊢
        refine BodyWp.mono (innerN (Y := X.blk s3 H3 scope ce fp) hc (fun _ _ z => z) pe cs 1 rfl pcs hsub _ σ8 H9 s9 Nx _ I9 q9) fun s' ⟨σ', H', I', hl, hk, nx⟩ => ?_
        refine fin I' (by rw [hl8, hl]) (fun j v e => ?_) nx
        rw [← hw8] at e
        obtain ⟨e1, e2⟩ := wipe_some e
        refine hk j v ?_
        rw [wipe_out fun z => e2 (hv j z)]
        exact e1
  exact codeAny_compStart_list loop (T.self X.A 0 _ _ _ st4 loop)
/-- as a value -/
theorem pe_lcN {elt tg iter : Expr} {ifs : List Expr} {scope : Scope} {own : List (Str × Nat)} {pos : Pos} {wi : TI} {g : TG} {tt : TT} {te : TE} {cs : List Cl}
    (hc : X.calm = true) (hN : X.N.Nodup) (hi : PI X tg iter wi) (ok : BlkOk X.N X.env.scope scope own) (hv : ∀ i ∈ hdvs cs, i ∈ own.map (·.2)) (hsub : SubOk cs)
    (hg : ∀ (s : Shared) (H : Hp) (C : Addr) (cl : List (Str × Addr)) (fp : List Addr), PG (X.blk s H scope (compEnvC scope cl C X.env) fp) tg g) (ht : ∀ (s : Shared) (H : Hp) (C : Addr) (cl : List (Str × Addr)) (fp : List Addr), PTs (X.blk s H scope (compEnvC scope cl C X.env) fp) ifs tt)
    (he : ∀ (s : Shared) (H : Hp) (C : Addr) (cl : List (Str × Addr)) (fp : List Addr), PE (X.blk s H scope (compEnvC scope cl C X.env) fp) elt te) (hs : ∀ x, foldedSetIterable iter X.env x = pure x)
    (hcs : ∀ (s : Shared) (H : Hp) (C : Addr) (cl : List (Str × Addr)) (fp : List Addr), ∀ c ∈ cs, ClOk (X.blk s H scope (compEnvC scope cl C X.env) fp) c) :
    PE X (.ListComp elt (⟨tg, iter, ifs, 0⟩ :: cs.map Cl.gen) scope pos) (tLcN wi g tt (own.map (·.2)) cs te) := by
  refine ⟨fun pins s σ H Q I h => ?_⟩
  rw [eval_ListComp]
  refine coreN hc hN I hi ok hv hsub hg ht he hs hcs h fun D C s' m H' I' q hn f => ⟨m, hn, fun h'' sb => ?_⟩
  obtain ⟨f0, f1, f2, f3, f4, f5⟩ := f
  exact ⟨.ref D, H', I'.turned (t' := s'.toks) (fun b o hb e => (sb.2 b hb).trans e) f0 f1 f3 f4 f5, rfl, q⟩
theorem ps_setLcN {i : Nat} {y : Str} {py : Pos} {elt tg iter : Expr} {ifs : List Expr} {scope : Scope} {own : List (Str × Nat)} {pos spos : Pos} {wi : TI} {g : TG} {tt : TT} {te : TE} {cs : List Cl} (hc : X.calm = true) (hN : X.N.Nodup) (hy : X.N[i]? = some y) (hyl : X.env.scope.names.lookup y = some .local)
    (hsw : swapsWith (.ListComp elt (⟨tg, iter, ifs, 0⟩ :: cs.map Cl.gen) scope pos) (some (.Name y py)) spos.line X.env = pure true) (hi : PI X tg iter wi) (ok : BlkOk X.N X.env.scope scope own) (hv : ∀ i ∈ hdvs cs, i ∈ own.map (·.2)) (hsub : SubOk cs)
    (hg : ∀ (s : Shared) (H : Hp) (C : Addr) (cl : List (Str × Addr)) (fp : List Addr), PG (X.blk s H scope (compEnvC scope cl C X.env) fp) tg g) (ht : ∀ (s : Shared) (H : Hp) (C : Addr) (cl : List (Str × Addr)) (fp : List Addr), PTs (X.blk s H scope (compEnvC scope cl C X.env) fp) ifs tt)
    (he : ∀ (s : Shared) (H : Hp) (C : Addr) (cl : List (Str × Addr)) (fp : List Addr), PE (X.blk s H scope (compEnvC scope cl C X.env) fp) elt te) (hs : ∀ x, foldedSetIterable iter X.env x = pure x)
    (hcs : ∀ (s : Shared) (H : Hp) (C : Addr) (cl : List (Str × Addr)) (fp : List Addr), ∀ c ∈ cs, ClOk (X.blk s H scope (compEnvC scope cl C X.env) fp) c) :
    PS X (.Assign [.Name y py] (.ListComp elt (⟨tg, iter, ifs, 0⟩ :: cs.map Cl.gen) scope pos) spos) (tAsg (tLcN wi g tt (own.map (·.2)) cs te) (gName i)) := by
  refine ⟨fun pins s σ H D I h => ?_⟩
  rw [exec_Assign_Name_used _ _ _ _ hsw]
  refine wpAny_bind (wpAny_standAt (wpAny_bind ?_))
  show wpAny _ X.A (do let _ ← comprehension (.ListComp elt (⟨tg, iter, ifs, 0⟩ :: cs.map Cl.gen) scope pos) scope X.env (firstIterPos (⟨tg, iter, ifs, 0⟩ :: cs.map Cl.gen) pos) (newList []) false (eval iter X.env) (some (assign (.Name y py) X.env))) _ _ s
  have h : tLcN wi g tt (own.map (·.2)) cs te σ H (fun x H1 => gName i x σ H1 D.nx) := h
  refine wpAny_bind (thn (coreN (Qf := fun _ s' => SP X pins D .next s') hc hN I hi ok hv hsub hg ht he hs hcs h fun L C s' m H' I' q hn f => ?_) fun _ s' hq => wpAny_pure (wpAny_pure hq))
  show wpAny _ _ (assign (.Name y py) X.env (.ref L)) _ _ _
  refine wpAny_assign_Name (store_ok2 (v := V.ref L) I' hN hy (.inl hyl) rfl (fun s2 I2 ⟨a, sb, ha⟩ => ?_) (.inr hyl))
  obtain ⟨f0, f1, f2, f3, f4, f5⟩ := f
  have haC : C ≠ a := by
    rcases ha with z | z
    · rw [z]; exact f1
    · exact fun e => f4 y a z e.symm
  refine ⟨m, hn.sameBut sb haC, fun h3 sb3 => ?_⟩
  exact ⟨_, H', I2.turned (t' := s2.toks) (fun b o hb e => (sb3.2 b hb).trans e) f0 f1 f3 f4 f5, q⟩
end
end NT
set_option linter.all false
set_option maxRecDepth 100000
set_option autoImplicit false
set_option maxHeartbeats 1000000
namespace NT
open PySem PySem.Spec PyProof.Rows L2
/-! ### comprehensions of several clauses: soundness -/
/-- the list at D is being filled, since c1 -/
structure Fl (W : Wd) (c1 c : Cf) (D : Addr) (ys : List AV) : Prop where
  hx : c.x = D :: c1.x
  sim : Sim W c
  ex : Ex0 c1 c
  bz : ∀ p ∈ c1.x, c.H p = c1.H p
  acc : ∃ acc, c.H D = some (.lst acc) ∧ Reps W c acc ys
section
variable {W : Wd} {c1 c c4 : Cf} {D : Addr} {ys : List AV}
theorem Fl.later (f : Fl W c1 c D ys) (s4 : Sim W c4) (x4 : Ext c c4) : Fl W c1 c4 D ys := by
  obtain ⟨acc, h1, h2⟩ := f.acc
  have hD : D ∈ c.x := by rw [f.hx]; exact List.mem_cons_self
  refine ⟨x4.bx.trans f.hx, s4, f.ex.trans x4.toEx0, fun p hp => ?_, acc, by rw [x4.busy D hD]; exact h1, h2.to x4⟩
  rw [x4.busy p (by rw [f.hx]; exact List.mem_cons_of_mem _ hp)]
  exact f.bz p hp
theorem Fl.push (f : Fl W c1 c D ys) (h1D : c1.H D = none) (s1 : Sim W c1) {v : V} {y : AV} (r : Rep W c v y) (hl : ys.length + 1 ≤ line) :
    ∃ acc, c.H D = some (.lst acc) ∧ acc.length < sizeLine ∧ Fl W c1 { c with H := upd c.H D (.lst (acc ++ [v])) } D (ys ++ [y]) := by
  obtain ⟨acc, h1, h2⟩ := f.acc
  have hD : D ∈ c.x := by rw [f.hx]; exact List.mem_cons_self
  refine ⟨acc, h1, by rw [h2.length, line_eq]; omega, f.hx, Sim.fill f.sim hD noTab_lst, f.ex.trans (Ex0.fill f.sim hD), fun p hp => ?_, acc ++ [v], upd_same, (h2.append (.cons r .nil)).to0 (Ex0.fill f.sim hD)⟩
  show upd c.H D _ p = _
  rw [upd_ne fun z => (s1.bz p hp).1 (by rw [z]; exact h1D)]
  exact f.bz p hp
theorem it_any {J : It} {n : Nat} {G : Hp → Prop} {Y : Nat → Hp → V → Hp → Prop} (w : Walk J n G Y) {H4 : Hp} {Nx : Hp → Prop} {STEP : V → Hp → (Hp → Prop) → Prop} (Pv : Nat → Hp → Prop) (h0 : Pv 0 H4) (hG : ∀ i H, i ≤ n → Pv i H → G H)
    (hs : ∀ i x H H', i < n → Pv i H → Y i H x H' → STEP x H' (Pv (i + 1))) (hd : ∀ H, Pv n H → Nx H) :
    ∃ W : Nat → Nat → Hp → Prop, (∃ m, W 0 m H4) ∧ ∀ j k H, W j k H → (J.stop j H ∧ Nx H) ∨ (J.go j H ∧ ∃ Nx1 : Hp → Prop, (∀ H', Nx1 H' → ∃ k', k' < k ∧ W (j + 1) k' H') ∧ ∀ x H', J.yld j H x H' → STEP x H' Nx1) := by
  refine ⟨fun i m H => m = n - i ∧ i ≤ n ∧ Pv i H, ⟨n, by simp, Nat.zero_le _, h0⟩, ?_⟩
  rintro i m H ⟨rfl, hi, p⟩
  have q := hG i H hi p
  by_cases hlt : i < n
  · exact .inr ⟨w.goes i H hlt q, Pv (i + 1), fun H' p' => ⟨n - (i + 1), by omega, rfl, hlt, p'⟩, fun x H' y => hs i x H H' hlt p (w.yields i H x H' hlt q y)⟩
  · have e : i = n := by omega
    subst e
    exact .inl ⟨w.stops H q, hd H p⟩
end
/-- clauses and their IR -/
inductive ClsR (W : Wd) (K : PySem.W.Frag) (C : Orc) (te : TE) : List Cl → E → Prop
  | nil {ie : E} : (∀ (c : Cf) (S : L2.St) (σ : Loc) (Q : VK), Sim W c → LocR W c S σ → End W WF S c (Rep W) Q (ev C σ ie c.h) → te S c.H Q) → ClsR W K C te [] (.gel ie)
  | cons {cl : Cl} {cs : List Cl} {is : List Nat} {it icond body : E} : cl.g = gOf K is → (∀ i ∈ is, i ∈ cl.vs) →
      (∀ (c : Cf) (S : L2.St) (σ : Loc) (R : It → Hp → Prop), Sim W c → LocR W c S σ → End W WF S c (WalkA W) R (evI C σ it c.h) → cl.wi S c.H R) →
      (∀ (c : Cf) (S : L2.St) (σ : Loc) (Q : Bool → Hp → Prop), Sim W c → LocR W c S σ → End W WF S c (fun _ (b k : Bool) => b = k) Q (evT C σ icond c.h) → cl.tt S c.H Q) →
      ClsR W K C te cs body → ClsR W K C te (cl :: cs) (.gen is cl.vs it icond body)
theorem lcLL_cons {F : AV → M (List AV)} {a : AV} {xs : List AV} {h h' : AHeap} {zs : List AV} (e : lcLL F (a :: xs) h = .ok zs h') : ∃ o h1 r, F a h = .ok o h1 ∧ lcLL F xs h1 = .ok r h' ∧ zs = o ++ r := by
  obtain ⟨o, h1, e1, e⟩ := bind_ok (show M.bind (F a) (fun o => M.bind (lcLL F xs) fun r => M.pure (o ++ r)) h = .ok zs h' from e)
  obtain ⟨r, h2, e2, e⟩ := bind_ok e
  cases e
  exact ⟨o, h1, r, e1, e2, rfl⟩
/-- one clause's turns -/
noncomputable def clT (C : Orc) (σ : Loc) (is vs : List Nat) (icond body : E) : AV → M (List AV) := fun x => M.bind (bindT is x (wipeL σ vs)) fun σ2 => M.bind (evT C σ2 icond) fun k => if k = true then evG C σ2 body else M.pure []
section
variable {W : Wd} {K : PySem.W.Frag} {C : Orc} {te : TE}
/-- the turns of a clause fill the list -/
theorem turns_snd (hK : K = W.K) {c1 : Cf} {D : Addr} (s1 : Sim W c1) (h1D : c1.H D = none) {is vs : List Nat} (hsub : ∀ i ∈ is, i ∈ vs) {icond body : E} {tt : TT} {cs : List Cl}
    (htt : ∀ (c : Cf) (S : L2.St) (σ : Loc) (Q : Bool → Hp → Prop), Sim W c → LocR W c S σ → End W WF S c (fun _ (b k : Bool) => b = k) Q (evT C σ icond c.h) → tt S c.H Q)
    (ih : ∀ (c : Cf) (ys : List AV) (S : L2.St) (σ : Loc) (zs : List AV) (h3 : AHeap) (Nx : Hp → Prop), Fl W c1 c D ys → LocR W c S σ → evG C σ body c.h = .ok zs h3 → (ys ++ zs).length ≤ line → (∀ c', c'.h = h3 → Fl W c1 c' D (ys ++ zs) → Ex0 c c' → Nx c'.H) → tG te D cs S c.H Nx)
    {c2 : Cf} {J : It} {xs : List AV} (wk : WalkA W c2 J xs) {S : L2.St} {σ : Loc} (l2 : LocR W c2 S σ) {c0 : Cf} (x20 : Ex0 c2 c0) {ys zs : List AV} {h3 : AHeap} (f0 : Fl W c1 c0 D ys) (e : lcLL (clT C σ is vs icond body) xs c0.h = .ok zs h3) (hlen : (ys ++ zs).length ≤ line)
    {Nx : Hp → Prop} (hN : ∀ c', c'.h = h3 → Fl W c1 c' D (ys ++ zs) → Ex0 c0 c' → Nx c'.H) :
    ∃ W : Nat → Nat → Hp → Prop, (∃ m, W 0 m c0.H) ∧ ∀ j k H, W j k H → (J.stop j H ∧ Nx H) ∨ (J.go j H ∧ ∃ Nx1 : Hp → Prop, (∀ H', Nx1 H' → ∃ k', k' < k ∧ W (j + 1) k' H') ∧ ∀ x H', J.yld j H x H' → gOf K is x (wipe S vs) H' fun σ3 H5 => wipe σ3 vs = wipe S vs ∧ tt σ3 H5 fun b H6 =>
        if b = true then tG te D cs σ3 H6 Nx1 else Nx1 H6) := by
  obtain ⟨G, Y, w, hG, hY⟩ := wk
  refine it_any w (STEP := fun x H' Nx1 => gOf K is x (wipe S vs) H' fun σ3 H5 => wipe σ3 vs = wipe S vs ∧ tt σ3 H5 fun b H6 => if b = true then tG te D cs σ3 H6 Nx1 else Nx1 H6)
    (fun i H => ∃ (c : Cf) (us r : List AV), c.H = H ∧ Ex0 c0 c ∧ Fl W c1 c D us ∧ lcLL (clT C σ is vs icond body) (xs.drop i) c.h = .ok r h3 ∧ us ++ r = ys ++ zs) ⟨c0, ys, zs, rfl, Ex0.refl c0, f0, e, rfl⟩ ?_ ?_ ?_
  · rintro i H hi ⟨c, us, r, rfl, x0, _⟩
    exact hG c (x20.trans x0)
  · rintro i x H H' hi ⟨c, us, r, rfl, x0, f, e, hz⟩ hy
    have hxi : xs[i]? = some xs[i] := by simp [hi]
    obtain ⟨s3, x3, r3⟩ := hY i c x H' xs[i] hxi f.sim (x20.trans x0) hy
    rw [List.drop_eq_getElem_cons hi] at e
    generalize xs[i] = a at r3 e
    obtain ⟨o, h4, r', q, e', rfl⟩ := lcLL_cons e
    obtain ⟨σ2, h5, b1, q⟩ := bind_ok q
    have hh := bindT_ok b1
    subst hh
    obtain ⟨k, h6, b2, q⟩ := bind_ok q
    have l1 : LocR W { c with H := H' } (wipe S vs) (wipeL σ vs) := ((l2.to0 ((x20.trans x0).trans x3.toEx0)).wipe vs)
    have f3 : Fl W c1 { c with H := H' } D us := f.later s3 x3
    refine gOf_run hK (c := { c with H := H' }) l1 r3 b1 fun S2 l3 hw => ?_
    refine ⟨by rw [hw vs hsub]; exact wipe_wipe S vs vs fun _ h => h, ?_⟩
    refine htt { c with H := H' } S2 σ2 _ s3 l3 ?_
    show End W WF S2 _ _ _ (evT C σ2 icond c.h)
    rw [b2]
    intro ρ4 H4 b s4 x4 rb
    subst rb
    have f4 : Fl W c1 ⟨ρ4, h6, H4, c.x⟩ D us := f3.later s4 x4
    cases b with
    | false =>
      rw [if_neg (by decide)] at q ⊢
      cases q
      exact ⟨⟨ρ4, _, H4, c.x⟩, us, r', rfl, x0.trans (x3.trans x4).toEx0, f4, e', hz⟩
    | true =>
      rw [if_pos rfl] at q ⊢
      have hl2 : (us ++ o).length ≤ line := by
        have := congrArg List.length hz
        simp only [List.length_append] at this hlen ⊢
        omega
      refine ih ⟨ρ4, h6, H4, c.x⟩ us S2 σ2 o h4 _ f4 (l3.to x4) q hl2 fun c' hc' f' x5 => ?_
      exact ⟨c', us ++ o, r', rfl, (x0.trans (x3.trans x4).toEx0).trans x5, f', by rw [hc']; exact e', by rw [List.append_assoc]; exact hz⟩
  · rintro H ⟨c, us, r, rfl, x0, f, e, hz⟩
    rw [List.drop_length] at e
    cases e
    rw [List.append_nil] at hz
    subst hz
    exact hN c rfl f x0
theorem tG_snd (hK : K = W.K) {c1 : Cf} {D : Addr} (s1 : Sim W c1) (h1D : c1.H D = none) : ∀ {cs : List Cl} {body : E}, ClsR W K C te cs body → ∀ (c : Cf) (ys : List AV) (S : L2.St) (σ : Loc) (zs : List AV) (h3 : AHeap) (Nx : Hp → Prop),
    Fl W c1 c D ys → LocR W c S σ → evG C σ body c.h = .ok zs h3 → (ys ++ zs).length ≤ line → (∀ c', c'.h = h3 → Fl W c1 c' D (ys ++ zs) → Ex0 c c' → Nx c'.H) → tG te D cs S c.H Nx
  | _, _, .nil (ie := ie) hte, c, ys, S, σ, zs, h3, Nx, f, l, e, hlen, hN => by
    obtain ⟨y, h4, e1, e⟩ := bind_ok (show M.bind (ev C σ ie) (fun y => M.pure [y]) c.h = .ok zs h3 from e)
    cases e
    refine hte c S σ _ f.sim l ?_
    rw [e1]
    intro ρ4 H4 v s4 x4 rv
    have f4 : Fl W c1 ⟨ρ4, h3, H4, c.x⟩ D ys := f.later s4 x4
    obtain ⟨acc, a1, a2, f5⟩ := f4.push h1D s1 rv (by simpa using hlen)
    have hD : D ∈ (⟨ρ4, h3, H4, c.x⟩ : Cf).x := by rw [f4.hx]; exact List.mem_cons_self
    exact ⟨acc, a1, a2, hN _ rfl f5 (x4.toEx0.trans (Ex0.fill s4 hD))⟩
  | _, _, .cons (cl := cl) (cs := cs) (is := is) (it := it) (icond := icond) (body := body) hg hsub hit htt hr, c, ys, S, σ, zs, h3, Nx, f, l, e, hlen, hN => by
    obtain ⟨xs, h4, e1, e⟩ := bind_ok (show M.bind (evI C σ it) (fun xs => lcLL (clT C σ is cl.vs icond body) xs) c.h = .ok zs h3 from e)
    show cl.wi S c.H _
    refine hit c S σ _ f.sim l ?_
    rw [e1]
    intro ρ4 H4 J s4 x4 wk
    rw [hg]
    have f4 : Fl W c1 ⟨ρ4, h4, H4, c.x⟩ D ys := f.later s4 x4
    exact turns_snd hK s1 h1D hsub htt (fun c ys S σ zs h3 Nx => tG_snd hK s1 h1D hr c ys S σ zs h3 Nx) wk (l.to x4) (Ex0.refl _) f4 e hlen fun c' hc' f' x5 => hN c' hc' f' (x4.toEx0.trans x5)
/-- the list becomes one of the heap -/
theorem Ex0.adopt {c : Cf} (s : Sim W c) {D : Addr} {x : List Addr} (hx : c.x = D :: x) (o : AObj) : Ex0 c ⟨c.ρ ++ [D], c.h ++ [o], c.H, x⟩ where
  pre := fun k q h => by
    show (c.ρ ++ [D])[k]? = some q
    rw [List.getElem?_append_left (List.getElem?_eq_some_iff.mp h).1]; exact h
  keep := fun q u h _ _ => h
  nl := fun q u hq _ nl l => by
    rcases l with l | ⟨m, w, h1, h2, h3⟩
    · exact nl (.inl (by rw [hx]; exact List.mem_cons_of_mem _ l))
    · have h1 : (c.ρ ++ [D])[m]? = some q := h1
      have h2 : (c.h ++ [o])[m]? = some w := h2
      rcases app_get h1 with h1 | ⟨_, e⟩
      · rcases app_get h2 with h2 | ⟨e, _⟩
        · exact nl (.inr ⟨m, w, h1, h2, h3⟩)
        · rw [e, ← s.len, List.getElem?_eq_none (Nat.le_refl _)] at h1; cases h1
      · exact nl (.inl (by rw [hx, e]; exact List.mem_cons_self))
theorem Sim.adopt {c : Cf} (s : Sim W c) {D : Addr} {x : List Addr} (hx : c.x = D :: x) (hDx : D ∉ x) {acc : List V} {ys : List AV} (hD : c.H D = some (.lst acc)) (r : Reps W c acc ys) : Sim W ⟨c.ρ ++ [D], c.h ++ [.lst ys], c.H, x⟩ := by
  have ex := Ex0.adopt s hx (.lst ys)
  have hDm : D ∈ c.x := by rw [hx]; exact List.mem_cons_self
  have both : ∀ (m : Nat) (q : Addr) (u : AObj), (c.ρ ++ [D])[m]? = some q → (c.h ++ [.lst ys])[m]? = some u → (c.ρ[m]? = some q ∧ c.h[m]? = some u) ∨ (m = c.ρ.length ∧ q = D ∧ u = .lst ys) := fun m q u h1 h2 => by
    rcases app_get h1 with h1 | ⟨e1, e2⟩
    · rcases app_get h2 with h2 | ⟨e, _⟩
      · exact .inl ⟨h1, h2⟩
      · rw [e, ← s.len, List.getElem?_eq_none (Nat.le_refl _)] at h1; cases h1
    · rcases app_get h2 with h2 | ⟨_, e⟩
      · rw [e1, s.len, List.getElem?_eq_none (Nat.le_refl _)] at h2; cases h2
      · exact .inr ⟨e1, e2, e⟩
  have notD : ∀ (m : Nat) (u : AObj), c.ρ[m]? = some D → c.h[m]? = some u → u ≠ .dead → False := fun m u h1 h2 h3 => (s.bz D hDm).2 ⟨m, u, h1, h2, h3⟩
  refine ⟨by show (c.ρ ++ [D]).length = (c.h ++ [_]).length; rw [List.length_append, List.length_append, s.len]; rfl, fun i j q u u' h1 h2 h3 h4 h5 h6 => ?_, fun m u q h1 h2 => ?_, fun q hq => ⟨(s.bz q (by rw [hx]; exact List.mem_cons_of_mem _ hq)).1, fun ⟨m, u, h1, h2, h3⟩ => ?_⟩, s.tb, fun q hq u hu => ?_⟩
  · rcases both i q u h1 h3 with ⟨a1, a2⟩ | ⟨a1, a2, a3⟩
    · rcases both j q u' h2 h4 with ⟨b1, b2⟩ | ⟨b1, b2, b3⟩
      · exact s.inj i j q u u' a1 b1 a2 b2 h5 h6
      · subst b2; exact (notD i u a1 a2 h5).elim
    · rcases both j q u' h2 h4 with ⟨b1, b2⟩ | ⟨b1, b2, b3⟩
      · subst a2; exact (notD j u' b1 b2 h6).elim
      · rw [a1, b1]
  · rcases both m q u h2 h1 with ⟨a1, a2⟩ | ⟨a1, a2, a3⟩
    · exact (s.obj m u q a2 a1).ext ex rfl
    · subst a2 a3; exact ⟨acc, hD, r.to0 ex⟩
  · rcases both m q u h1 h2 with ⟨a1, a2⟩ | ⟨a1, a2, a3⟩
    · exact (s.bz q (by rw [hx]; exact List.mem_cons_of_mem _ hq)).2 ⟨m, u, a1, a2, h3⟩
    · subst a2; exact hDx hq
  · refine s.tl q ?_ u hu
    rcases hq with l | ⟨m, w, h1, h2, h3⟩
    · exact .inl (by rw [hx]; exact List.mem_cons_of_mem _ l)
    · rcases both m q w h1 h2 with ⟨a1, a2⟩ | ⟨_, a2, _⟩
      · exact .inr ⟨m, w, a1, a2, h3⟩
      · subst a2; exact .inl hDm
theorem lcLL_not {F : AV → M (List AV)} : True := trivial
theorem snd_lcN {Wx : WX} {X : Cx} {n : Nat} {tg iter : Expr} {own : List (Str × Nat)} {is : List Nat} {iit icond body : E} {tt : TT} {cs : List Cl} {m : Bool}
    (Kk : CtxOk W Wx n X) (hK : X.K = W.K) (hsub : ∀ i ∈ is, i ∈ own.map (·.2)) (hit : SndI W Wx X C tg iter iit)
    (htt : ∀ (c : Cf) (S : L2.St) (σ : Loc) (Q : Bool → Hp → Prop), Sim W c → LocR W c S σ → End W WF S c (fun _ (b k : Bool) => b = k) Q (evT C σ icond c.h) → tt S c.H Q)
    (hcs : ClsR W X.K C te cs body) :
    ∀ (c : Cf) (S : L2.St) (σ : Loc) (Q : VK), Sim W c → LocR W c S σ → End W Wx S c (Rep W) Q (ev C σ (.lcg m is (own.map (·.2)) iit icond body) c.h) → tLcN (wI X tg iter) (gOf X.K is) tt (own.map (·.2)) cs te S c.H Q := fun c S σ Q sim l e => by
  obtain ⟨vs, hvs⟩ : ∃ vs, own.map (·.2) = vs := ⟨_, rfl⟩
  rw [hvs] at e hsub ⊢
  have e : End W Wx S c (Rep W) Q (M.bind (evI C σ iit) (fun xs => M.bind (noexc (lcLL (clT C σ is vs icond body) xs)) fun zs => lstM m zs) c.h) := e
  refine hit c S σ _ sim l (End.bind e fun xs c1 J hx s1 x1 wk e1 => ?_)
  intro D hD
  unfold M.bind at e1
  cases q : noexc (lcLL (clT C σ is vs icond body) xs) c1.h with
  | bad => rw [q] at e1; exact e1.elim
  | exc _ _ _ _ => exact absurd q noexc_not
  | ok zs h3 =>
    rw [q] at e1
    have q := noexc_ok q
    have e1 : End W Wx S c1 (Rep W) Q (lstM m zs h3) := e1
    unfold lstM at e1
    by_cases hl : zs.length ≤ line
    · rw [if_pos hl] at e1
      have f0 : Fl W c1 ⟨c1.ρ, c1.h, upd c1.H D (.lst []), D :: c1.x⟩ D [] := ⟨rfl, s1.enter hD noTab_lst, Ex0.enter hD, fun p hp => upd_ne fun z => (s1.bz p hp).1 (by rw [z]; exact hD), [], upd_same, .nil⟩
      refine turns_snd hK s1 hD hsub htt (fun c ys S σ zs h3 Nx => tG_snd hK s1 hD hcs c ys S σ zs h3 Nx) wk (l.to x1) (Ex0.enter hD) f0 q (by simpa using hl) fun c' hc' f _ => ?_
      have f : Fl W c1 c' D zs := f
      obtain ⟨acc, a1, a2⟩ := f.acc
      have hDx : D ∉ c1.x := fun z => (s1.bz D z).1 hD
      cases m with
      | false =>
        rw [if_neg (by decide)] at e1
        have x5 : Ex0 c' { c' with x := c1.x } := Ex0.exit f.hx
        have e1 : End W Wx S c1 (Rep W) Q (.ok (.lst zs) h3) := e1
        rw [← hc'] at e1
        refine e1 c'.ρ c'.H (.ref D) (f.sim.exit f.hx) ⟨f.ex.trans x5, rfl, f.bz⟩ (.lst (.inl ⟨fun lv => ?_, .inl a1⟩) (a2.to0 x5))
        rcases lv with z | z
        · exact hDx z
        · exact (f.sim.bz D (by rw [f.hx]; exact List.mem_cons_self)).2 z
      | true =>
        rw [if_pos rfl] at e1
        have e1 : End W Wx S c1 (Rep W) Q (.ok (.ref h3.length) (h3 ++ [.lst zs])) := e1
        rw [← hc'] at e1
        refine e1 (c'.ρ ++ [D]) c'.H (.ref D) (Sim.adopt f.sim f.hx hDx a1 a2) ⟨f.ex.trans (Ex0.adopt f.sim f.hx _), rfl, f.bz⟩ (.ref ?_)
        show (c'.ρ ++ [D])[c'.h.length]? = some D
        rw [← f.sim.len, List.getElem?_append_right (Nat.le_refl _), Nat.sub_self]; rfl
    · rw [if_neg hl] at e1; exact e1.elim
end
end NT
set_option linter.all false
set_option maxRecDepth 100000
set_option autoImplicit false
namespace NT
open PySem PySem.Spec PyProof.Rows L2
def EndF (W : Wd) (Wx : WX) (c : Cf) (D : Ends) : Out NT.Flow → Prop
  | .ok (.nx σ') h' => ∀ (ρ' : List Addr) (H' : Hp) (S' : L2.St), Sim W ⟨ρ', h', H', c.x⟩ → Ext c ⟨ρ', h', H', c.x⟩ → LocR W ⟨ρ', h', H', c.x⟩ S' σ' → D.nx S' H'
  | .ok (.rt a) h' => ∀ (ρ' : List Addr) (H' : Hp) (v : V), Sim W ⟨ρ', h', H', c.x⟩ → Ext c ⟨ρ', h', H', c.x⟩ → Rep W ⟨ρ', h', H', c.x⟩ v a → D.rt v H'
  | .ok (.bk σ') h' => ∀ (ρ' : List Addr) (H' : Hp) (S' : L2.St), Sim W ⟨ρ', h', H', c.x⟩ → Ext c ⟨ρ', h', H', c.x⟩ → LocR W ⟨ρ', h', H', c.x⟩ S' σ' → D.bk S' H'
  | .ok (.ct σ') h' => ∀ (ρ' : List Addr) (H' : Hp) (S' : L2.St), Sim W ⟨ρ', h', H', c.x⟩ → Ext c ⟨ρ', h', H', c.x⟩ → LocR W ⟨ρ', h', H', c.x⟩ S' σ' → D.ct S' H'
  | .exc k ks xs h' => ∀ (ρ' : List Addr) (H' : Hp) (d : Addr) (fs : List (Str × V)) (S' : L2.St), Sim W ⟨ρ', h', H', c.x⟩ → Ext c ⟨ρ', h', H', c.x⟩ → ¬ Live ⟨ρ', h', H', c.x⟩ d → H' d = some (.xd fs) →
      fs.map (·.1) = ks.map W.nm → Reps W ⟨ρ', h', H', c.x⟩ (fs.map (·.2)) xs → Wx (.ref (W.clsA k)) (some d) S' H'
  | .bad => False
section
variable {W : Wd} {Wx : WX} {c c1 : Cf} {D D' : Ends}
theorem EndF.after {o : Out NT.Flow} (x : Ext c c1) (h : EndF W Wx c D o) : EndF W Wx c1 D o := by
  obtain ⟨ρ1, h1, H1, y1⟩ := c1
  have e : y1 = c.x := x.bx
  subst e
  cases o with
  | ok f h' =>
    cases f with
    | nx σ => exact fun ρ' H' S' s x' l => h ρ' H' S' s (x.trans x') l
    | rt v => exact fun ρ' H' S' s x' l => h ρ' H' S' s (x.trans x') l
    | bk σ => exact fun ρ' H' S' s x' l => h ρ' H' S' s (x.trans x') l
    | ct σ => exact fun ρ' H' S' s x' l => h ρ' H' S' s (x.trans x') l
  | exc k ks xs h' => exact fun ρ' H' d fs S' s x' => h ρ' H' d fs S' s (x.trans x')
  | bad => exact h
/-- an expression ahead of what follows -/
theorem EndF.bind {α β : Type} {R : Cf → β → α → Prop} {Q : β → Hp → Prop} {S : L2.St} {m : M α} {f : α → M NT.Flow} (h : EndF W Wx c D (M.bind m f c.h))
    (k : ∀ a (c1 : Cf) b, m c.h = .ok a c1.h → Sim W c1 → Ext c c1 → R c1 b a → EndF W Wx c1 D (f a c1.h) → Q b c1.H) : End W Wx S c R Q (m c.h) := by
  unfold M.bind at h
  cases e : m c.h with
  | ok a h1 =>
    rw [e] at h
    exact fun ρ1 H1 b s x r => k a ⟨ρ1, h1, H1, c.x⟩ b e s x r (EndF.after (c1 := ⟨ρ1, h1, H1, c.x⟩) x h)
  | exc q ks xs h1 => rw [e] at h; exact fun ρ' H' d fs => h ρ' H' d fs S
  | bad => rw [e] at h; exact h
theorem EndF.nx {σ' : Loc} {S' : L2.St} (h : EndF W Wx c D (.ok (.nx σ') c.h)) (s : Sim W c) (l : LocR W c S' σ') : D.nx S' c.H := h c.ρ c.H S' s (Ext.refl c) l
theorem EndF.rt {a : AV} {v : V} (h : EndF W Wx c D (.ok (.rt a) c.h)) (s : Sim W c) (r : Rep W c v a) : D.rt v c.H := h c.ρ c.H v s (Ext.refl c) r
end
section
variable (W : Wd) (Wx : WX) (X : Cx) (C : Orc)
def SndS (st : Stmt) (ir : S) : Prop := ∀ (c : Cf) (S : L2.St) (σ : Loc) (D : Ends), Sim W c → LocR W c S σ → EndF W Wx c D (xec C ir σ c.h) → wS X st D S c.H
def SndSs (st : List Stmt) (ir : S) : Prop := ∀ (c : Cf) (S : L2.St) (σ : Loc) (D : Ends), Sim W c → LocR W c S σ → EndF W Wx c D (xec C ir σ c.h) → wSs X st D S c.H
end
section
variable {W : Wd} {Wx : WX} {X : Cx} {C : Orc} {n : Nat} {st : Stmt} {rest ss tt : List Stmt} {a b d e tg : Expr} {ia ib id ie : E} {is js : NT.S} {pos : Pos}
theorem sndSs_nil : SndSs W Wx X C [] .skip := fun c S σ D sim l e => wSs_of pss_nil (EndF.nx e sim l)
theorem sndSs_cons (h1 : SndS W Wx X C st is) (h2 : SndSs W Wx X C rest js) : SndSs W Wx X C (st :: rest) (.seq is js) := fun c S σ D sim l e => by
  refine wSs_of (pss_cons ps_w pss_w) (h1 c S σ _ sim l ?_)
  have e : EndF W Wx c D (M.bind (xec C is σ) (fun f => match f with | .nx σ' => xec C js σ' | .rt v => M.pure (.rt v) | .bk σ' => M.pure (.bk σ') | .ct σ' => M.pure (.ct σ')) c.h) := e
  unfold M.bind at e
  cases q : xec C is σ c.h with
  | bad => rw [q] at e; exact e
  | exc k ks xs h' => rw [q] at e; exact e
  | ok f h' =>
    rw [q] at e
    cases f with
    | nx σ1 => exact fun ρ1 H1 S1 s1 x1 l1 => h2 ⟨ρ1, h', H1, c.x⟩ S1 σ1 D s1 l1 (EndF.after (c1 := ⟨ρ1, h', H1, c.x⟩) x1 e)
    | rt v => exact e
    | bk σ1 => exact e
    | ct σ1 => exact e
theorem snd_pass : SndS W Wx X C (.Pass pos) .skip := fun c S σ D sim l e => wS_of ps_pass (EndF.nx e sim l)
theorem snd_brk : SndS W Wx X C (.Break pos) .brk := fun c S σ D sim l e => wS_of ps_break (show D.bk S c.H from e c.ρ c.H S sim (Ext.refl c) l)
theorem snd_cnt : SndS W Wx X C (.Continue pos) .cnt := fun c S σ D sim l e => wS_of ps_continue (show D.ct S c.H from e c.ρ c.H S sim (Ext.refl c) l)
theorem snd_doc {x : Str} {j : Nat} {p : Pos} : SndS W Wx X C (.Expr (.Constant (.str x) j p) pos) .skip := fun c S σ D sim l e => wS_of ps_doc (EndF.nx e sim l)
theorem snd_expr (he : SndE W Wx X C e ie) (hs : swapsWith e none pos.line X.env = pure false) : SndS W Wx X C (.Expr e pos) (.expr ie) := fun c S σ D sim l en =>
  wS_of (ps_expr pe_w hs) (he c S σ _ sim l (EndF.bind en fun x c1 v _ s1 x1 r1 e1 => EndF.nx e1 s1 (l.to x1)))
theorem snd_ret (he : SndE W Wx X C e ie) : SndS W Wx X C (.Return (some e) pos) (.ret ie) := fun c S σ D sim l en =>
  wS_of (ps_ret pe_w) (he c S σ _ sim l (EndF.bind en fun x c1 v _ s1 x1 r1 e1 => EndF.rt e1 s1 r1))
theorem snd_retN : SndS W Wx X C (.Return none pos) (.ret (.cst .non)) := fun c S σ D sim l en => wS_of ps_retN (EndF.rt en sim .non)
theorem snd_asg (K : CtxOk W Wx n X) {i : Nat} {x : Str} {p : Pos} (hi : X.N[i]? = some x) (hx : L2.Loc X.env.scope x) (hf : X.fn x = true ∨ X.env.scope.names.lookup x = some .local) (he : SndE W Wx X C e ie) (hs : swapsWith e (some (.Name x p)) pos.line X.env = pure false) :
    SndS W Wx X C (.Assign [.Name x p] e pos) (.asg i ie) := fun c S σ D sim l en =>
  wS_of (ps_set K.nd hi hx pe_w hs hf) (he c S σ _ sim l (EndF.bind en fun x c1 v _ s1 x1 r1 e1 => EndF.nx e1 s1 ((l.to x1).set r1 i)))
/-- a, b = e -/
theorem snd_unp (K : CtxOk W Wx n X) {is : List Nat} (ht : Tgt X tg is) (he : SndE W Wx X C e ie) (hs : swapsWithSole [tg] e pos.line X.env = pure false) (hw : swappedStores [tg] e X.env = pure none) : SndS W Wx X C (.Assign [tg] e pos) (.unp is ie) := fun c S σ D sim l en => by
  have h1 : (assignEach [tg] X.env).map (·.2) = [assign tg X.env] := by cases ht <;> rfl
  refine wS_of (ps_asg pe_w (ht.pg K.nd K.calm) hs hw h1) (he c S σ _ sim l (EndF.bind en fun x c1 v _ s1 x1 r1 e1 => ?_))
  cases q : bindT is x σ c1.h with
  | bad => unfold M.bind at e1; rw [q] at e1; exact e1.elim
  | exc k ks xs h' =>
    unfold bindT at q
    split at q
    · cases q
    · split at q
      · cases z : NT.setN is _ σ <;> rw [z] at q <;> cases q
      · cases z : NT.setN is _ σ <;> rw [z] at q <;> cases q
      · cases q
  | ok σ' h' =>
    have hh := bindT_ok q
    subst hh
    unfold M.bind at e1
    rw [q] at e1
    exact gOf_run K.hK (l.to x1) r1 q fun S' l' _ => EndF.nx e1 s1 l'
theorem snd_par2 (K : CtxOk W Wx n X) {i j : Nat} {x y : Str} {px py pt pt2 : Pos} {kt k2 : Nat} (hi : X.N[i]? = some x) (hj : X.N[j]? = some y) (hij : i ≠ j) (hx : X.env.scope.names.lookup x = some .local) (hy : X.env.scope.names.lookup y = some .local) (ha : SndA W Wx X C [a, b] ia)
    (hw : swappedStores [.Tuple [.Name x px, .Name y py] kt pt] (.Tuple [a, b] k2 pt2) X.env = pure (some [x, y])) : SndS W Wx X C (.Assign [.Tuple [.Name x px, .Name y py] kt pt] (.Tuple [a, b] k2 pt2) pos) (.par [i, j] ia) := fun c S σ D sim l en => by
  refine wS_of (ps_par K.calm K.nd hi hj hij hx hy pa_w hw rfl) (ha c S σ _ sim l (EndF.bind en fun xs c1 vs _ s1 x1 r1 e1 => ?_))
  match xs, vs, r1, e1 with
  | [p, q], _, .cons (v := v) r1 (.cons (v := w) r2 .nil), e1 => exact ⟨v, w, rfl, EndF.nx e1 s1 (((l.to x1).set r1 i).set r2 j)⟩
  | [], _, _, e1 => exact e1.elim
  | [_], _, _, e1 => exact e1.elim
  | _ :: _ :: _ :: _, _, _, e1 => exact e1.elim
theorem snd_par3 (K : CtxOk W Wx n X) {i j k : Nat} {x y z : Str} {px py pz pt pt2 : Pos} {kt k2 : Nat} (hi : X.N[i]? = some x) (hj : X.N[j]? = some y) (hk : X.N[k]? = some z) (hij : i ≠ j) (hik : i ≠ k) (hjk : j ≠ k) (hx : X.env.scope.names.lookup x = some .local) (hy : X.env.scope.names.lookup y = some .local) (hz : X.env.scope.names.lookup z = some .local) (ha : SndA W Wx X C [a, b, d] ia)
    (hw : swappedStores [.Tuple [.Name x px, .Name y py, .Name z pz] kt pt] (.Tuple [a, b, d] k2 pt2) X.env = pure (some [x, y, z])) : SndS W Wx X C (.Assign [.Tuple [.Name x px, .Name y py, .Name z pz] kt pt] (.Tuple [a, b, d] k2 pt2) pos) (.par [i, j, k] ia) := fun c S σ D sim l en => by
  refine wS_of (ps_par3 K.calm K.nd hi hj hk hij hik hjk hx hy hz pa_w hw rfl) (ha c S σ _ sim l (EndF.bind en fun xs c1 vs _ s1 x1 r1 e1 => ?_))
  match xs, vs, r1, e1 with
  | [p, q, r], _, .cons (v := v) r1 (.cons (v := w) r2 (.cons (v := u) r3 .nil)), e1 => exact ⟨v, w, u, rfl, EndF.nx e1 s1 ((((l.to x1).set r1 i).set r2 j).set r3 k)⟩
  | [], _, _, e1 => exact e1.elim
  | [_], _, _, e1 => exact e1.elim
  | [_, _], _, _, e1 => exact e1.elim
  | _ :: _ :: _ :: _ :: _, _, _, e1 => exact e1.elim
theorem snd_setSub (K : CtxOk W Wx n X) {p : Pos} (ho : SndE W Wx X C a ia) (hi : SndE W Wx X C b ib) (he : SndE W Wx X C e ie) (hs : swapsWithSole [.Subscript a b p] e pos.line X.env = pure false) (hw : swappedStores [.Subscript a b p] e X.env = pure none)
    (hset : ∀ v, assign (.Subscript a b p) X.env v = (do
      let ov ← holding [v] (eval a X.env)
      let iv ← holding [v, ov] (eval b X.env)
      standAt p
      holding [v, ov, iv] (setItem ov iv v)
      release [v, ov, iv] [])) :
    SndS W Wx X C (.Assign [.Subscript a b p] e pos) (.setSub ia ib ie) := fun c S σ D sim l en => by
  refine wS_of (ps_asg pe_w (pg_sub pe_w pe_w (setSub_snd (W := W)) hset) hs hw rfl) (he c S σ _ sim l (EndF.bind en fun x c1 v _ s1 x1 r1 e1 => ?_))
  refine ho c1 S σ _ s1 (l.to x1) (EndF.bind e1 fun y c2 w _ s2 x2 r2 e2 => ?_)
  refine hi c2 S σ _ s2 (l.to (x1.trans x2)) (EndF.bind e2 fun z c3 u _ s3 x3 r3 e3 => ?_)
  exact ⟨c3, y, z, x, Wx, S, rfl, s3, r2.to x3, r3, r1.to (x2.trans x3), EndF.bind e3 fun _ c4 _ _ s4 x4 _ e4 => EndF.nx e4 s4 (l.to (x1.trans (x2.trans (x3.trans x4))))⟩
theorem aug_snd {op : Operator} : PIp X op (fun x y H Q => ∃ (c : Cf) (a b : AV) (Wx : WX) (S : L2.St), c.H = H ∧ Sim W c ∧ Rep W c x a ∧ Rep W c y b ∧ End W Wx S c (Rep W) Q (augV op a b c.h)) := by
  rintro pins s σ H x y v u Q I rx ry ⟨c, a, b, Wx, S, rfl, sim, ra, rb, e⟩
  unfold augV at e
  split at e
  · cases ra; cases rb
    exact iop_add pins s σ _ _ _ v u Q I rx ry ⟨_, _, rfl, rfl, e.here sim (.int _)⟩
  · cases ra; cases rb
    exact iop_sub pins s σ _ _ _ v u Q I rx ry ⟨_, _, rfl, rfl, e.here sim (.int _)⟩
  · cases ra; cases rb
    obtain ⟨g, e⟩ := e.ok1
    simp only [Bool.or_eq_true, decide_eq_true_eq] at g
    refine iop_mul pins s σ _ _ _ v u Q I rx ry ⟨_, _, rfl, rfl, ?_, e.here sim (.int _)⟩
    rcases g with g | g
    · exact .inl ⟨by omega, by omega⟩
    · exact .inr ⟨by omega, by omega⟩
  · cases ra; cases rb
    obtain ⟨g, e⟩ := e.ok1
    simp only [Bool.and_eq_true, decide_eq_true_eq] at g
    exact iop_fdiv pins s σ _ _ _ v u Q I rx ry ⟨_, _, rfl, rfl, g, e.here sim (.int _)⟩
  · cases ra; cases rb
    obtain ⟨g, e⟩ := e.ok1
    exact iop_add_str pins s σ _ _ _ v u Q I rx ry ⟨_, _, rfl, rfl, by rw [line_eq]; exact of_decide_eq_true g, e.here sim (.str _)⟩
  · exact e.elim
theorem snd_aug (K : CtxOk W Wx n X) {op : Operator} {i : Nat} {x : Str} {p : Pos} (hi : X.N[i]? = some x) (hx : L2.Loc X.env.scope x) (hf : X.fn x = true ∨ X.env.scope.names.lookup x = some .local) (he : SndE W Wx X C e ie) : SndS W Wx X C (.AugAssign (.Name x p) op e pos) (.aug i op ie) := fun c S σ D sim l en => by
  have en : EndF W Wx c D (M.bind (lget σ i) (fun x => M.bind (ev C σ ie) fun y => M.bind (augV op x y) fun z => M.pure (.nx (σ.set i (some z)))) c.h) := en
  unfold lget at en
  cases q : σ[i]?.getD none with
  | none => rw [q] at en; exact en.elim
  | some a =>
    rw [q] at en
    obtain ⟨v, h1, h2⟩ := l.2 i a (lget_some q)
    refine wS_of (ps_aug K.nd hi hx pe_w (aug_snd (W := W)) hf) ⟨v, h1, he c S σ _ sim l (EndF.bind (m := ev C σ ie) en fun y c1 w _ s1 x1 r1 e1 => ?_)⟩
    exact ⟨c1, a, y, Wx, S, rfl, s1, h2.to x1, r1, EndF.bind e1 fun z c2 u _ s2 x2 r2 e2 => EndF.nx e2 s2 ((l.to (x1.trans x2)).set r2 i)⟩
theorem snd_ife {t : Expr} {it : E} (ht : SndT W Wx X C t it) (h1 : SndSs W Wx X C ss is) (h2 : SndSs W Wx X C tt js) : SndS W Wx X C (.If t ss tt pos) (.ife it is js) := fun c S σ D sim l en => by
  refine wS_of (ps_if pt_w pss_w pss_w) (ht c S σ _ sim l (EndF.bind en fun k c1 b _ s1 x1 r1 e1 => ?_))
  subst r1
  cases b with
  | true => rw [if_pos rfl] at e1 ⊢; exact h1 c1 S σ D s1 (l.to x1) e1
  | false => rw [if_neg (by decide)] at e1 ⊢; exact h2 c1 S σ D s1 (l.to x1) e1

theorem forL_cons {body : AV → Loc → M NT.Flow} {x : AV} {xs : List AV} {σ : Loc} (h : AHeap) : forL body (x :: xs) σ h = (match body x σ h with
  | .ok (.nx σ') h1 => forL body xs σ' h1
  | .ok (.ct σ') h1 => forL body xs σ' h1
  | .ok (.bk σ') h1 => .ok (.nx σ') h1
  | .ok (.rt v) h1 => .ok (.rt v) h1
  | .exc c ks vs h1 => .exc c ks vs h1
  | .bad => .bad) := by
  simp only [forL, M.bind]
  cases body x σ h with
  | ok f h1 => cases f <;> rfl
  | exc _ _ _ _ => rfl
  | bad => rfl
theorem snd_for (K : CtxOk W Wx n X) (po : PassesOwn (model X.prog X.w) X.A X.env X.xe) {iter : Expr} {iit : E} {ts : List Nat} (hi : SndI W Wx X C tg iter iit) (ht : Tgt X tg ts) (hb : SndSs W Wx X C ss is) (hs : ∀ x, foldedSetIterable iter X.env x = pure x) :
    SndS W Wx X C (.For tg iter ss [] pos) (.for_ ts iit is) := fun c S σ D sim l en => by
  obtain ⟨body, hbd⟩ : ∃ body : AV → Loc → M NT.Flow, body = (fun x σ' => M.bind (bindT ts x σ') fun σ2 => xec C is σ2) := ⟨_, rfl⟩
  have en : EndF W Wx c D (M.bind (evI C σ iit) (fun xs => forL body xs σ) c.h) := by rw [hbd]; exact en
  refine wS_of (ps_for po K.calm pi_w (ht.pg K.nd K.calm) pss_w hs) (hi c S σ _ sim l (EndF.bind en fun xs c1 J _ s1 x1 wk e1 => ?_))
  obtain ⟨G, Y, w, hG, hY⟩ := wk
  refine for_it w (fun i S' H => ∃ (c' : Cf) (σ' : Loc), c'.H = H ∧ Sim W c' ∧ Ext c1 c' ∧ LocR W c' S' σ' ∧ EndF W Wx c1 D (forL body (xs.drop i) σ' c'.h)) ?_ ?_ ?_ ?_
  · exact ⟨c1, σ, rfl, s1, Ext.refl c1, l.to x1, e1⟩
  · rintro i S' H hi ⟨c', σ', rfl, _, x0, _⟩
    exact hG c' x0.toEx0
  · rintro i x S' H H' hi ⟨c', σ', rfl, s', x0, l', e'⟩ hy
    have hxi : xs[i]? = some xs[i] := by simp [hi]
    obtain ⟨s2, x2, r2⟩ := hY i c' x H' xs[i] hxi s' x0.toEx0 hy
    rw [List.drop_eq_getElem_cons hi, forL_cons] at e'
    generalize xs[i] = a at r2 e'
    cases q : bindT ts a σ' c'.h with
    | bad =>
      have z : body a σ' c'.h = .bad := by rw [hbd]; unfold M.bind; simp only [q]
      rw [z] at e'; exact e'.elim
    | exc k ks us h' =>
      unfold bindT at q
      split at q
      · cases q
      · split at q
        · cases z : NT.setN ts _ σ' <;> rw [z] at q <;> cases q
        · cases z : NT.setN ts _ σ' <;> rw [z] at q <;> cases q
        · cases q
    | ok σ2 h' =>
      have hh := bindT_ok q
      subst hh
      have z : body a σ' c'.h = xec C is σ2 c'.h := by rw [hbd]; show M.bind _ _ _ = _; unfold M.bind; rw [q]
      rw [z] at e'
      refine gOf_run K.hK (c := { c' with H := H' }) (l'.to x2) r2 q fun S2 l2 _ => ?_
      refine hb { c' with H := H' } S2 σ2 _ s2 l2 ?_
      have x3 : Ext c1 { c' with H := H' } := x0.trans x2
      have next : ∀ {σ3 : Loc} {h3 : AHeap} {ρ3 : List Addr} {H3 : Hp} {S3 : L2.St}, EndF W Wx c1 D (forL body (xs.drop (i + 1)) σ3 h3) → Sim W ⟨ρ3, h3, H3, c'.x⟩ → Ext { c' with H := H' } ⟨ρ3, h3, H3, c'.x⟩ → LocR W ⟨ρ3, h3, H3, c'.x⟩ S3 σ3 →
          ∃ (c' : Cf) (σ' : Loc), c'.H = H3 ∧ Sim W c' ∧ Ext c1 c' ∧ LocR W c' S3 σ' ∧ EndF W Wx c1 D (forL body (xs.drop (i + 1)) σ' c'.h) := fun {σ3 h3 ρ3 H3 S3} e3 s3 x4 l3 => ⟨⟨ρ3, h3, H3, c'.x⟩, σ3, rfl, s3, x3.trans x4, l3, e3⟩
      show EndF W Wx { c' with H := H' } _ (xec C is σ2 c'.h)
      cases q2 : xec C is σ2 c'.h with
      | bad => rw [q2] at e'; exact e'
      | exc k ks us h3 => rw [q2] at e'; exact EndF.after (c1 := { c' with H := H' }) x3 (D := _) (o := .exc k ks us h3) (show EndF W Wx c1 _ (.exc k ks us h3) from e')
      | ok f h3 =>
        rw [q2] at e'
        cases f with
        | nx σ3 => exact fun ρ3 H3 S3 s3 x4 l3 => next e' s3 x4 l3
        | ct σ3 => exact fun ρ3 H3 S3 s3 x4 l3 => next e' s3 x4 l3
        | bk σ3 =>
          have e2 : EndF W Wx { c' with H := H' } D (.ok (.nx σ3) h3) := EndF.after (c1 := { c' with H := H' }) x3 e'
          exact e2
        | rt v =>
          have e2 : EndF W Wx { c' with H := H' } D (.ok (.rt v) h3) := EndF.after (c1 := { c' with H := H' }) x3 e'
          exact e2
  · rintro S' H ⟨c', σ', rfl, s', x0, l', e'⟩
    rw [List.drop_length] at e'
    exact EndF.nx (EndF.after x0 e') s' l'
theorem snd_whl (hwh : C.whl = NT.whl) (po : PassesOwn (model X.prog X.w) X.A X.env X.xe) {t : Expr} {it : E} (ht : SndT W Wx X C t it) (hb : SndSs W Wx X C ss is) : SndS W Wx X C (.While t ss [] pos) (.whl it is) := fun c S σ D sim l en => by
  obtain ⟨tf, htf⟩ : ∃ tf : Loc → M Bool, tf = (fun σ' => evT C σ' it) := ⟨_, rfl⟩
  obtain ⟨bf, hbf⟩ : ∃ bf : Loc → M NT.Flow, bf = (fun σ' => xec C is σ') := ⟨_, rfl⟩
  have en : EndF W Wx c D (whl tf bf σ c.h) := by rw [htf, hbf, ← hwh]; exact en
  obtain ⟨m0, hm0⟩ := whl_some (t := tf) (body := bf) (σ := σ) (h := c.h) rfl (fun z => by rw [z] at en; exact en)
  refine wS_of (ps_while po pt_w pss_w) ⟨fun m S' H => ∃ (c' : Cf) (σ' : Loc) (r : Out NT.Flow), c'.H = H ∧ Sim W c' ∧ Ext c c' ∧ LocR W c' S' σ' ∧ whlN tf bf m σ' c'.h = some r ∧ EndF W Wx c D r, ⟨m0, c, σ, _, rfl, sim, Ext.refl c, l, hm0, en⟩, ?_⟩
  rintro m S' H ⟨c', σ', r, rfl, s', x0, l', hm, e'⟩
  cases m with
  | zero => cases hm
  | succ k =>
    unfold whlN at hm
    refine ht c' S' σ' _ s' l' ?_
    have ct : tf σ' c'.h = evT C σ' it c'.h := by rw [htf]
    rw [ct] at hm
    cases q : evT C σ' it c'.h with
    | bad => rw [q] at hm; cases hm; exact e'.elim
    | exc k ks us h1 =>
      rw [q] at hm; cases hm
      have e2 := EndF.after x0 e'
      exact fun ρ' H' d fs => e2 ρ' H' d fs S'
    | ok b h1 =>
      rw [q] at hm
      intro ρ1 H1 b' s1 x1 rb
      subst rb
      have x2 : Ext c ⟨ρ1, h1, H1, c'.x⟩ := x0.trans x1
      cases b' with
      | false =>
        rw [if_neg (by decide)]
        cases hm
        exact EndF.nx (c := ⟨ρ1, h1, H1, c'.x⟩) (EndF.after (c1 := ⟨ρ1, h1, H1, c'.x⟩) x2 e') s1 (l'.to x1)
      | true =>
        rw [if_pos rfl]
        refine ⟨fun S3 H3 => ∃ (c' : Cf) (σ' : Loc) (r : Out NT.Flow), c'.H = H3 ∧ Sim W c' ∧ Ext c c' ∧ LocR W c' S3 σ' ∧ whlN tf bf k σ' c'.h = some r ∧ EndF W Wx c D r, fun S3 H3 h => ⟨k, Nat.lt_succ_self k, h⟩, ?_⟩
        refine hb ⟨ρ1, h1, H1, c'.x⟩ S' σ' _ s1 (l'.to x1) ?_
        have cb : bf σ' h1 = xec C is σ' h1 := by rw [hbf]
        simp only [cb] at hm
        show EndF W Wx ⟨ρ1, h1, H1, c'.x⟩ _ (xec C is σ' h1)
        cases q2 : xec C is σ' h1 with
        | bad => rw [q2] at hm; cases hm; exact e'.elim
        | exc k ks us h2 =>
          rw [q2] at hm; cases hm
          have e2 : EndF W Wx ⟨ρ1, h1, H1, c'.x⟩ D (.exc k ks us h2) := EndF.after (c1 := ⟨ρ1, h1, H1, c'.x⟩) x2 e'
          exact e2
        | ok f h2 =>
          rw [q2] at hm
          cases f with
          | nx σ3 => exact fun ρ3 H3 S3 s3 x3 l3 => ⟨⟨ρ3, h2, H3, c'.x⟩, σ3, r, rfl, s3, x2.trans x3, l3, hm, e'⟩
          | ct σ3 => exact fun ρ3 H3 S3 s3 x3 l3 => ⟨⟨ρ3, h2, H3, c'.x⟩, σ3, r, rfl, s3, x2.trans x3, l3, hm, e'⟩
          | bk σ3 =>
            cases hm
            have e2 : EndF W Wx ⟨ρ1, h1, H1, c'.x⟩ D (.ok (.nx σ3) h2) := EndF.after (c1 := ⟨ρ1, h1, H1, c'.x⟩) x2 e'
            exact e2
          | rt v =>
            cases hm
            have e2 : EndF W Wx ⟨ρ1, h1, H1, c'.x⟩ D (.ok (.rt v) h2) := EndF.after (c1 := ⟨ρ1, h1, H1, c'.x⟩) x2 e'
            exact e2
end
end NT
set_option linter.all false
set_option maxRecDepth 100000
set_option autoImplicit false
namespace NT
open PySem PySem.Spec PyProof.Rows L2
section
variable {W : Wd} {Wx : WX} {X : Cx} {C : Orc} {n m : Nat}
theorem putF_rep {c : Cf} (inj : ∀ i j, W.nm i = W.nm j → i = j) {f : Nat} {y : V} {a : AV} (ry : Rep W c y a) : ∀ {fs : List (Str × V)} {ks : List Nat} {xs : List AV}, fs.map (·.1) = ks.map W.nm → Reps W c (fs.map (·.2)) xs →
    (L2.putF (W.nm f) y fs).map (·.1) = (NT.putF f a ks xs).1.map W.nm ∧ Reps W c ((L2.putF (W.nm f) y fs).map (·.2)) (NT.putF f a ks xs).2
  | [], ks, xs, e, r => by
    cases ks with
    | nil => exact ⟨rfl, .cons ry .nil⟩
    | cons k ks => simp at e
  | (g, w) :: fs, [], _, e, r => by simp at e
  | (g, w) :: fs, k :: ks, _, e, r => by
    simp only [List.map_cons, List.cons.injEq] at e
    obtain ⟨e1, e2⟩ := e
    subst e1
    cases r with
    | cons r1 r2 =>
      rename_i z zs
      have ih := putF_rep (f := f) inj ry e2 r2
      show ((if W.nm k = W.nm f then (W.nm k, y) :: fs else (W.nm k, w) :: L2.putF (W.nm f) y fs).map (·.1) = _) ∧ Reps W c ((if W.nm k = W.nm f then (W.nm k, y) :: fs else (W.nm k, w) :: L2.putF (W.nm f) y fs).map (·.2)) _
      simp only [NT.putF]
      by_cases hk : k = f
      · subst hk
        simp only [if_true]
        exact ⟨by simp [e2], .cons ry r2⟩
      · have hk2 : W.nm k ≠ W.nm f := fun z => hk (inj _ _ z)
        rw [if_neg hk2, if_neg hk]
        exact ⟨by simp [ih.1], .cons r1 ih.2⟩
/-- o.f = e -/
theorem snd_setFld (K : CtxOk W Wx m X) (O : COk W n C) {f : Nat} {o e : Expr} {io ie : E} {pos pos' : Pos} (ho : SndE W Wx X C o io) (he : SndE W Wx X C e ie) (hs : swapsWith e (some (.Attribute o (W.nm f) pos')) pos.line X.env = pure false) :
    SndS W Wx X C (.Assign [.Attribute o (W.nm f) pos'] e pos) (.setFld io f ie) := fun c S σ D sim l en => by
  refine wS_of (ps_fld pe_w pe_w hs) (he c S σ _ sim l (EndF.bind en fun x c1 v _ s1 x1 r1 e1 => ?_))
  refine ho c1 S σ _ s1 (l.to x1) (EndF.bind e1 fun y c2 w hev s2 x2 r2 e2 => ?_)
  clear hev
  have l2 := l.to (x1.trans x2)
  unfold M.bind setFldV at e2
  cases r2 with
  | ref hp =>
    rename_i p nn
    simp only at e2
    cases hh : c2.h[nn]? with
    | none => rw [hh] at e2; exact e2.elim
    | some ob =>
      rw [hh] at e2
      cases ob with
      | ins k ks xs =>
        simp only at e2
        split at e2
        · rename_i a h' hq
          split at hq
          · rename_i ha
            split at hq
            · rename_i hl
              cases hq
              obtain ⟨hc, hk⟩ := O.ct.attr _ _ _ ha
              obtain ⟨dx, fs, g1, g2, g3⟩ := s2.obj nn _ p hh hp
              have hlen : fs.length = ks.length := by have := congrArg List.length g2; simpa using this
              refine ⟨p, W.clsA k, dx, fs, rfl, g1, by rw [K.hK]; exact hc, by rw [K.hK]; exact hk, by omega, ?_⟩
              have xw := Ext.write (o' := .ins k (NT.putF f x ks xs).1 (NT.putF f x ks xs).2) (ho := .ins (W.clsA k) dx (L2.putF (W.nm f) v fs)) s2 hh (by simp) hp
              obtain ⟨p1, p2⟩ := putF_rep O.ct.inj (r1.to x2) g2 g3
              have sw := Sim.write (o' := .ins k (NT.putF f x ks xs).1 (NT.putF f x ks xs).2) (ho := .ins (W.clsA k) dx (L2.putF (W.nm f) v fs)) s2 hh (by simp) hp ⟨dx, _, upd_same, p1, p2.to xw⟩ noTab_ins
              exact e2 _ _ S sw xw (l2.to xw)
            · cases hq
          · cases hq
        · rename_i hq
          exfalso
          split at hq
          · split at hq <;> cases hq
          · cases hq
        · exact e2.elim
      | _ => exact e2.elim
  | _ => exact e2.elim
end
end NT
set_option linter.all false
set_option maxRecDepth 100000
set_option autoImplicit false
namespace NT
open PySem PySem.Spec PyProof.Rows L2
/-! ### f-strings -/
inductive JL (W : Wd) (Wx : WX) (X : Cx) (C : Orc) : List Expr → E → Prop
  | nil : JL W Wx X C [] .nil
  | cons {a : Expr} {ia : E} {es : List Expr} {ib : E} : SndE W Wx X C a ia → JL W Wx X C es ib → JL W Wx X C (a :: es) (.cons ia ib)
section
variable {W : Wd} {Wx : WX} {X : Cx} {C : Orc} {n m : Nat}
theorem pj_w : ∀ es : List Expr, PJ X es (es.map (wE X))
  | [] => .nil
  | e :: es => .cons pe_w (pj_w es)
theorem js_run : ∀ {es : List Expr} {ie : E}, JL W Wx X C es ie → ∀ (z : Str) (c : Cf) (S : L2.St) (σ : Loc) (Q : Str → Hp → Prop), Sim W c → LocR W c S σ → End W Wx S c (fun _ (a b : Str) => a = b) Q (evJ C σ ie z c.h) → tJs (es.map (wE X)) z S c.H Q
  | _, _, .nil, z, c, S, σ, Q, sim, l, e => e.here sim rfl
  | _, _, .cons ha hr, z, c, S, σ, Q, sim, l, e => by
    refine ha c S σ _ sim l (End.bind e fun x c1 v _ s1 x1 r1 e1 => ?_)
    cases r1 <;> try exact e1.elim
    rename_i y hev
    by_cases hl : (z ++ y).length ≤ line
    · have e1 : End W Wx S c1 (fun _ (a b : Str) => a = b) Q ((if (z ++ y).length ≤ line then evJ C σ _ (z ++ y) else M.bad) c1.h) := e1
      rw [if_pos hl] at e1
      exact ⟨y, rfl, by rw [line_eq]; exact hl, js_run hr (z ++ y) c1 S σ Q s1 (l.to x1) e1⟩
    · have e1 : End W Wx S c1 (fun _ (a b : Str) => a = b) Q ((if (z ++ y).length ≤ line then evJ C σ _ (z ++ y) else M.bad) c1.h) := e1
      rw [if_neg hl] at e1
      exact e1.elim
theorem snd_fst {v1 v2 : Expr} {rest : List Expr} {ie : E} {pos : Pos} (h : JL W Wx X C (v1 :: v2 :: rest) ie) : SndE W Wx X C (.JoinedStr (v1 :: v2 :: rest) pos) (.fst ie) := fun c S σ Q sim l e => by
  refine wE_of (pe_joined (pj_w _)) (js_run h Str.empty c S σ _ sim l (End.bind e fun z c1 b _ s1 x1 r1 e1 => ?_))
  subst r1
  exact e1.here s1 (.str _)
theorem snd_fst1 {a : Expr} {ia : E} {pos : Pos} (h : SndE W Wx X C a ia) : SndE W Wx X C (.JoinedStr [a] pos) ia := fun c S σ Q sim l e => wE_of (pe_joined1 pe_w) (h c S σ Q sim l e)
theorem snd_fmt {a : Expr} {ia : E} {pos : Pos} (h : SndE W Wx X C a ia) : SndE W Wx X C (.FormattedValue a (-1) none pos) (.fmt ia) := fun c S σ Q sim l e => by
  refine wE_of (pe_fmt pe_w) (h c S σ _ sim l (End.bind e fun x c1 v _ s1 x1 r1 e1 => ?_))
  obtain ⟨t, h1, e3⟩ := End.of e1
  clear e1
  simp only [Option.map_eq_some_iff] at h1
  obtain ⟨z, h1, rfl⟩ := h1
  cases r1 <;> simp only [txtV] at h1 <;> first | cases h1; done | skip
  · split at h1
    · rename_i i hev hl
      cases h1
      exact .inr ⟨i, rfl, hl, e3.here s1 (.str _)⟩
    · cases h1
  · split at h1
    · rename_i y hev hl
      cases h1
      exact .inl ⟨_, rfl, by rw [line_eq]; exact hl, e3.here s1 (.str _)⟩
    · cases h1
/-! ### methods, static methods -/
theorem form_ok (X : Cx) {args : List Expr} {kws : List Keyword} {ks : List Str} {pos : Pos} (hs : ∀ e ∈ args, ∀ x q, e ≠ .Starred x q) (hk : kws.map (·.arg) = ks.map some) (hl : args.length + kws.length < 29) : methodCallForm (args.length + kws.length) (backTo pos (starEach args X.env)) (backToKw pos (keywordEach kws X.env)) = true := by
  have z : (backTo pos (starEach args X.env)).any (·.1) = false := notStar_any hs
  have z2 : (backTo pos (starEach args X.env)).all (fun x => !x.1) = true := by
    rw [← List.not_any_eq_all_not, z]; rfl
  unfold methodCallForm
  rw [z2, (kw_all (pos := pos) (env := X.env) hk).1]
  simp
  split <;> omega
theorem meth_eq {o : Expr} {name : Str} {args : List Expr} {kws : List Keyword} {apos pos : Pos} {env : Env} (hb : attributeBase o name env (eval o env) = eval o env) (hf : methodCallForm (args.length + kws.length) (backTo pos (starEach args env)) (backToKw pos (keywordEach kws env)) = true) (hl : (apos.endLine == pos.line) = true) :
    eval (.Call (.Attribute o name apos) args kws pos) env = (do
      let ov ← eval o env
      standAt apos.atName
      let (g, first) ← holding [ov] (getMethod ov name (do return (← importBound o env).getD true))
      callWith pos g first (backTo pos (starEach args env)) (backToKw pos (keywordEach kws env))) := by
  rw [arm_eval_Call, hb]
  unfold methodCall
  rw [hf]
  unfold calleeOf methodCallPos
  simp only [hl, Bool.not_true, Bool.or_true, if_true]
  rfl
structure StM (K : PySem.W.Frag) (C : Addr) (name : Str) (g : Addr) : Prop where
  ga : PySem.W.specialIn K (.ref C) "__getattribute__" = some (some (.builtin "type.__getattribute__"))
  mc : ∃ mc, PySem.W.typeIn K (.ref C) = some mc ∧ PySem.W.readsIn K C mc = true ∧ ∃ p, PySem.W.findCls K (.ref C) mc name = some (.get (.builtin "staticmethod.__get__") (.ref p) .none (.ref C)) ∧ ∃ rest, PySem.W.recIn K p "staticmethod" = some (.ref g :: rest)
  kp : PySem.W.keepIn K (.ref g) = true
theorem getstat_ok {pl : Sem Bool} {pins : List (Addr × Obj)} {σ : L2.St} {H : Hp} {s : Shared} {C g : Addr} {name : Str} {Q : Value × List Value → Shared → Prop} {A : Around} {E : Value → Shared → Prop} (I : Inv X pins σ H s) (T : StM X.K C name g) (h : ∀ s', Inv X pins σ H s' → Q (.ref g, []) s') : wpAny (model X.prog X.w) A (getMethod (.ref C) name pl) Q E s := by
  obtain ⟨mm, hF⟩ := I.fr
  obtain ⟨mc, h1, h2, p, h3, rest, h4⟩ := T.mc
  exact PySem.W.method_of_cls hF I.ok.mod.kin T.ga (PySem.W.cls_sm hF I.ok.mod.kin h1 h2 h3 h4 rfl (h _ (I.tok _)))
theorem snd_statR (K : CtxOk W Wx m X) (O : COk W n C) (hn : n ≤ m) {k f : Nat} (hko : C.ct.ko.contains f = false) {x name : Str} {p0 apos pos : Pos} {args : List Expr} {as : E} (hg : Gl X x) (hm : W.mg x = some (.ref (W.clsA k))) (hd : (x == ("__debug__" : Str)) = false) (T : StM W.K (W.clsA k) name (W.fnA f))
    (hs : ∀ e ∈ args, ∀ x q, e ≠ .Starred x q) (hl : args.length < 29) (hli : (apos.endLine == pos.line) = true) (hnil : args = [] → as = .nil) (ha : SndA W Wx X C args as) : SndE W Wx X C (.Call (.Attribute (.Name x p0) name apos) args [] pos) (.call f as) := fun c S σ Q sim l e => by
  intro pins s I
  have T' : StM X.K (W.clsA k) name (W.fnA f) := by rw [K.hK]; exact T
  refine PySem.W.methodCall_KW (thn ((pe_glob (v := .ref (W.clsA k)) hg (by rw [K.hg]; exact hm) rfl hd).run pins s S c.H (fun v H => v = .ref (W.clsA k) ∧ H = c.H) I ⟨rfl, rfl⟩) fun u s1 ⟨v, H1, I1, rv, e1, e2⟩ => ?_) (meth_eq rfl (form_ok X (kws := []) hs (ks := []) rfl (by simpa using hl)) hli)
  subst e1 e2
  obtain rfl : u = Value.ref (W.clsA k) := rv
  exact getstat_ok I1 T' fun s2 I2 => with_R (calR_fn K O hn hko T.kp) (fun a p' r z => hs _ (by rw [z]; exact List.mem_cons_self) a p' rfl) hnil ha I2 sim l e
theorem snd_statK (K : CtxOk W Wx m X) (O : COk W n C) (hn : n ≤ m) {k f : Nat} {pat : Pat} {x name : Str} {p0 apos pos : Pos} {args : List Expr} {as ks : E} {kws : List Keyword} (hp : (f, pat) ∈ C.ct.pats) (hg : Gl X x) (hm : W.mg x = some (.ref (W.clsA k))) (hd : (x == ("__debug__" : Str)) = false) (T : StM W.K (W.clsA k) name (W.fnA f))
    (hs : ∀ e ∈ args, ∀ x q, e ≠ .Starred x q) (hl : args.length + kws.length < 29) (hli : (apos.endLine == pos.line) = true) (hnil : args = [] → as = .nil) (ha : SndA W Wx X C args as) (hk : SndK W Wx X C kws ks) (hnm : kws.map (·.arg) = pat.ks.map some) (hknil : kws = [] → ks = .nil)
    (hla : args.length = pat.np) (hlen : ∀ (σ : Loc) (h h' : AHeap) (xs : List AV), evs C σ as h = .ok xs h' → xs.length = args.length) (hlenk : ∀ (σ : Loc) (h h' : AHeap) (xs : List AV), evs C σ ks h = .ok xs h' → xs.length = kws.length) :
    SndE W Wx X C (.Call (.Attribute (.Name x p0) name apos) args kws pos) (.call f (.arr pat.ix as ks)) := fun c S σ Q sim l e => by
  intro pins s I
  have T' : StM X.K (W.clsA k) name (W.fnA f) := by rw [K.hK]; exact T
  refine PySem.W.methodCall_KW (thn ((pe_glob (v := .ref (W.clsA k)) hg (by rw [K.hg]; exact hm) rfl hd).run pins s S c.H (fun v H => v = .ref (W.clsA k) ∧ H = c.H) I ⟨rfl, rfl⟩) fun u s1 ⟨v, H1, I1, rv, e1, e2⟩ => ?_) (meth_eq rfl (form_ok X hs hnm hl) hli)
  subst e1 e2
  obtain rfl : u = Value.ref (W.clsA k) := rv
  exact getstat_ok I1 T' fun s2 I2 => with_K (calK_fn K O hn hp T.kp) hs hnil ha hk hnm hknil hla hlen hlenk I2 sim l e
end
end NT
set_option linter.all false
set_option maxRecDepth 100000
set_option autoImplicit false
namespace NT
open PySem PySem.Spec PyProof.Rows L2 Builtin Builtin.Str Builtin.Int Builtin.Float
/-! ### {x:>w} of an integer -/
theorem gives_cut {a : Int} {t : Tok} {k : String → Sem Fin} {m : Made} (g : Gives (k "int") m) : Gives (do let n ← typeNameOfCut 200 (.int a t); k n) m :=
  fun prog w A R s hq => wpAny_bind (wpAny_typeNameOfCut_int (g prog w A R s hq))
def fW (w : Nat) : FormatSpec := { align := 62, width := some w }
theorem gives_fmt (sp : Str) (w : Nat) (a : Int) (t u : Tok) (h : a.natAbs.log2 < 1920) (hp : parseFormatSpec sp.cps.toList "int" 62 = .ok (fW w)) (hne : (sp.length == 0) = false)
    (hasc : ((sp.cps.toList.drop 1).any (· ≥ 128) || (sp.cps.getD 0 0 ≥ 128 && !([60, 62, 61, 94] : List Nat).contains (sp.cps.getD 1 0))) = false) (hty : (if sp.cps.back? == some 0 then 0 else 100) = 100)
    (hw : w ≤ 100000) : Gives («int.__format__» ⟨[.int a t, .str sp u], []⟩) (.str (intSpecText (fW w) a)) := by
  have hty : (fW w).type.getD (if sp.cps.back? == some 0 then 0 else 100) = 100 := hty
  unfold Builtin.«int.__format__»
  simp only [selfAndOne, noKeywords, Int.intOfSelf, asInt?, asStr?, List.isEmpty_nil, if_true, pure_bind, bind_pure, bind_assoc, hne, hasc, Bool.false_eq_true, if_false, show (Value.str sp u == Value.none) = false from rfl]
  refine gives_after_typeNameOf (T := "str") (fun s => typeIs_str s _ _) (by decide) fun _ => ?_
  refine gives_cut ?_
  simp only [hp, hty]
  rw [if_pos (by decide)]
  show Gives (do let r ← Builtin.overDigitLimit? a; _) _
  rw [PySem.overDigitLimit_small h]
  have hw' : ¬ ((fW w).width.getD 0 > 100000) := by show ¬ (w > 100000); omega
  show Gives (if (fW w).width.getD 0 > 100000 then _ else _) _
  rw [if_neg hw']
  show Gives (retStr _) _
  unfold intSpecText
  generalize Nat.toDigits 10 a.natAbs = ds
  generalize decide (a < 0) = ng
  exact .of_eq rfl
theorem fmt_rjust (w : Nat) (a : Int) (h0 : 0 ≤ a) : intSpecText (fW w) a = Txt.rjust (Str.ofString (toString a)) w := by
  obtain ⟨m, rfl⟩ := Int.eq_ofNat_of_zero_le h0
  have e := text_ofNat m
  have e : Str.ofString (toString ((m : Nat) : Int)) = ⟨((Nat.toDigits 10 m).map Char.toNat).toArray⟩ := e
  rw [e]
  have hl : (⟨((Nat.toDigits 10 m).map Char.toNat).toArray⟩ : Str).length = (Nat.toDigits 10 m).length := by simp [Str.length]
  have hne : (Nat.toDigits 10 m) ≠ [] := fun z => by have := tDigits_len_ge 10 m; rw [z] at this; simp at this
  have h1 : decide (((m : Nat) : Int) < 0) = false := by simp
  have h2 : ((Nat.toDigits 10 m).map fun c => (if (100 : Nat) == 88 then c.toUpper else c).toNat) = (Nat.toDigits 10 m).map Char.toNat := by
    apply List.map_congr_left; intro c _; simp
  have key : ∀ ds : List Nat, ds ≠ [] → intField' (fW w) false [] ds [] 3 = Txt.rjust ⟨ds.toArray⟩ w := fun ds hd => by
    have z : ds.isEmpty = false := by simp [hd]
    have e1 : intField' (fW w) false [] ds [] 3 = ⟨(List.replicate ((w : Int) - 0 - ((if ds.isEmpty then [] else List.replicate (0 - ds.length) 48 ++ ds).length : Nat)).toNat 32 ++ [] ++ [] ++ List.replicate 0 32 ++ (if ds.isEmpty then [] else List.replicate (0 - ds.length) 48 ++ ds) ++ [] ++ List.replicate 0 32).toArray⟩ := rfl
    rw [e1, z]
    simp only [Bool.false_eq_true, if_false, Nat.zero_sub, List.replicate_zero, List.nil_append, List.append_nil, Int.sub_zero]
    unfold Txt.rjust
    have hl : (⟨ds.toArray⟩ : Str).length = ds.length := by simp [Str.length]
    rw [hl]
    split
    · have : ((w : Int) - (ds.length : Nat)).toNat = 0 := by omega
      rw [this]; rfl
    · have : ((w : Int) - (ds.length : Nat)).toNat = (w : Int).toNat - ds.length := by omega
      rw [this]
      unfold padded
      simp
  unfold intSpecText
  rw [h1, Int.natAbs_natCast, h2]
  exact key _ (by simp [hne])
/-- {x:>w}: the spec written as a text -/
theorem pe_fms {X : Cx} {e : Expr} {te : TE} {sp : Str} {w kk : Nat} {p2 p3 pos : Pos} (he : PE X e te) (hp : parseFormatSpec sp.cps.toList "int" 62 = .ok (fW w)) (hne : (sp.length == 0) = false)
    (hasc : ((sp.cps.toList.drop 1).any (· ≥ 128) || (sp.cps.getD 0 0 ≥ 128 && !([60, 62, 61, 94] : List Nat).contains (sp.cps.getD 1 0))) = false) (hty : (if sp.cps.back? == some 0 then 0 else 100) = 100) (hw : w ≤ 100000) (hl : sp.length ≤ sizeLine) :
    PE X (.FormattedValue e (-1) (some (.JoinedStr [.Constant (.str sp) kk p2] p3)) pos) (fun σ H Q => te σ H fun x H1 => ∃ i : Int, x = .int i ∧ 0 ≤ i ∧ i.natAbs.log2 < 1920 ∧ Q (.str (Txt.rjust (Str.ofString (toString i)) w)) H1) := by
  refine ⟨fun pins s σ H Q I h => ?_⟩
  refine wpAny_FormattedValue_spec (thn (he.run pins s σ H _ I h) fun v s1 hv => ?_)
  obtain ⟨x, H1, I1, r1, i, rfl, h0, hz, q⟩ := hv
  obtain ⟨t, rfl⟩ := r1
  refine thn ((pe_joined1 pe_str).run pins s1 σ H1 (fun y H2 => y = .str sp ∧ H2 = H1) I1 ⟨rfl, rfl⟩) fun u s2 hu => ?_
  obtain ⟨y, H2, I2, r2, rfl, rfl⟩ := hu
  obtain ⟨t2, rfl⟩ := r2
  refine ⟨sp, t2, rfl, ?_⟩
  have hlen : (intSpecText (fW w) i).length ≤ sizeLine := by
    rw [intSpecText_length i rfl rfl]
    have hd : (Nat.toDigits 10 i.natAbs).length ≤ 1921 := by
      refine digits10_le (by decide) ?_
      have := Nat.lt_log2_self (n := i.natAbs)
      refine Nat.lt_of_lt_of_le this (Nat.le_trans (Nat.pow_le_pow_right (by decide) (show i.natAbs.log2 + 1 ≤ 1921 by omega)) (Nat.pow_le_pow_left (by decide) _))
    have : (fW w).width.getD 0 = w := rfl
    rw [sizeLine_eq]
    split <;> omega
  refine wpAny_formatField_spec hne (fun s' => typeIs_int s' i t) F.slot_int_format F.entry_int_format F.args_int_format_2 (fun u => gives_fmt sp w i t u hz hp hne hasc hty hw) ?_ hl hlen
  rw [fmt_rjust w i h0]
  exact ⟨.str _, H2, I2.tok _, ⟨_, rfl⟩, q⟩
/-- the written specs -/
def specB (sp : Str) (w : Nat) : Bool := (sp == (">3" : Str) && w == 3) || (sp == (">8" : Str) && w == 8)
section
variable {W : Wd} {Wx : WX} {X : Cx} {C : Orc} {n m : Nat} {a b : Expr} {ia ib : E} {pos p : Pos}
theorem snd_fms {sp : Str} {w kk : Nat} {p2 p3 : Pos} (hs : specB sp w = true) (h : SndE W Wx X C a ia) : SndE W Wx X C (.FormattedValue a (-1) (some (.JoinedStr [.Constant (.str sp) kk p2] p3)) pos) (.fms w ia) := fun c S σ Q sim l e => by
  have F : parseFormatSpec sp.cps.toList "int" 62 = .ok (fW w) ∧ (sp.length == 0) = false ∧ ((sp.cps.toList.drop 1).any (· ≥ 128) || (sp.cps.getD 0 0 ≥ 128 && !([60, 62, 61, 94] : List Nat).contains (sp.cps.getD 1 0))) = false ∧ (if sp.cps.back? == some 0 then 0 else 100) = 100 ∧ w ≤ 100000 ∧ sp.length ≤ sizeLine := by
    unfold specB at hs
    simp only [Bool.or_eq_true, Bool.and_eq_true, beq_iff_eq] at hs
    rcases hs with ⟨rfl, rfl⟩ | ⟨rfl, rfl⟩
    · exact ⟨rfl, by decide, by decide, by decide, by decide, by decide⟩
    · exact ⟨rfl, by decide, by decide, by decide, by decide, by decide⟩
  obtain ⟨f1, f2, f3, f4, f5, f6⟩ := F
  refine wE_of (pe_fms pe_w f1 f2 f3 f4 f5 f6) (h c S σ _ sim l (End.bind e fun x c1 v _ s1 x1 r1 e1 => ?_))
  cases r1 <;> try exact e1.elim
  rename_i i _
  have e1 : End W Wx S c1 (Rep W) Q (ok1 (decide (0 ≤ i) && decide (i.natAbs.log2 < 1920)) (.str (Txt.rjust (Str.ofString (toString i)) w)) c1.h) := e1
  obtain ⟨g, e1⟩ := e1.ok1
  simp only [Bool.and_eq_true, decide_eq_true_eq] at g
  exact ⟨i, rfl, g.1, g.2, e1.here s1 (.str _)⟩
/-! ### enumerate -/
theorem enmL_get {xs : List AV} {i : Nat} {z : AV} (h : (enmL xs)[i]? = some z) : ∃ x, xs[i]? = some x ∧ z = .tup [.int (i : Nat), x] := by
  unfold enmL at h
  rw [List.getElem?_zipWith] at h
  cases h2 : xs[i]? with
  | none => rw [h2] at h; revert h; cases (List.range xs.length)[i]? <;> simp
  | some x =>
    have hi := (List.getElem?_eq_some_iff.mp h2).1
    rw [h2, List.getElem?_range hi] at h
    cases h
    exact ⟨x, rfl, rfl⟩
theorem walkA_enm {c : Cf} {p : Addr} {vs : List V} {xs : List AV} {K : PySem.W.Frag} (hK : K = W.K) (h : FzL W.K c p vs) (r : Reps W c vs xs) : WalkA W c (Ite K p) (enmL xs) := by
  subst hK
  have hl : (enmL xs).length = vs.length := by rw [r.length]; simp [enmL]
  refine ⟨_, _, by rw [hl]; exact walk_enum (xs := vs), fun c' x => (h.ext x).sq, fun i c' v H' z hz s' x y => ?_⟩
  obtain ⟨T, u, w, rfl, hT, rfl, h1, h2⟩ := y
  obtain ⟨a1, e1, rfl⟩ := enmL_get hz
  obtain ⟨u', g1, g2⟩ := r.get e1
  cases h1
  have h2 : vs[i]? = some w := h2
  rw [h2] at g1; cases g1
  exact ⟨s'.new hT, Ext.new s' hT, Rep.newTup s' hT (.cons (.int _) (.cons (g2.to0 x) .nil))⟩
theorem walkA_ent {c : Cf} {p : Addr} {vs : List V} {xs : List AV} {K : PySem.W.Frag} (hK : K = W.K) (h : FzT W.K c p vs) (r : Reps W c vs xs) : WalkA W c (ItU K p) (enmL xs) := by
  subst hK
  have hl : (enmL xs).length = vs.length := by rw [r.length]; simp [enmL]
  refine ⟨_, _, by rw [hl]; exact walk_en (xs := vs), fun c' x => (h.ext x).sq, fun i c' v H' z hz s' x y => ?_⟩
  obtain ⟨T, u, w, rfl, hT, rfl, h1, h2⟩ := y
  obtain ⟨a1, e1, rfl⟩ := enmL_get hz
  obtain ⟨u', g1, g2⟩ := r.get e1
  cases h1
  have h2 : vs[i]? = some w := h2
  rw [h2] at g1; cases g1
  exact ⟨s'.new hT, Ext.new s' hT, Rep.newTup s' hT (.cons (.int _) (.cons (g2.to0 x) .nil))⟩
theorem sndI_enm (K : CtxOk W Wx n X) {elts : List Expr} {kk : Nat} {tpos : Pos} (ha : SndE W Wx X C a ia) (hs : noStar a) (hg : Gl X "enumerate") (hm : X.mg "enumerate" = none) :
    SndI W Wx X C (.Tuple elts kk tpos) (.Call (.Name "enumerate" p) [a] [] pos) (.enm ia) := fun c S σ R sim l e => by
  refine wI_of (pi_em hg hm (pa_cons pe_w pa_nil hs.each) hs.each) (ha c S σ _ sim l (End.bind e fun x c1 v _ s1 x1 r1 e1 => ?_))
  cases r1 <;> try exact e1.elim
  · rename_i hf rs _
    exact ⟨_, _, rfl, .inr ⟨by rw [K.hK]; exact hf.sq, e1.here s1 (walkA_ent K.hK hf rs)⟩⟩
  · rename_i hf rs _
    exact ⟨_, _, rfl, .inl ⟨by rw [K.hK]; exact hf.sq, e1.here s1 (walkA_enm K.hK hf rs)⟩⟩
/-! ### a call that changes nothing -/
theorem Sim.hide {c : Cf} (s : Sim W c) : Sim W (cutC 0 c) where
  len := rfl
  inj := fun i j p o o' h1 _ _ _ => by simp [cutC] at h1
  obj := fun n o p h1 _ => by simp [cutC] at h1
  bz := fun p hp => ⟨(s.bz p hp).1, fun z => (s.bz p hp).2 (hlive_cut z)⟩
  tb := s.tb
  tl := fun p hp => s.tl p (live_cut hp)
theorem hide_live {c : Cf} (s : Sim W c) {p : Addr} (l : HLive c p) : ¬ Live (cutC 0 c) p := fun z => by
  rcases z with z | ⟨n, o, h1, _⟩
  · exact (s.bz p z).2 l
  · simp [cutC] at h1
theorem Ext.unhide {c c' : Cf} (s : Sim W c) (x : Ext (cutC 0 c) c') : Ext c ⟨c.ρ, c.h, c'.H, c.x⟩ where
  pre := fun _ _ h => h
  keep := fun p o h n t => x.keep p o h (fun z => n (live_cut z)) t
  nl := fun _ _ _ _ h => h
  bx := rfl
  busy := fun p hp => x.busy p hp
theorem Sim.unhide {c c' : Cf} (s : Sim W c) (s' : Sim W c') (x : Ext (cutC 0 c) c') : Sim W ⟨c.ρ, c.h, c'.H, c.x⟩ := by
  have same : ∀ p, HLive c p → c'.H p = c.H p := fun p l => by
    obtain ⟨o, e⟩ := Option.ne_none_iff_exists'.mp (s.htracked l)
    rw [e]
    exact x.keep p o e (hide_live s l) (s.tl p (.inr l) o e).1
  refine ⟨s.len, s.inj, fun n o p h1 h2 => ?_, fun p hp => ⟨?_, (s.bz p hp).2⟩, s'.tb, fun p hp o ho => ?_⟩
  · by_cases hd : o = .dead
    · subst hd; trivial
    · exact (s.obj n o p h1 h2).ext (Ext.unhide s x).toEx0 (same p ⟨n, o, h2, h1, hd⟩)
  · show c'.H p ≠ none
    rw [x.busy p hp]; exact (s.bz p hp).1
  · have ho : c'.H p = some o := ho
    rcases hp with l | l
    · have : c'.H p = c.H p := x.busy p l
      rw [this] at ho
      exact s.tl p (.inl l) o ho
    · rw [same p l] at ho
      exact s.tl p (.inr l) o ho
theorem rep_flat {c c' : Cf} {v : V} {a : AV} (r : Rep W c v a) (h : flat a = true) : Rep W c' v a := by
  cases r <;> first | cases h; done | constructor
/-- the callee, seen from outside -/
theorem calR_pure {u : Value} {f : Nat} (F : CalR W Wx X u (C.call f)) : CalR W Wx X u (pureV C f) :=
  ⟨F.1, fun pins S c s vs us xs Q I sim r ru e => by
    unfold pureV at e
    cases q : frzAs (frzR 0 c.h (c.h.length + 1)) xs with
    | none => simp only [q] at e; exact e.elim
    | some ys =>
      simp only [q] at e
      cases q2 : C.call f ys [] with
      | bad => simp only [q2] at e; exact e.elim
      | exc _ _ _ _ => simp only [q2] at e; exact e.elim
      | ok v h' =>
        simp only [q2] at e
        split at e
        · rename_i hf
          refine F.2 pins S (cutC 0 c) s vs us ys Q I (Sim.hide sim) (reps_frz (rep_frzR sim (c.h.length + 1)) xs vs ys r q) ru ?_
          show End W Wx S (cutC 0 c) (Rep W) Q (C.call f ys [])
          rw [q2]
          intro ρ' H' b s' x' rb
          exact e c.ρ H' b (Sim.unhide sim s' x') (Ext.unhide sim x') (rep_flat rb hf)
        · exact e.elim⟩
/-- x(*a) -/
theorem snd_callS {u : Value} {G : List AV → M AV} {ir : E} (K : CtxOk W Wx m X) (F : CalR W Wx X u G) {x : Str} {sp : Pos} (ha : SndE W Wx X C a ia) (hg : Gl X x) (hd : (x == ("__debug__" : Str)) = false)
    (hm : W.mg x = some u) (hir : ∀ σ, ev C σ ir = M.bind (evs C σ (.star ia .nil)) fun xs => G xs) : SndE W Wx X C (.Call (.Name x p) [.Starred a sp] [] pos) ir := fun c S σ Q sim l e => by
  intro pins s I
  rw [hir] at e
  have z : M.bind (evs C σ (.star ia .nil)) (fun xs => G xs) c.h = M.bind (ev C σ ia) (fun x => (match x with
      | .lst ys => G ys
      | .tup ys => G ys
      | _ => M.bad)) c.h := by
    show M.bind (M.bind (ev C σ ia) fun x => (match x with
      | .lst ys => M.bind (evs C σ .nil) fun xs => M.pure (ys ++ xs)
      | .tup ys => M.bind (evs C σ .nil) fun xs => M.pure (ys ++ xs)
      | _ => M.bad)) (fun xs => G xs) c.h = _
    unfold M.bind
    cases ev C σ ia c.h with
    | ok y h1 =>
      cases y <;> first | rfl | (show G (_ ++ []) h1 = G _ h1; rw [List.append_nil])
    | exc _ _ _ _ => rfl
    | bad => rfl
  rw [z] at e
  refine wpAny_Call_Name_kw (ld_glob I hg (by rw [K.hg]; exact hm) ?_ hd)
  refine PySem.W.callWith_S (h₀ := X.base) I.ok.mod.kin F.1 (thn (ha c S σ (fun y H1 => ∃ (c1 : Cf) (w : AV), c1.H = H1 ∧ Sim W c1 ∧ Rep W c1 y w ∧ End W Wx S c1 (Rep W) Q ((match w with
      | .lst ys => G ys
      | .tup ys => G ys
      | _ => M.bad) c1.h)) sim l (End.bind e fun w c1 v _ s1 x1 r1 e1 => ⟨c1, w, rfl, s1, r1, e1⟩) pins s I) fun v s1 ⟨y, H1, I1, ry, c1, w, hc, s1', r1, e1⟩ => ?_) rfl
  subst hc
  cases r1 <;> try exact e1.elim
  · rename_i hf rs
    obtain rfl := ry
    exact StX.star_any I1 (.inl (by rw [K.hK]; exact hf.sq)) fun us s2 I2 rv => ⟨I2.kIn, F.2 pins S c1 s2 _ us _ Q I2 s1' rs rv e1⟩
  · rename_i hf rs
    obtain rfl := ry
    exact StX.star_any I1 (.inr (by rw [K.hK]; exact hf.sq)) fun us s2 I2 rv => ⟨I2.kIn, F.2 pins S c1 s2 _ us _ Q I2 s1' rs rv e1⟩
end
end NT
set_option linter.all false
set_option maxRecDepth 100000
set_option autoImplicit false
set_option maxHeartbeats 4000000
namespace NT
open PySem PySem.Spec PyProof.Rows PySem.W
/-! ### an own exception's __init__: super().__init__(txt), self.code = txt, self.f = x, .. -/
inductive Sets : List Stmt → List (Str × Str) → Prop
  | nil : Sets [] []
  | cons {f x : Str} {p1 p2 p3 p : Pos} {r : List Stmt} {fs : List (Str × Str)} : Sets r fs → Sets (.Assign [.Attribute (.Name "self" p1) f p2] (.Name x p3) p :: r) ((f, x) :: fs)
def putM (m : Str → Option Value) (f : Str) (u : Value) : Str → Option Value := fun y => if y = f then some u else m y
/-- the map of an exception's dict after the stores -/
def putAll (m m0 : Str → Option Value) : List (Str × Str) → Str → Option Value
  | [] => m0
  | (f, x) :: r => putAll m (fun y => if y = f then m x else m0 y) r
section
variable {prog : Program} {w : World} {A : Around} {E : Value → Shared → Prop} {K : Frag} {hp : Heap} {g : Array GenState} {d : Drawn} {os : OsState} {env : Env} {C x L : Addr} {m : Str → Option Value} {cd : ClassData}
theorem ns_keep {h h' : Heap} {q : Addr} (hL : h.Ns L m) (k : ∀ b o, b ≠ q → h.get? b = some o → h'.get? b = some o) (n : L ≠ q) : h'.Ns L m := by
  obtain ⟨o, es, ep, e, r⟩ := hL
  exact ⟨o, es, ep, k _ _ n e, r⟩
theorem sets_run (hk : env.scope.kind = .function) (hloc : env.locals = L) (X₀ : K.In hp) (hcd : clsIn K C = some cd) (hm : PySem.HandSPX.refsVE cd.mro = true) (hh : cd.hasDict = true) (hsa : findIn K (.ref C) "__setattr__" = some (some (.builtin "object.__setattr__")))
    (hself : m "self" = some (.ref x)) (kself : env.kindOf "self" = some .local) {Q : PySem.Flow → Shared → Prop} {dx : Addr} {fv : Array Value} (xL : L ≠ dx) (dn : hp.get? dx = none) :
    ∀ {fs : List (Str × Str)} {rest : List Stmt}, Sets rest fs → (∀ p ∈ fs, findIn K (.ref C) p.1 = some none ∧ env.kindOf p.2 = some .local ∧ (p.2 == ("__debug__" : Str)) = false ∧ ∃ u, m p.2 = some u) →
    ∀ {h : Heap} {m0 : Str → Option Value} {nl : List Str} {t : Nat}, (∀ b o, hp.get? b = some o → h.get? b = some o) → h.Ns L m → h.get? x = some { cls := .ref C, dict := some dx, data := .fields fv } → x ≠ dx → h.Ns1 dx m0 → Within m0 nl → nl.length + fs.length ≤ 900 →
    (∀ h' t', (∀ b o, hp.get? b = some o → h'.get? b = some o) → h'.get? x = some { cls := .ref C, dict := some dx, data := .fields fv } → h'.Ns1 dx (putAll m m0 fs) → Q .next ⟨h', g, d, t', os⟩) →
    wpAny (model prog w) A (execs rest env) Q E ⟨h, g, d, t, os⟩ := by
  intro fs rest S
  induction S with
  | nil =>
    intro _ h m0 nl t k hL hx _ hd _ _ hq
    exact wpAny_execs_nil (hq h t k hx hd)
  | @cons f y p1 p2 p3 p r fs S ih =>
    intro hf h m0 nl t k hL hx xd hd hw hz hq
    obtain ⟨f1, f2, f3, u, f4⟩ := hf (f, y) List.mem_cons_self
    refine wpAny_execs_cons (plainObj_wpAny_Assign_Attribute ?_ ?_)
    · refine wpAny_Name (wpAny_loadName_local (m := m) hk f2 (by rw [hloc]; exact hL) f4 ?_) f3
      refine wpAny_Name (wpAny_loadName_local (m := m) hk kself (by rw [hloc]; exact hL) hself ?_) (by decide)
      obtain ⟨oD, _, _, hoD, _, _⟩ := hd.count hw
      refine PySem.W.set_plain (X₀.keeps k) (ox := { cls := .ref C, dict := some dx, data := .fields fv }) (od := some oD) ⟨hx, rfl, rfl, hoD⟩ hsa ?_
      refine PySem.OEX.osa_old (X₀.keeps k) hx hd hw (by simp at hz; omega) hcd hm hh f1 fun h' tk' k' hn => ?_
      have kk : ∀ b o, hp.get? b = some o → h'.get? b = some o := fun b o e => k' b o (fun z => by rw [z, dn] at e; cases e) (k b o e)
      refine ih (fun p hp => hf p (List.mem_cons_of_mem _ hp)) (h := h') (m0 := fun z => if z = f then some u else m0 z) (nl := f :: nl) kk (ns_keep hL k' xL) (k' _ _ xd hx) xd hn (Within.cons f u hw) (by simp at hz ⊢; omega) ?_
      intro h2 t2 k2 hx2 hn2
      refine hq h2 t2 k2 hx2 ?_
      show h2.Ns1 dx (putAll m (fun z => if z = f then m y else m0 z) fs)
      rw [f4]
      exact hn2
    · first | rfl | (unfold swapsWith; rfl)
end

/-- what the written part says of such an __init__ -/
structure IniF (P : Program) (K : Frag) (C fI : Addr) (txt : Str) (ps : List Str) (fs : List (Str × Str)) (fd : FuncData) (oc : Value) (od : Option Addr) (osl : Array (Option Value)) : Prop where
  lk : K.lookup fI = some ⟨oc, od, .func fd, osl⟩
  shape : ∃ (name qual : Str) (params : Arguments) (p1 p2 p3 p4 p5 p6 q1 q2 q3 q4 : Pos) (j1 j2 : Nat) (rest : List Stmt) (scope : Scope) (dV kV doc pm : Value) (an : Option Addr) (cda : Addr) (ct : Value) (cc : Addr) (ar : Arg) (vs : Array Value) (file : Str) (tf : Tok) (ccl cl : Value) (cdd cld : Option Addr) (ccs csl : Array (Option Value)),
    fd = ksFn name qual params (.Expr (.Call (.Attribute (.Call (.Name "super" p1) [] [] p2) "__init__" p3) [.Constant (.str txt) j1 p4] [] p5) p6 :: .Assign [.Attribute (.Name "self" q1) "code" q2] (.Constant (.str txt) j2 q3) q4 :: rest) scope dV kV doc pm an (.ref cda) ct cc ∧
    codeIn K (.ref cda) qual = true ∧ Sets rest fs ∧ (params.posonlyargs ++ params.args).head? = some ar ∧ ar.arg = "self" ∧ K.lookup cda = some ⟨ccl, cdd, .fields vs, ccs⟩ ∧ vs[2]? = some (.str file tf) ∧ ((P.main.file : Str) == file) = true ∧
    K.lookup cc = some ⟨cl, cld, .cell (some (.ref C)), csl⟩ ∧ scope.names.lookup ("super" : Str) = some .globalImplicit ∧ scope.names.lookup ("__class__" : Str) = some .free ∧ scope.kind = .function ∧ scope.isCoroutine = false ∧ scope.isGenerator = false ∧
    (∀ x ∈ scope.names, x.2 ≠ .cell) ∧ (∀ y ∈ ps, scope.names.lookup y = some .local) ∧
    ∃ pl : Env → Sem Bool, ∀ env, eval (.Call (.Attribute (.Call (.Name "super" p1) [] [] p2) "__init__" p3) [.Constant (.str txt) j1 p4] [] p5) env = (do
      let ov ← attributeBase (.Call (.Name "super" p1) [] [] p2) "__init__" env (eval (.Call (.Name "super" p1) [] [] p2) env)
      standAt p3.atName
      let (f, first) ← holding [ov] (getMethod ov "__init__" (pl env))
      callWith p5 f first (backTo p5 (starEach [.Constant (.str txt) j1 p4] env)) [])
  bind : ∀ us : List Value, us.length = ps.length → bindArgs fd ⟨us, []⟩ = pure (ps.zip us)
  self : ∃ ps' : List Str, ps = ("self" : Str) :: ps' ∧ ps.Nodup
  used : ∀ p ∈ fs, p.2 ∈ ps ∧ (p.2 == ("__debug__" : Str)) = false
  few : fs.length ≤ 100
structure ExcK (P : Program) (K : Frag) (C fI : Addr) (txt : Str) (ps : List Str) (fs : List (Str × Str)) : Prop where
  oex : L2.OexC K C
  ini : findIn K (.ref C) "__init__" = some (some (.ref fI))
  tI : typeIn K (.ref fI) = some (.type "function")
  sup : ks_superIn K C C "__init__" = some (some (.builtin "ValueError.__init__"))
  isVE : subIn K (.ref C) (.type "ValueError") = some true
  own : mroIn K C (.ref C) = some true
  third : nsIn K cStatics "thirdparty.any" = some none
  exin : excInitIn K C [.type "ValueError", .type "Exception", .type "BaseException", .type "object"] "ValueError.__new__" = true
  nof : findIn K (.ref C) "code" = some none ∧ ∀ p ∈ fs, findIn K (.ref C) p.1 = some none
  top : (P.main.scope.names.lookup ("super" : Str)).isSome = false
  f : ∃ fd oc od osl, IniF P K C fI txt ps fs fd oc od osl
theorem zip_lookup : ∀ {ps : List Str} {us : List Value} {y : Str}, ps.Nodup → y ∈ ps → us.length = ps.length → ∃ u, (ps.zip us).reverse.lookup y = some u := by
  intro ps us y nd hy hl
  have h1 : ∀ {l : List (Str × Value)}, y ∈ l.map (·.1) → ∃ u, l.lookup y = some u := by
    intro l
    induction l with
    | nil => intro h; cases h
    | cons p l ih =>
      intro h
      obtain ⟨a, b⟩ := p
      by_cases e : y = a
      · subst e; exact ⟨b, by simp [List.lookup]⟩
      · have e' : (y == a) = false := by simpa using e
        simp at h
        rcases h with h | ⟨u, h⟩
        · exact absurd h e
        · obtain ⟨v, hv⟩ := ih (by simp; exact ⟨u, h⟩)
          exact ⟨v, by simp [List.lookup, e', hv]⟩
  apply h1
  rw [List.map_reverse, List.mem_reverse, List.map_fst_zip (by omega)]
  exact hy
theorem lookup_none {y : Str} : ∀ {l : List (Str × Value)}, y ∉ l.map (·.1) → l.lookup y = none
  | [], _ => rfl
  | (a, b) :: l, h => by
    simp only [List.map_cons, List.mem_cons, not_or] at h
    have e' : (y == a) = false := by simpa using h.1
    simp [List.lookup, e', lookup_none h.2]
theorem self_lookup {x : Addr} {ps' : List Str} {us : List Value} (nd : (("self" : Str) :: ps').Nodup) (hl : us.length = ps'.length) : ((("self" : Str) :: ps').zip (Value.ref x :: us)).reverse.lookup ("self" : Str) = some (Value.ref x) := by
  rw [List.zip_cons_cons, List.reverse_cons, List.lookup_append, lookup_none]
  · simp [List.lookup]
  · rw [List.map_reverse, List.mem_reverse, List.map_fst_zip (by omega)]
    exact (List.nodup_cons.mp nd).1
section
variable {P : Program} {w : World} {A : Around} {K : Frag} {C fI : Addr} {txt : Str} {ps : List Str} {fs : List (Str × Str)} {mg : Str → Option Value} {base hp h1 : Heap} {g : Array GenState} {d : Drawn} {t : Nat} {os : OsState} {x t0 : Addr} {us : List Value} {R : Result → Shared → Prop}
theorem init_run (T : ExcK P K C fI txt ps fs) (md : L2.Mod K mg base) (hb : ∀ b o, base.get? b = some o → hp.get? b = some o) (hmg : mg "super" = none) (k1 : ∀ b o, hp.get? b = some o → h1.get? b = some o) (hx : h1.get? x = some (excObj C t0 none .none)) (hpx : hp.get? x = none)
    (hsz : hp.objs.size ≤ h1.objs.size) (hroom : A.depth < recursionLimit) (hl : (Value.ref x :: us).length = ps.length)
    (hq : ∀ h2 t2 dx t1, (∀ b o, hp.get? b = some o → h2.get? b = some o) → h2.get? x = some (excObj C t1 (some dx) .none) → hp.objs.size ≤ dx → dx ≠ x → (∃ tk, h2.Ns1 dx (putAll (fun y => (ps.zip (Value.ref x :: us)).reverse.lookup y) (fun y => if y = "code" then some (.str txt tk) else none) fs)) → R (.ok (.ret .none)) ⟨h2, g, d, t2, os⟩) :
    codeAny (model P w) A (.call (.ref fI) ⟨.ref x :: us, []⟩) R ⟨h1, g, d, t, os⟩ := by
  obtain ⟨fd, oc, od, osl, F⟩ := T.f
  obtain ⟨name, qual, params, p1, p2, p3, p4, p5, p6, q1, q2, q3, q4, j1, j2, rest, scope, dV, kV, doc, pm, an, cda, ct, cc, ar, vs, file, tf, ccl, cl, cdd, cld, ccs, csl, rfl, hcode, S, har, hself, lcd, hvs, hfile, lcc, ks, kc, kf, kco, kge, kcell, kps, pl, hpl⟩ := F.shape
  have X1 : K.In h1 := (md.kin.keeps hb).keeps k1
  have lim : h1.NoLimit := (md.nolimit.keeps hb).keeps k1
  obtain ⟨ps', hps, nd⟩ := F.self
  have hbind := F.bind (.ref x :: us) hl
  refine ks_codeAny_call_defAt (fd := ksFn name qual params _ scope dV kV doc pm an (.ref cda) ct cc) (binds := ps.zip (.ref x :: us)) hroom (X1 _ _ F.lk) rfl lim (codeRec_of X1 hcode) rfl (.of_eq hbind) kcell (fun y hy => kps y.1 (List.of_mem_zip hy).1) (fun h₀ hns hk => ?_) kco kge kf
  subst hps
  have hl' : us.length = ps'.length := by simpa using hl
  have hs : (fun y => ((("self" : Str) :: ps').zip (Value.ref x :: us)).reverse.lookup y) ("self" : Str) = some (Value.ref x) := self_lookup nd hl'
  have kk0 : ∀ b o, hp.get? b = some o → h₀.get? b = some o := fun b o e => hk b o (k1 b o e)
  have Xp : K.In hp := md.kin.keeps hb
  have X0 : K.In h₀ := Xp.keeps kk0
  obtain ⟨cdC, hcd⟩ : ∃ cd, clsIn K C = some cd := by
    have := T.sup
    unfold ks_superIn at this
    cases q : clsIn K C with
    | none => rw [q] at this; cases this
    | some cd => exact ⟨cd, rfl⟩
  obtain ⟨oC, hC1, hC2⟩ : ∃ oD, hp.get? C = some oD ∧ oD.data = .cls cdC := by
    have hcd' := hcd
    unfold clsIn at hcd'
    split at hcd'
    · rename_i c d cd' sl ho
      cases hcd'
      exact ⟨_, Xp _ _ ho, rfl⟩
    · cases hcd'
  have hxC : x ≠ C := fun z => by rw [z, hC1] at hpx; cases hpx
  have hx0 := hk _ _ hx
  obtain ⟨mb, hb1, hb2⟩ := md.blt
  have hint : interactive (callEnv (ksFn name qual params (.Expr (.Call (.Attribute (.Call (.Name "super" p1) [] [] p2) "__init__" p3) [.Constant (.str txt) j1 p4] [] p5) p6 :: .Assign [.Attribute (.Name "self" q1) "code" q2] (.Constant (.str txt) j2 q3) q4 :: rest) scope dV kV doc pm an (.ref cda) ct cc) h1.objs.size fI) = false := by
    unfold interactive
    simp [callEnv, newEnv, kf]
  refine ks_wpAt_execs_cons (ks_wpAt_Expr_any (ks_wpAt_MethodCall ?_ (hpl _)) hint ?hs1)
  case hs1 => rfl
  refine ks_wpAt_super_base (env := callEnv (ksFn name qual params _ scope dV kV doc pm an (.ref cda) ct cc) h1.objs.size fI) ks kc (by decide) rfl (X0 _ _ F.lk) rfl har rfl (X0 _ _ lcd) rfl hvs hfile T.top ?_
  refine ks_loadName_global kf ks (Calls.loadGlobal_builtin ((md.glob.keeps hb).keeps kk0) hmg ((hb1.keeps hb).keeps kk0) ((hb2 _ (by decide)).trans Boot.«super») ⟨rfl, ?_⟩)
  refine wpAny_loadName_free kf kc rfl ⟨_, X0 _ _ lcc, rfl⟩ ?_
  rw [hself]
  refine wpAny_loadName_local kf (kps _ List.mem_cons_self) hns hs ?_
  refine ks_wpAny_isType_cls (kk0 _ _ hC1) hC2 ⟨rfl, ?_⟩
  refine ks_wpAny_call_super (kk0 _ _ hC1) hC2 hx0 rfl (fun c e => nomatch e) (looks_mroIn X0 T.own) (fun h' e k => ?_)
  -- the super object stands at so
  have kk1 : ∀ b o, hp.get? b = some o → h'.get? b = some o := fun b o e => k b o (kk0 b o e)
  have X2 : K.In h' := Xp.keeps kk1
  have hx2 := k _ _ hx0
  have hns2 : h'.Ns h1.objs.size (fun y => ((("self" : Str) :: ps').zip (Value.ref x :: us)).reverse.lookup y) := by
    obtain ⟨oL, es, ep, hL, r⟩ := hns
    exact ⟨oL, es, ep, k _ _ hL, r⟩
  have inst : InstAt h' x (excObj C t0 none .none) C none := ⟨hx2, rfl, rfl, trivial⟩
  have hI : Looks (model P w) h' (isInstance (.ref x) (.type "ValueError")) true := inst.type.andThen (looks_subIn X2 T.isVE)
  have hsup := T.sup
  unfold ks_superIn at hsup
  rw [hcd] at hsup
  refine kxs_getMethod kxs_ValueError e (looks_opaque X2 T.third) (l₀ := cdC.mro) ?_ rfl X2 hsup hI hxC (by decide) ?_
  · exact fun A Q E s k q => wpAny_bind ((looks_clsIn X2 hcd) A _ E s k (wpAny_pure q))
  -- the wrapper stands at the next place
  have kk2 : ∀ b o, hp.get? b = some o → (h'.push (kxs_mw "ValueError.__init__" x)).get? b = some o := fun b o z => Heap.get?_push_of_some _ (kk1 b o z)
  show wpAny _ _ (callWith p5 (.ref h'.objs.size) [] _ []) _ _ _
  refine kxs_callWith (i := "ValueError.__init__") (x := x) rfl (Calls.evalArgs_plain (Calls.spliced_cons (Calls.Constant_str (k := j1) (pos := p4) (Calls.spliced_nil ?_))))
  have hmw : (h'.push (kxs_mw "ValueError.__init__" x)).get? h'.objs.size = some (kxs_mw "ValueError.__init__" x) := Heap.get?_push_at rfl rfl
  refine ⟨hmw, ?_⟩
  have hLx : h1.objs.size ≠ x := fun z => Nat.lt_irrefl _ (by have := Heap.lt_size hx; rw [← z] at this; exact this)
  have hxs : x ≠ h'.objs.size := Nat.ne_of_lt (Heap.lt_size hx2)
  have Fr0 : Fr hp h1.objs.size (h'.push (kxs_mw "ValueError.__init__" x)) (fun y => ((("self" : Str) :: ps').zip (Value.ref x :: us)).reverse.lookup y) := by
    obtain ⟨oL, es, ep, hL, r⟩ := hns2
    exact ⟨⟨oL, es, ep, Heap.get?_push_of_some _ hL, r⟩, kk2, hsz⟩
  have hLs : h1.objs.size < h'.objs.size := by
    obtain ⟨oL, es, ep, hL, r⟩ := hns2
    exact Heap.lt_size hL
  have hps0 : hp.get? h'.objs.size = none := by
    cases z : hp.get? h'.objs.size with
    | none => rfl
    | some o => exact absurd (Heap.lt_size (kk1 _ _ z)) (Nat.lt_irrefl _)
  have N0 : News hp h1.objs.size (h'.push (kxs_mw "ValueError.__init__" x)) [(x, excObj C t0 none .none), (h'.objs.size, kxs_mw "ValueError.__init__" x)] := by
    intro p hp'
    rcases List.mem_cons.mp hp' with rfl | hp'
    · exact ⟨Heap.get?_push_of_some _ hx2, Ne.symm hLx, hpx⟩
    · rcases List.mem_cons.mp hp' with rfl | hp'
      · exact ⟨hmw, Nat.ne_of_gt hLs, hps0⟩
      · cases hp'
  refine kxs_call (nw := fun o => [(x, o), (h'.objs.size, kxs_mw "ValueError.__init__" x)]) Fr0 Xp N0 PySem.F.excBase_ValueError T.exin (by simp) (.head fun p hp' => ?_) (by size_fits) fun t1 h3 Fr1 N1 _ => ?_
  · rcases List.mem_cons.mp hp' with rfl | hp'
    · exact Ne.symm hxs
    · cases hp'
  -- the statements behind it
  have hx3 : h3.get? x = some (excObj C t1 none .none) := (N1 (x, excObj C t1 none .none) (by simp)).1
  refine wpAt_of_wpAny (wpAny_execs_cons (plainObj_wpAny_Assign_Attribute ?_ rfl))
  refine Calls.Constant_str ?_
  refine wpAny_Name (wpAny_loadName_local kf (kps _ List.mem_cons_self) Fr1.ns hs ?_) (by decide)
  obtain ⟨nm, q, N, bs, bm, sn, sub, ab, col, dd, z0, z1, z2, z3, z5, hCl, hbm⟩ := T.oex.cls
  have hcl : clsIn K C = some { name := nm, bases := bs, mro := .ref C :: bm, ns := N, qualname := q, hasDict := true, slotNames := sn, subclasses := sub, abstract := ab, collection := col, hasDel := false } := by unfold clsIn; rw [hCl] <;> rfl
  refine PySem.W.set_plain (Xp.keeps Fr1.keep) (ox := excObj C t1 none .none) (od := none) ⟨hx3, rfl, rfl, trivial⟩ T.oex.sa ?_
  refine PySem.HandSPX.exc_osa (Xp.keeps Fr1.keep) hx3 hcl (show PySem.HandSPX.refsVE (.ref C :: bm) = true from hbm) rfl T.nof.1 (fun h4 tk4 dx k4 dn dne hx4 hn4 => ?_)
  have dn : h3.objs.size ≤ dx := dn
  have hL3 : h1.objs.size < h3.objs.size := by
    obtain ⟨oL, es, ep, hL, r⟩ := Fr1.ns
    exact Heap.lt_size hL
  have hdx : hp.get? dx = none := by
    cases z : hp.get? dx with
    | none => rfl
    | some o =>
      have e3 : h3.get? dx = some o := Fr1.keep _ _ z
      exact absurd (Heap.lt_size e3) (Nat.not_lt.mpr dn)
  have kk4 : ∀ b o, hp.get? b = some o → h4.get? b = some o := fun b o z => k4 b o (fun y => by rw [y, hpx] at z; cases z) (Fr1.keep b o z)
  refine sets_run (env := callEnv (ksFn name qual params (.Expr (.Call (.Attribute (.Call (.Name "super" p1) [] [] p2) "__init__" p3) [.Constant (.str txt) j1 p4] [] p5) p6 :: .Assign [.Attribute (.Name "self" q1) "code" q2] (.Constant (.str txt) j2 q3) q4 :: rest) scope dV kV doc pm an (.ref cda) ct cc) h1.objs.size fI) (hp := hp) (C := C) (x := x) (L := h1.objs.size) (m := fun y => ((("self" : Str) :: ps').zip (Value.ref x :: us)).reverse.lookup y) (dx := dx) kf rfl Xp hcl (show PySem.HandSPX.refsVE (.ref C :: bm) = true from hbm) rfl T.oex.sa hs (kps _ List.mem_cons_self) (Nat.ne_of_lt (Nat.lt_of_lt_of_le hL3 dn)) hdx S (fun p hp' => ?_) kk4 (ns_keep Fr1.ns k4 hLx) hx4 (Ne.symm dne) hn4 (Within.cons "code" _ Within.nil) (by have := F.few; simp; omega) ?_
  · obtain ⟨u1, u2⟩ := F.used p hp'
    exact ⟨T.nof.2 p hp', kps _ u1, u2, zip_lookup nd u1 (by simpa using hl')⟩
  · intro h5 t5 k5 hx5 hn5
    exact hq h5 t5 dx t1 k5 hx5 (Nat.le_of_lt (Nat.lt_of_le_of_lt hsz (Nat.lt_of_lt_of_le hL3 dn))) dne ⟨_, hn5⟩
end

/-! ### C(e, ..) of such a class -/
/-- the values of the attributes: the args' by their places -/
def fldV (vs : List L2.V) : List (Str × Nat) → List (Str × L2.V)
  | [] => []
  | (f, i) :: r => (f, vs.getD i .non) :: fldV vs r
theorem zipr_get : ∀ {ps : List Str} {us : List Value} {i : Nat} {y : Str}, ps.Nodup → us.length = ps.length → ps[i]? = some y → (ps.zip us).reverse.lookup y = us[i]? := by
  intro ps
  induction ps with
  | nil => intro us i y _ _ h; simp at h
  | cons p ps ih =>
    intro us i y nd hl h
    cases us with
    | nil => simp at hl
    | cons u us =>
      have hl' : us.length = ps.length := by simpa using hl
      rw [List.zip_cons_cons, List.reverse_cons, List.lookup_append]
      cases i with
      | zero =>
        simp at h
        subst h
        rw [lookup_none]
        · simp [List.lookup]
        · rw [List.map_reverse, List.mem_reverse, List.map_fst_zip (by omega)]
          exact (List.nodup_cons.mp nd).1
      | succ i =>
        simp at h
        rw [ih (List.nodup_cons.mp nd).2 hl' h]
        have hi : i < ps.length := by
          by_cases q : i < ps.length
          · exact q
          · rw [List.getElem?_eq_none (by omega)] at h; cases h
        have : us[i]? = some us[i] := by simp
        simp [this]
theorem lookup_app_none {α : Type} {l r : List (Str × α)} {y : Str} (h : y ∉ l.map (·.1)) : (l ++ r).lookup y = r.lookup y := by
  induction l with
  | nil => rfl
  | cons p l ih =>
    obtain ⟨a, b⟩ := p
    simp only [List.map_cons, List.mem_cons, not_or] at h
    have e' : (y == a) = false := by simpa using h.1
    simp [List.lookup, e', ih h.2]
theorem lookup_app_mem {α : Type} {l r : List (Str × α)} {y : Str} (h : y ∈ l.map (·.1)) : (l ++ r).lookup y = l.lookup y := by
  induction l with
  | nil => cases h
  | cons p l ih =>
    obtain ⟨a, b⟩ := p
    by_cases e : y = a
    · subst e; simp [List.lookup]
    · have e' : (y == a) = false := by simpa using e
      simp only [List.map_cons, List.mem_cons] at h
      simp [List.lookup, e', ih (h.resolve_left e)]
/-- the dict's map and the list agree -/
theorem put_rel {m : Str → Option Value} {vs : List L2.V} {nm : Nat → Str} : ∀ {fi : List (Str × Nat)} {L0 : List (Str × L2.V)} {m0 : Str → Option Value}, (∀ f, L2.RelO (L0.lookup f) (m0 f)) → (L0.map (·.1) ++ fi.map (·.1)).Nodup →
    (∀ p ∈ fi, ∃ u, m (nm p.2) = some u ∧ L2.RelV (vs.getD p.2 .non) u) → ∀ f, L2.RelO ((L0 ++ fldV vs fi).lookup f) (putAll m m0 (fi.map fun p => (p.1, nm p.2)) f)
  | [], L0, m0, h0, _, _, f => by simpa [fldV, putAll] using h0 f
  | (f1, i) :: fi, L0, m0, h0, nd, hm, f => by
    obtain ⟨u, hu, ru⟩ := hm (f1, i) List.mem_cons_self
    have h1 : f1 ∉ L0.map (·.1) := by
      intro q
      have := List.nodup_append.mp nd
      exact this.2.2 f1 q f1 (by simp) rfl
    have := put_rel (m := m) (vs := vs) (nm := nm) (fi := fi) (L0 := L0 ++ [(f1, vs.getD i .non)]) (m0 := fun y => if y = f1 then m (nm i) else m0 y) (fun g => by
      by_cases e : g = f1
      · subst e
        rw [lookup_app_none h1]
        simp only [if_true, hu]
        simp [List.lookup]
        exact ru
      · have e' : (g == f1) = false := by simpa using e
        show L2.RelO ((L0 ++ [(f1, vs.getD i .non)]).lookup g) (if g = f1 then m (nm i) else m0 g)
        rw [if_neg e]
        by_cases q : g ∈ L0.map (·.1)
        · rw [lookup_app_mem q]; exact h0 g
        · rw [lookup_app_none q]
          have z := h0 g
          have zn : L0.lookup g = none := by
            have := lookup_app_none (r := []) q
            simpa using this
          rw [zn] at z
          simpa [List.lookup, e'] using z) (by simpa using nd) (fun p hp => hm p (List.mem_cons_of_mem _ hp)) f
    simpa [fldV, putAll] using this

structure ExcOk (P : Program) (K : Frag) (C fI : Addr) (txt : Str) (ps' : List Str) (fi : List (Str × Nat)) : Prop where
  k : ExcK P K C fI txt (("self" : Str) :: ps') (fi.map fun p => (p.1, ps'.getD p.2 ("" : Str)))
  ix : ∀ p ∈ fi, p.2 < ps'.length
  nd : (("code" : Str) :: fi.map (·.1)).Nodup
open L2 in
/-- what C(e, ..) makes -/
def xdOf (txt : Str) (vs : List V) (fi : List (Str × Nat)) : List (Str × V) := (("code" : Str), V.str txt) :: fldV vs fi
section
open L2
variable {X : Cx} {C fI : Addr} {txt : Str} {ps' : List Str} {fi : List (Str × Nat)} {pins : List (Addr × Obj)} {σ : L2.St} {H1 : Hp} {s1 : Shared} {us : List Value} {vs : List V} {Q : XK} {k : Nat}
theorem mk_core (T : ExcOk X.prog X.K C fI txt ps' fi) (hmg : X.mg "super" = none) (hr : Room (k + 1) X.A) (I1 : Inv X pins σ H1 s1) (r1 : Vals vs us) (hl : us.length = ps'.length) (hsz : us.length ≤ 1000) (hq : ∀ dd, H1 dd = none → Q (.ref C) (some dd) (upd H1 dd (.xd (xdOf txt vs fi)))) :
    wpAny (model X.prog X.w) X.A (call (.ref C) us) (MkP X pins σ Q) X.xe s1 := by
  obtain ⟨nm, q, N, bs, bm, sn, sub, ab, col, dd, k0, k1, k2, k3, k5, hC, hbm⟩ := T.k.oex.cls
  obtain ⟨hp, g, dr, tk, os⟩ := s1
  have hus : us.length ≤ sizeLine := by rw [sizeLine_eq]; omega
  refine wpAny_call (PySem.HandSPX.call_own F.excBase_ValueError (fun Y => PySem.HandSPX.refsVE_contains Y bm hbm) (I1.kIn _ _ hC) (PySem.W.looks_findIn I1.kIn T.k.ini) (fun self => PySem.W.bind_fn I1.kIn self T.k.tI) hus ?_)
  have hfr1 : ∀ a, hp.objs.size ≤ a → hp.get? a = none := fun a ha => by
    cases z : hp.get? a with
    | none => rfl
    | some o => exact absurd (Heap.lt_size z) (Nat.not_lt.mpr ha)
  have hget : ((hp.push (PySem.W.kdv_tup us)).push (PySem.HandSPX.excO C hp.objs.size)).get? (hp.objs.size + 1) = some (excObj C hp.objs.size none .none) := by heap_get
  have kk : ∀ b o, hp.get? b = some o → ((hp.push (PySem.W.kdv_tup us)).push (PySem.HandSPX.excO C hp.objs.size)).get? b = some o := fun b o e => Heap.get?_push_of_some _ (Heap.get?_push_of_some _ e)
  have hb : ∀ b o, X.base.get? b = some o → hp.get? b = some o := fun b o e => (I1.bs b o e).1
  refine init_run (hp := hp) (base := X.base) (mg := X.mg) T.k I1.ok.mod hb hmg kk hget (hfr1 _ (Nat.le_succ _)) (by simp [Heap.size_push]; omega) (hr.make C us []).depth (by simp [hl]) fun h2 t2 dx t1 k2' hx2 hdx dne hns => ⟨rfl, ?_⟩
  obtain ⟨tks, hns⟩ := hns
  have hH1 : H1 (hp.objs.size + 1) = none := I1.hok.fresh (Nat.le_succ _)
  have hHd : H1 dx = none := I1.hok.fresh hdx
  obtain ⟨G, g1', g2'⟩ := restrict h2 fun b => decide (b ≠ hp.objs.size + 1)
  have gk : ∀ b, b ≠ hp.objs.size + 1 → G.get? b = h2.get? b := fun b hb => g1' b (decide_eq_true hb)
  have ge : G.get? (hp.objs.size + 1) = none := g2' _ (by simp)
  have kG : ∀ b o, hp.get? b = some o → G.get? b = some o := fun b o e => by
    rw [gk b (fun z => by rw [z, hfr1 _ (Nat.le_succ _)] at e; cases e)]; exact k2' b o e
  have rel : ∀ f, RelO ((xdOf txt vs fi).lookup f) (putAll (fun y => ((("self" : Str) :: ps').zip (Value.ref (hp.objs.size + 1) :: us)).reverse.lookup y) (fun y => if y = "code" then some (.str txt tks) else none) (fi.map fun p => (p.1, ps'.getD p.2 ("" : Str))) f) := by
    have := put_rel (m := fun y => ((("self" : Str) :: ps').zip (Value.ref (hp.objs.size + 1) :: us)).reverse.lookup y) (vs := vs) (nm := fun i => ps'.getD i ("" : Str)) (fi := fi) (L0 := [(("code" : Str), V.str txt)]) (m0 := fun y => if y = "code" then some (.str txt tks) else none) (fun f => by
      by_cases e : f = "code"
      · subst e; simp [List.lookup]; exact ⟨_, rfl⟩
      · have e' : (f == ("code" : Str)) = false := by simpa using e
        simp [List.lookup, e', e]; exact True.intro) (by simpa using T.nd) (fun p hp' => by
      have hi := T.ix p hp'
      obtain ⟨fd, oc, od, osl, F⟩ := T.k.f
      obtain ⟨ps2, hps, nd⟩ := F.self
      have e1 : (("self" : Str) :: ps')[p.2 + 1]? = some (ps'.getD p.2 ("" : Str)) := by simp [hi]
      have e2 : (Value.ref (hp.objs.size + 1) :: us)[p.2 + 1]? = some (us[p.2]'(by omega)) := by simp [show p.2 < us.length by omega]
      refine ⟨us[p.2]'(by omega), ?_, ?_⟩
      · show ((("self" : Str) :: ps').zip (Value.ref (hp.objs.size + 1) :: us)).reverse.lookup _ = _
        rw [zipr_get nd (by simp [hl]) e1, e2]
      · have hv : p.2 < vs.length := by rw [r1.length]; omega
        have hg : vs[p.2]? = some (vs[p.2]'hv) := by simp
        obtain ⟨u, hu, ru⟩ := Vals.get r1 hg
        have hu2 : us[p.2]? = some (us[p.2]'(by omega)) := by simp
        rw [hu2] at hu
        cases hu
        have e3 : vs.getD p.2 .non = vs[p.2]'hv := by simp [hv]
        rw [e3]
        exact ru)
    exact this
  have J : Inv X pins σ (upd H1 dx (.xd (xdOf txt vs fi))) ⟨G, g, dr, t2, os⟩ := by
    refine I1.laid (t' := t2) (a := dx) (o := .xd (xdOf txt vs fi)) (h' := G) kG hdx ?_
    refine ⟨_, ?_, rel⟩
    exact hns.at fun o y => (gk dx dne).trans y
  refine ⟨hp.objs.size + 1, _, _, ⟨G, g, dr, t2, os⟩, _, .ref C, some dx, rfl, J, fun b o z => ?_, ge, hx2, ⟨rfl, rfl⟩, rfl, rfl, ?_, rfl, I1.bare, raises_own T.k.oex.exC T.k.oex.tyC, hq dx hHd⟩
  · by_cases hba : b = hp.objs.size + 1
    · rw [hba, ge] at z; cases z
    · exact (gk b hba).symm.trans z
  · rw [upd_ne (Ne.symm dne)]; exact hH1
end
end NT
set_option linter.all false
set_option maxRecDepth 100000
set_option autoImplicit false
namespace NT
open PySem PySem.Spec PyProof.Rows L2
section
variable {X : Cx} {C fI : Addr} {txt : Str} {ps' : List Str} {fi : List (Str × Nat)} {k : Nat} {x : Str} {p pos : Pos} {args : List Expr} {ta : TA}
/-- C(e, ..) -/
theorem pmk_exc (T : ExcOk X.prog X.K C fI txt ps' fi) (hmg : X.mg "super" = none) (hr : Room (k + 1) X.A) (hg : Gl X x) (hm : X.mg x = some (.ref C)) (hdb : (x == ("__debug__" : Str)) = false) (ha : PA X args ta) (hns : ∀ e ∈ args, ∀ a q, e ≠ .Starred a q) (h0 : args = [] → ta = tNil) :
    PMk X (.Call (.Name x p) args [] pos) (fun σ H Q => ta σ H fun vs H1 => vs.length = ps'.length ∧ vs.length ≤ 1000 ∧ ∀ dd, H1 dd = none → Q (.ref C) (some dd) (upd H1 dd (.xd (xdOf txt vs fi)))) := by
  intro pins s σ H Q I h
  refine wpAny_Call_Name_kw (ld_glob I hg hm ?_ hdb)
  cases args with
  | nil =>
    have := h0 rfl
    subst this
    obtain ⟨h1, h2, h3⟩ := h
    exact PySem.W.callWith_K0 I.kIn T.k.oex.kC (mk_core T hmg hr I .nil (by simpa using h1) (by simp) h3)
  | cons e es =>
    have h1 : starEach (e :: es) X.env = (false, eval e X.env) :: starEach es X.env := by
      have h1 := hns e List.mem_cons_self
      cases e <;> first | rfl | exact absurd rfl (h1 _ _)
    have h2 : (backTo pos (starEach es X.env)).any (·.1) = false := notStar_any fun e he => hns e (List.mem_cons_of_mem _ he)
    refine PySem.W.callWith_K (h₀ := X.base) I.ok.mod.kin T.k.oex.kC (thn (ha.run pos pins s σ H _ I h) fun us s1 ⟨vs, H1, I1, r1, q1, q2, q3⟩ => ⟨I1.kIn, ?_⟩) h1 h2
    show wpAny _ _ (call (.ref C) us) _ _ _
    exact mk_core T hmg hr I1 r1 (by rw [← r1.length]; exact q1) (by rw [← r1.length]; exact q2) q3
end
theorem fldV_fst (vs : List V) : ∀ fi : List (Str × Nat), (fldV vs fi).map (·.1) = fi.map (·.1)
  | [] => rfl
  | (f, i) :: r => by simp [fldV, fldV_fst vs r]
theorem fldV_snd (vs : List V) : ∀ fi : List (Str × Nat), (fldV vs fi).map (·.2) = fi.map fun p => vs.getD p.2 .non
  | [] => rfl
  | (f, i) :: r => by simp [fldV, fldV_snd vs r]
theorem Reps.getD {W : Wd} {c : Cf} {vs : List V} {xs : List AV} (r : Reps W c vs xs) (i : Nat) : Rep W c (vs.getD i .non) (xs.getD i .non) := by
  cases q : xs[i]? with
  | none =>
    have hl := List.getElem?_eq_none_iff.mp q
    have hv : vs[i]? = none := List.getElem?_eq_none (by rw [r.length]; exact hl)
    simp [List.getD, q, hv]
    exact .non
  | some a =>
    obtain ⟨v, h1, h2⟩ := r.get q
    simp [List.getD, q, h1]
    exact h2
theorem Reps.pick {W : Wd} {c : Cf} {vs : List V} {xs : List AV} (r : Reps W c vs xs) : ∀ is : List Nat, Reps W c (is.map fun i => vs.getD i .non) (is.map fun i => xs.getD i .non)
  | [] => .nil
  | i :: is => .cons (r.getD i) (Reps.pick r is)
section
variable {W : Wd} {Wx : WX} {X : Cx} {C : Orc} {n : Nat} {args : List Expr} {ia : E} {p pos pos' : Pos} {x : Str}
theorem snd_raise (K : CtxOk W Wx (n + 1) X) {c : Nat} {ks : List Nat} {txt : Str} {ps' : List Str} {fi : List (Str × Nat)} {fI : Addr} (T : ExcOk W.P W.K (W.clsA c) fI txt ps' fi) (hk : ks.map W.nm = ("code" : Str) :: fi.map (·.1)) (hl : ps'.length ≤ 1000)
    (hmg : W.mg "super" = none) (hg : Gl X x) (hm : W.mg x = some (.ref (W.clsA c))) (hdb : (x == ("__debug__" : Str)) = false) (ha : SndA W Wx X C args ia) (hns : ∀ e ∈ args, ∀ a q, e ≠ .Starred a q) (h0 : args = [] → ia = .nil) :
    SndS W Wx X C (.Raise (some (.Call (.Name x p) args [] pos)) none pos') (.raise c ps'.length ks txt (fi.map (·.2)) ia) := fun cf S σ D sim l en => by
  have T' : ExcOk X.prog X.K (W.clsA c) fI txt ps' fi := by rw [K.hP, K.hK]; exact T
  have hmg' : X.mg "super" = none := by rw [K.hg]; exact hmg
  have hm' : X.mg x = some (.ref (W.clsA c)) := by rw [K.hg]; exact hm
  have key : ∀ (ta : TA), PA X args ta → (args = [] → ta = tNil) → ta S cf.H (fun vs H1 => vs.length = ps'.length ∧ vs.length ≤ 1000 ∧ ∀ dd, H1 dd = none → Wx (.ref (W.clsA c)) (some dd) S (upd H1 dd (.xd (xdOf txt vs fi)))) →
      wS X (.Raise (some (.Call (.Name x p) args [] pos)) none pos') D S cf.H := fun ta hp h0 q =>
    wS_of (ps_raise K.calm K.tk (pmk_exc T' hmg' K.room hg hm' hdb hp hns h0)) q
  have fin : ∀ (xs : List AV) (c1 : Cf) (vs : List V), Sim W c1 → Reps W c1 vs xs → EndF W Wx c1 D ((fun (xs : List AV) (h : AHeap) => (if xs.length = ps'.length then Out.exc c ks (.str txt :: (fi.map (·.2)).map fun i => xs.getD i .non) h else .bad : Out NT.Flow)) xs c1.h) →
      vs.length = ps'.length ∧ vs.length ≤ 1000 ∧ ∀ dd, c1.H dd = none → Wx (.ref (W.clsA c)) (some dd) S (upd c1.H dd (.xd (xdOf txt vs fi))) := fun xs c1 vs s1 r1 e1 => by
    by_cases hx : xs.length = ps'.length
    · have e1 : EndF W Wx c1 D (if xs.length = ps'.length then Out.exc c ks (.str txt :: (fi.map (·.2)).map fun i => xs.getD i .non) c1.h else .bad) := e1
      rw [if_pos hx] at e1
      refine ⟨by rw [r1.length, hx], by rw [r1.length, hx]; exact hl, fun dd hd => ?_⟩
      have x1 : Ext c1 { c1 with H := upd c1.H dd (.xd (xdOf txt vs fi)) } := Ext.new s1 hd
      refine e1 c1.ρ (upd c1.H dd (.xd (xdOf txt vs fi))) dd (xdOf txt vs fi) S (s1.new hd) x1 (fun q => s1.fresh hd q) (upd_same ..) ?_ ?_
      · rw [hk]; simp [xdOf, fldV_fst]
      · show Reps W _ (V.str txt :: (fldV vs fi).map (·.2)) _
        rw [fldV_snd]
        refine .cons (.str txt) ?_
        have := ((r1.to x1).pick (fi.map (·.2)))
        rw [List.map_map] at this ⊢
        rw [List.map_map] at this
        exact this
    · have e1 : EndF W Wx c1 D (if xs.length = ps'.length then Out.exc c ks (.str txt :: (fi.map (·.2)).map fun i => xs.getD i .non) c1.h else .bad) := e1
      rw [if_neg hx] at e1
      exact e1.elim
  cases args with
  | nil =>
    have := h0 rfl
    subst this
    exact key tNil pa_nil (fun _ => rfl) (fin [] cf [] sim .nil en)
  | cons a es =>
    refine key _ pa_w (fun z => by cases z) ?_
    exact ha cf S σ _ sim l (EndF.bind en fun xs c1 vs _ s1 x1 r1 e1 => fin xs c1 vs s1 r1 e1)
end
end NT
set_option linter.all false
set_option maxRecDepth 100000
set_option autoImplicit false
set_option maxHeartbeats 2000000
namespace NT
open PySem PySem.Spec PyProof.Rows L2
/-! ### try: body, except (A, B, C) as n: suite; every exception of the body is caught -/
theorem FlyingZ.ext {B h h' : Heap} {l : List Env} {a : Addr} {Z : Obj → Prop} (f : HandSPX.FlyingZ B l a Z h) (k : ∀ b o, h.get? b = some o → h'.get? b = some o) : HandSPX.FlyingZ B l a Z h' := by
  obtain ⟨f1, f2, f3, oe, vs, T, oT, ts, h1, h2, h3, h4, h5, h6, h7, h8, h9⟩ := f
  exact ⟨fun b o e => k b o (f1 b o e), f2, f3.of_keeps (fun b o e _ => ⟨o, k b o e, rfl⟩), oe, vs, T, oT, ts, k _ _ h1, h2, h3, h4, h5, h6, k _ _ h7, h8, h9⟩
/-- what the clause wishes of an exception of the body -/
def wT3 (K : PySem.W.Frag) (c1 c2 c3 : Value) (i : Nat) (ts : Addr → Value → Option Addr → TS) (D : Ends) : WX := fun cls d σ H =>
  PySem.W.exmAny K cls [c1, c2, c3] = some true ∧ ∀ a, H a = none → (σ.set i (some (V.ref a)))[i]? = some (some (V.ref a)) → ts a cls d { nx := fun σ' H' => D.nx (σ'.set i none) H', rt := D.rt, bk := fun σ' H' => D.bk (σ'.set i none) H', ct := fun σ' H' => D.ct (σ'.set i none) H' } (σ.set i (some (.ref a))) H
section
variable {X : Cx} {x1 x2 x3 n : Str} {c1 c2 c3 : Value} {i : Nat} {body suite : List Stmt} {b₀ : Stmt} {np1 np2 np3 tp pos pos' : Pos} {kt : Nat} {tb : WX → TS} {ts : Addr → Value → Option Addr → TS}
theorem ps_try_t3 (hs : X.stack = X.env :: X.outer) (hf : X.env.frame = some X.env.locals) (hN : X.N.Nodup) (hi : X.N[i]? = some n) (hln : X.env.kindOf n = some .local)
    (hg1 : Gl X x1) (hm1 : X.mg x1 = some c1) (hd1 : (x1 == ("__debug__" : Str)) = false) (hg2 : Gl X x2) (hm2 : X.mg x2 = some c2) (hd2 : (x2 == ("__debug__" : Str)) = false) (hg3 : Gl X x3) (hm3 : X.mg x3 = some c3) (hd3 : (x3 == ("__debug__" : Str)) = false)
    (hb : ∀ (W : WX) (pn : List (Addr × Obj)) (xe : Value → Shared → Prop), Takes (X.tr pn xe) W → PassesOwn (model X.prog X.w) X.A X.env xe → PSs (X.tr pn xe) body (tb W))
    (hsu : ∀ (a : Addr) (oe : Obj) (cls : Value) (d : Option Addr) (pn : List (Addr × Obj)), Zc cls d oe → (∃ vs, oe.data = .fields vs) → PSs (X.suite a ((a, oe) :: pn)) (b₀ :: suite) (ts a cls d)) :
    PS X (.Try body [.ExceptHandler (some (.Tuple [.Name x1 np1, .Name x2 np2, .Name x3 np3] kt tp)) (some n) (b₀ :: suite) pos'] [] [] pos) (fun D σ H => tb (wT3 X.K c1 c2 c3 i ts D) D σ H) := by
  refine ⟨fun pins s σ H D I h => ?_⟩
  have ok := I.ok
  have hfr : X.A.frames = some (X.env :: X.outer) := by rw [ok.frames, hs]
  have hloc : L2.Loc X.env.scope n := .inl hln
  refine wpAny_Try_except ?_
  refine wpAny_mono ((hb (wT3 X.K c1 c2 c3 i ts D) (X.pn ++ pins) (fun e s₁ => wpAny (model X.prog X.w) X.A (noteFrame e X.env) (fun _ s₂ => wpAny (model X.prog X.w) X.A (setFlight e none) (fun _ s₃ =>
    wpAny (model X.prog X.w) X.A (handleBy e X.env [.ExceptHandler (some (.Tuple [.Name x1 np1, .Name x2 np2, .Name x3 np3] kt tp)) (some n) (b₀ :: suite) pos']) (SP X pins D) X.xe s₃) X.xe s₂) X.xe s₁) (fun u s' xx => ?_) PassesOwn.looking).run [] s σ H D (I.toTry _) h) (fun f s1 hsp => ?_) (fun e s1 he => he)
  · obtain ⟨a, B, sI, pins', σ', H', cls, d, rfl, J', nb, up, sky, na, os, ag, hb1, hyes⟩ := xx
    have J : Inv X pins σ' H' sI := J'.ofTry ok
    have sky' : Sky B (X.env :: X.outer) a (Zc cls d) X.env.locals s'.heap := by rw [← hs]; exact sky
    show wpAny (model X.prog X.w) X.A (noteFrame (.ref a) X.env) _ _ _
    refine Sky.land Zc.steady hfr hf sky' fun h3 fl3 up3 => ?_
    have J3 : Inv X pins σ' H' { s' with heap := h3 } := J.landed nb fl3.1 (up.trans up3) os ag
    obtain ⟨oe3, vs3, he3, hz3, hd3'⟩ := fl3.there
    have nfr : a ∉ frs (X.env :: X.outer) := fun hm => by
      obtain ⟨_, o', e', hnf⟩ := fl3.2.2.1.mem hm
      rw [he3] at e'; cases e'
      exact hnf _ hd3'
    have nL : a ≠ X.env.locals := fun z => nfr (List.mem_filterMap.mpr ⟨X.env, List.mem_cons_self, by rw [hf, z]⟩)
    have nF : a ∉ X.fs := fun hm => by
      obtain ⟨e, he, q⟩ := List.mem_filterMap.mp hm
      exact nfr (List.mem_filterMap.mpr ⟨e, List.mem_cons_of_mem _ he, q⟩)
    have S3 := J3.suite he3 hd3' na nL nF
    refine wpAny_handleBy_cons (codeAny_handlers_test ?_) (by intro q; cases q)
    have LT : PySem.W.Looks (model X.prog X.w) h3 (typeOf (.ref a)) cls := fun A Q E s k q => wpAny_typeOf_ref (k _ _ he3) (by rw [hz3.1]; exact q)
    refine wpAny_Tuple_spliced (Calls.spliced_cons (ld_glob (X := X.suite a ((a, oe3) :: (X.pn ++ pins))) S3 hg1 hm1 (Calls.spliced_cons (ld_glob (X := X.suite a ((a, oe3) :: (X.pn ++ pins))) S3 hg2 hm2 (Calls.spliced_cons (ld_glob (X := X.suite a ((a, oe3) :: (X.pn ++ pins))) S3 hg3 hm3 (Calls.spliced_nil ⟨by size_fits, ?_⟩) hd3)) hd2)) hd1))
    have kp : ∀ b o, h3.get? b = some o → (h3.push { cls := .type "tuple", data := .seq [c1, c2, c3].toArray }).get? b = some o := fun b o e => Heap.get?_push_of_some _ e
    refine (PySem.W.exm_tup3 (M := model X.prog X.w) (J3.kIn.keeps kp) (LT.keeps kp) (Heap.get?_push_size h3 rfl) hb1).here ?_
    have fl3' := FlyingZ.ext fl3 kp
    refine codeAny_handlers_suite_as ?_
    refine HandSPX.lands_againZ fl3' fun h4 fl4 up4 => ?_
    have J4 : Inv X pins σ' H' { s' with heap := h4 } := J.landed nb fl4.1 (((up.trans up3).trans (Heap.UpToSlots.of_keeps kp)).trans up4) os ag
    obtain ⟨oe4, vs4, he4, hz4, hd4⟩ := fl4.there
    have S4 := J4.suite he4 hd4 na nL nF
    refine store_ok (X := X.suite a ((a, oe4) :: (X.pn ++ pins))) (v := .ref a) S4 hN hi hloc rfl (fun s5 S5 => ?_) (.inr hln)
    refine wpAny_mono ((hsu a oe4 cls d (X.pn ++ pins) hz4 ⟨_, hd4⟩).run [] s5 _ H' _ S5 (hyes a na (by
      have hlen : σ'.length = X.N.length := J4.len
      rw [List.getElem?_set_self (by rw [hlen]; exact (List.getElem?_eq_some_iff.mp hi).1)]))) (fun f s6 hsp => ?_) (fun _ _ z => False.elim z)
    have end_ : ∀ {σ6 : L2.St} {H6 : Hp} {Q : Shared → Prop}, Inv (X.suite a ((a, oe4) :: (X.pn ++ pins))) [] σ6 H6 s6 → (∀ s7, Inv X pins (σ6.set i none) H6 s7 → Q s7) →
        wpAny (model X.prog X.w) X.A (do bindName X.env n .none; unbindBehindTheSuite X.env n pos') (fun _ s7 => Q s7) X.xe s6 := fun {σ6 H6 Q} S6 hq => gone_ok (S6.unsuite ok) hN hi hln hq
    cases f with
    | next =>
      obtain ⟨σ6, H6, S6, q6⟩ := hsp
      exact end_ S6 fun s7 J7 => ⟨_, _, J7, q6⟩
    | brk =>
      obtain ⟨σ6, H6, S6, q6⟩ := hsp
      exact end_ S6 fun s7 J7 => ⟨_, _, J7, q6⟩
    | cont =>
      obtain ⟨σ6, H6, S6, q6⟩ := hsp
      exact end_ S6 fun s7 J7 => ⟨_, _, J7, q6⟩
    | ret u =>
      obtain ⟨v6, σ6, H6, S6, r6, q6⟩ := hsp
      exact end_ S6 fun s7 J7 => ⟨_, _, _, J7, r6, q6⟩
  · cases f with
    | next =>
      obtain ⟨σ', H', J', q⟩ := hsp
      exact wpAny_execs_nil ⟨σ', H', J'.ofTry ok, q⟩
    | brk =>
      obtain ⟨σ', H', J', q⟩ := hsp
      exact ⟨σ', H', J'.ofTry ok, q⟩
    | cont =>
      obtain ⟨σ', H', J', q⟩ := hsp
      exact ⟨σ', H', J'.ofTry ok, q⟩
    | ret u =>
      obtain ⟨v, σ', H', J', r, q⟩ := hsp
      exact ⟨v, σ', H', J'.ofTry ok, r, q⟩
end

/-! ### a def that raises nothing, called while an exception is handled -/
section
open L2H
variable {X : Cx} {p : Addr × Obj} {f : Addr} {name qual x : Str} {params : Arguments} {body : List Stmt} {scope : Scope} {dV kV doc pm cdv ct oc : Value} {an od : Option Addr} {osl : Array (Option Value)} {N ps : List Str} {k : Nat} {e : Expr} {es : List Expr} {t : TA} {tb : TS} {q pos : Pos}
theorem pe_warm (hp : p ∈ X.pn) (lk : X.K.lookup f = some ⟨oc, od, .func (PySem.W.fnOf name qual params body scope dV kV doc pm an cdv ct), osl⟩) (hcd : PySem.W.codeIn X.K cdv qual = true) (S : FnScope N ps scope) (hr : RoomH (k + 1) X.A)
    (hg : Gl X x) (hm : X.mg x = some (.ref f)) (hk : PySem.W.keepIn X.K (.ref f) = true) (hb : Binds X.K (PySem.W.fnOf name qual params body scope dV kV doc pm an cdv ct) ps []) (ha : PA X (e :: es) t)
    (hbody : ∀ (s : Shared) (H : Hp), PSs (cxH C8.CX0 X.prog X.w X.K X.mg X.base N qual scope f cdv X.A X.stack s H C8.E0 p) body tb)
    (hdb : (x == ("__debug__" : Str)) = false) (he : starEach (e :: es) X.env = (false, eval e X.env) :: starEach es X.env := by rfl) (hpl : (backTo pos (starEach es X.env)).any (·.1) = false := by rfl) :
    PE X (.Call (.Name x q) (e :: es) [] pos) (fun σ H Q => t σ H fun vs H1 => vs.length = ps.length ∧ tb { nx := fun _ H' => Q .non H', rt := Q } (L2.start N vs) H1) := by
  refine ⟨fun pins s σ H Q I h => ?_⟩
  refine wpAny_Call_Name_kw (ld_glob I hg hm ?_ hdb)
  refine PySem.W.callWith_K (h₀ := X.base) I.ok.mod.kin hk (thn (ha.run pos pins s σ H _ I h) fun us s1 ⟨vs, H1, I1, r, hl, hq⟩ => ⟨I1.kIn, ?_⟩) he hpl
  show wpAny _ _ (call (.ref f) us) _ _ _
  have hl' : us.length = ps.length := by rw [← r.length]; exact hl
  have b := hb s1 us I1.kIn (by rw [List.append_nil]; exact hl')
  rw [List.append_nil] at b
  have P1 := I1.pin p (List.mem_append_left _ hp)
  have hpin : PinOk X.stack H1 s1 p := ⟨P1.1, P1.2.1, fun hm => (List.mem_cons.mp (I1.stkSub p.1 hm)).elim P1.2.2.1 P1.2.2.2.1, P1.2.2.2.2⟩
  have e0 := I1.env0
  have KX : X.K.In s1.heap := I1.kIn
  have lim : s1.heap.NoLimit := e0.mod.nolimit.keeps fun b o e => (e0.bs b o e).1
  have hkind : ∀ y ∈ ps.zip us, scope.names.lookup y.1 = some .local ∨ (scope.names.lookup y.1 = some .cell ∧ ((cellsFrom (s1.heap.objs.size + 1) scope.names []).lookup y.1).isSome = true) := fun ⟨n, v⟩ hy => by
    rcases S.par n (List.of_mem_zip hy).1 with q | q
    · exact .inl q
    · exact .inr ⟨q, PySem.W.cellsFrom_some _ _ _ (.inl q)⟩
  have rc : codeAny (model X.prog X.w) X.A (.call (.ref f) ⟨us, []⟩) (CR C8.CX0 X.stack X.prog X.w H1 s1 Q C8.E0) s1 := by
    refine codeAny_call_function hr.depth (KX _ _ lk) rfl S.co S.gen rfl (PySem.W.codeRec_of KX hcd) (b _ _ _ _ ?_)
    refine wpAny_newFunctionEnv_cells S.kind hkind fun env he s2 x => ?_
    subst he
    refine ⟨lim.keeps x.toInCall.keep, codeAny_func ?_⟩
    have I2 : Inv (cxH C8.CX0 X.prog X.w X.K X.mg X.base N qual scope f cdv X.A X.stack s1 H1 C8.E0 p) [] (L2.start N vs) H1 s2 := inv_startH S hpin e0 hl r x
    refine wpAny_mono ((hbody s1 H1).run [] s2 (L2.start N vs) H1 _ I2 hq) (fun fl s' hs => ?_) fun e s' hs => hs
    have fin : ∀ {σ' : L2.St} {H' : Hp} {v : V} {u : Value}, Inv (cxH C8.CX0 X.prog X.w X.K X.mg X.base N qual scope f cdv X.A X.stack s1 H1 C8.E0 p) [] σ' H' s' → RelV v u → Q v H' → CE X.stack X.prog X.w H1 s1 Q u s' :=
      fun {σ' H' v u} J rv q => ⟨v, H', J.os, J.bare, J.base, J.hok, rv, q⟩
    cases fl with
    | ret u =>
      obtain ⟨v, σ', H', J, rv, q⟩ := hs
      exact fin J rv q
    | next =>
      obtain ⟨σ', H', J, q⟩ := hs
      exact fin (v := V.non) (u := Value.none) J rfl q
    | brk =>
      obtain ⟨_, _, _, q⟩ := hs
      exact False.elim q
    | cont =>
      obtain ⟨_, _, _, q⟩ := hs
      exact False.elim q
  refine wpAny_call (codeAny_mono rc fun r s' hq => ?_)
  cases r with
  | error e => exact (show False from hq).elim
  | ok fl =>
    cases fl with
    | ret u => exact I1.after hq
    | next => exact False.elim hq
    | brk => exact False.elim hq
    | cont => exact False.elim hq
end
/-! ### e.f of a caught exception that is pinned -/
theorem pe_xfp {X : Cx} {a C : Addr} {oe : Obj} {cls : Value} {d : Option Addr} {e : Expr} {te : TE} {pos : Pos} {n : Str} (T : XfC X.K C) (hno : PySem.W.findIn X.K (.ref C) n = some none)
    (hz : Zc cls d oe) (hf : ∃ vs, oe.data = .fields vs) (hp : (a, oe) ∈ X.pn) (he : PE X e te) (hb : attributeBase e n X.env (eval e X.env) = eval e X.env := by rfl) :
    PE X (.Attribute e n pos) (tXf a cls d C n te) := by
  refine ⟨fun pins s σ H Q I h => ?_⟩
  refine attr_of hb (thn (he.run pins s σ H _ I h) fun u s1 hh => ?_)
  obtain ⟨x, H1, I1, rx, ex, ec, dd, fs, v, ed, ea, l, q⟩ := hh
  subst ex
  obtain rfl : u = Value.ref a := rx
  subst ec
  subst ed
  obtain ⟨ha, _⟩ := I1.pin (a, oe) (List.mem_append_left _ hp)
  obtain ⟨vs, hd⟩ := hf
  have hx : ObjOk X.prog X.w H1 s1.heap dd (.xd fs) := I1.hok dd _ ea
  obtain ⟨mA, hns, hr⟩ := hx
  obtain ⟨od, ho, hl⟩ := lookIn_ns hns
  obtain ⟨u, hu, ru⟩ := RelO.some_of (v := v) (o := mA n) (by rw [← l]; exact hr n)
  have J : PySem.W.InstAt s1.heap a oe C (some od) := ⟨ha, hz.1, by unfold PySem.W.notCls; rw [hd] <;> rfl, by rw [hz.2]; exact ho⟩
  exact HandSPX.exc_get I1.kIn J T.ga T.gg T.exC (PySem.W.findObj_own T.hdC hno rfl (by rw [hl, hu])) (handed_of ru) ⟨v, H1, I1.tok _, ru, q⟩
end NT
set_option linter.all false
set_option maxRecDepth 100000
set_option autoImplicit false
set_option maxHeartbeats 2000000
namespace NT
open PySem PySem.Spec PyProof.Rows L2
/-! ### _law_field: what is told of a caught exception -/
inductive StrL : List Expr → List Str → Prop
  | nil : StrL [] []
  | cons {s : Str} {k : Nat} {p : Pos} {r : List Expr} {ss : List Str} : StrL r ss → StrL (.Constant (.str s) k p :: r) (s :: ss)
inductive FB (e : Str) : List Stmt → List FR → Str → Str → Prop
  | fin {p1 p2 p3 p4 p5 p6 p7 p8 p9 : Pos} {k : Nat} {s f : Str} : FB e [.Return (some (.IfExp (.Compare (.Attribute (.Name e p1) "code" p2) [.Eq] [.Constant (.str s) k p3] p4) (.Attribute (.Name e p5) f p6) (.Constant .none 0 p7) p8)) p9] [] s f
  | inn {p1 p2 p3 p4 p5 p6 p7 p8 : Pos} {lits : List Expr} {ss : List Str} {f s0 f0 : Str} {r : List Stmt} {rs : List FR} : StrL lits ss → ss.length ≤ 1000 → FB e r rs s0 f0 →
      FB e (.If (.Compare (.Attribute (.Name e p1) "code" p2) [.In] [.List lits p3] p4) [.Return (some (.Attribute (.Name e p5) f p6)) p7] [] p8 :: r) (.inn ss f :: rs) s0 f0
  | eq1 {p1 p2 p3 p4 p5 p6 p7 p8 : Pos} {k : Nat} {s f s0 f0 : Str} {r : List Stmt} {rs : List FR} : FB e r rs s0 f0 →
      FB e (.If (.Compare (.Attribute (.Name e p1) "code" p2) [.Eq] [.Constant (.str s) k p3] p4) [.Return (some (.Attribute (.Name e p5) f p6)) p7] [] p8 :: r) (.eq1 s f :: rs) s0 f0
  | eq2 {p1 p2 p3 p4 p5 p6 p7 p8 p9 q1 q2 : Pos} {k j : Nat} {s f g s0 f0 : Str} {r : List Stmt} {rs : List FR} : FB e r rs s0 f0 →
      FB e (.If (.Compare (.Attribute (.Name e p1) "code" p2) [.Eq] [.Constant (.str s) k p3] p4) [.Return (some (.Tuple [.Attribute (.Name e p5) f p6, .Attribute (.Name e q1) g q2] j p9)) p7] [] p8 :: r) (.eq2 s f g :: rs) s0 f0
/-- H has grown to H' -/
def Gr (H H' : Hp) : Prop := ∀ b o, H b = some o → H' b = some o
def fres (fs : List (Str × V)) : List Str → Ends → Hp → Prop
  | [], D, H => D.rt .non H
  | [f], D, H => ∃ v, fs.lookup f = some v ∧ D.rt v H
  | [f, g], D, H => ∃ v w, fs.lookup f = some v ∧ fs.lookup g = some w ∧ ∀ p, H p = none → D.rt (.ref p) (upd H p (.tup [v, w]))
  | _, _, _ => False
/-- the reading: the exception at a, its dict at dd -/
def tFld2 (a dd : Addr) (rs : List FR) (s0 f0 : Str) : TS := fun D σ H => σ[0]? = some (some (.ref a)) ∧ ∃ fs s, H dd = some (.xd fs) ∧ fs.lookup ("code" : Str) = some (V.str s) ∧ ∀ H', Gr H H' → fres fs (fgo rs s0 f0 s) D H'
theorem pa_strs {Z : Cx} : ∀ {es : List Expr} {ss : List Str}, StrL es ss → PA Z es (fun σ H Q => Q (ss.map V.str) H)
  | _, _, .nil => pa_nil
  | _, _, .cons h => ⟨fun pos pins s σ H Q I q => (pa_cons pe_str (pa_strs h)).run pos pins s σ H Q I q⟩
theorem inV_strs (s : Str) : ∀ ss : List Str, inV (.str s) (ss.map V.str) = ss.any fun y => y == s
  | [] => rfl
  | t :: ss => by
    show (eqV (.str t) (.str s) || inV (.str s) (ss.map V.str)) = _
    rw [inV_strs s ss]; rfl
theorem flat_strs : ∀ ss : List Str, (ss.map V.str).all flatV = true
  | [] => rfl
  | t :: ss => by simpa [flatV] using flat_strs ss
theorem PSs.imp {Z : Cx} {st : List Stmt} {t t' : TS} (h : PSs Z st t) (k : ∀ D σ H, t' D σ H → t D σ H) : PSs Z st t' := ⟨fun pins s σ H D I q => h.run pins s σ H D I (k D σ H q)⟩
theorem Gr.refl (H : Hp) : Gr H H := fun _ _ h => h
theorem Gr.new {H : Hp} {p : Addr} {o : HO} (n : H p = none) : Gr H (upd H p o) := fun b u h => by rw [upd_ne (ne_of_none h n)]; exact h
theorem Gr.trans {H H1 H2 : Hp} (a : Gr H H1) (b : Gr H1 H2) : Gr H H2 := fun p o h => b p o (a p o h)
section
variable {Z : Cx} {a dd C : Addr} {oe : Obj} {e : Str}
theorem fld_ok (T : XfC Z.K C) (hz : Zc (.ref C) (some dd) oe) (hf : ∃ vs, oe.data = .fields vs) (hp : (a, oe) ∈ Z.pn) (hN : Z.N[0]? = some e) (hv : Vis Z.env.scope e) (hd : (e == ("__debug__" : Str)) = false) (hc : (e == ("__classdict__" : Str)) = false)
    (nc : PySem.W.findIn Z.K (.ref C) "code" = some none) : ∀ {body : List Stmt} {rs : List FR} {s0 f0 : Str}, FB e body rs s0 f0 → (∀ r ∈ rs, ∀ f ∈ r.names, PySem.W.findIn Z.K (.ref C) f = some none) → PySem.W.findIn Z.K (.ref C) f0 = some none →
      PSs Z body (tFld2 a dd rs s0 f0) := by
  have at_ : ∀ {f : Str} {p1 p2 : Pos}, PySem.W.findIn Z.K (.ref C) f = some none → PE Z (.Attribute (.Name e p1) f p2) (tXf a (.ref C) (some dd) C f (tVar 0)) := fun hno => pe_xfp T hno hz hf hp (pe_var hN hv hd hc)
  have rd : ∀ {f : Str} {σ : L2.St} {H : Hp} {fs : List (Str × V)} {v : V} {Q : VK}, σ[0]? = some (some (.ref a)) → H dd = some (.xd fs) → fs.lookup f = some v → Q v H → tXf a (.ref C) (some dd) C f (tVar 0) σ H Q := fun h1 h2 h3 q => ⟨_, h1, rfl, rfl, dd, _, _, rfl, h2, h3, q⟩
  intro body rs s0 f0 B
  induction B with
  | @fin p1 p2 p3 p4 p5 p6 p7 p8 p9 k s f =>
    intro _ h0
    refine PSs.imp (pss_one (ps_ret (pe_ifExp (pt_cmpR op_eq (at_ nc) pe_str (nomark _)) (at_ h0) pe_non))) fun D σ H ⟨h1, fs, s1, h2, h3, q⟩ => ?_
    dsimp only [tRet, tIf, tIfS, tSeq, tTest, tOp, tC, rEq]
    refine rd h1 h2 h3 ?_
    refine ⟨rfl, _, rfl, ?_⟩
    have q := q H (Gr.refl H)
    by_cases hs : s1 = s
    · subst hs
      simp only [fgo, if_true] at q
      obtain ⟨v, e1, e2⟩ := q
      simp
      exact rd h1 h2 e1 e2
    · simp only [fgo, if_neg hs] at q
      have : ¬ (V.str s1 = V.str s) := fun z => hs (by cases z; rfl)
      simp [this]
      exact q
  | @inn p1 p2 p3 p4 p5 p6 p7 p8 lits ss f s0 f0 r rs hl hn B ih =>
    intro hnm h0
    have hf1 := hnm (.inn ss f) List.mem_cons_self f (by simp [FR.names])
    refine PSs.imp (pss_cons (ps_if (pt_cmpR op_in_seq (at_ nc) (pe_lst (pa_strs hl)) rfl) (pss_one (ps_ret (at_ hf1))) pss_nil) (ih (fun r hr => hnm r (List.mem_cons_of_mem _ hr)) h0)) fun D σ H ⟨h1, fs, s1, h2, h3, q⟩ => ?_
    refine rd h1 h2 h3 ⟨by rw [List.length_map, sizeLine_eq]; omega, fun p hp' => ?_⟩
    refine ⟨p, ss.map V.str, rfl, .inl (.inl (.inl upd_same)), rfl, flat_strs ss, ?_⟩
    refine ⟨_, rfl, ?_⟩
    have g := Gr.new (o := HO.lst (ss.map V.str)) hp'
    rw [inV_strs]
    simp only [Bool.false_eq_true, if_false]
    by_cases hs : (ss.any fun y => y == s1) = true
    · have q := q _ g
      simp only [fgo, hs, if_true] at q
      obtain ⟨v, e1, e2⟩ := q
      rw [if_pos hs]
      exact rd h1 (g _ _ h2) e1 e2
    · rw [if_neg hs]
      refine ⟨h1, fs, s1, g _ _ h2, h3, fun H' g' => ?_⟩
      have q := q H' (g.trans g')
      simp only [fgo, if_neg hs] at q
      exact q
  | @eq1 p1 p2 p3 p4 p5 p6 p7 p8 k s f s0 f0 r rs B ih =>
    intro hnm h0
    have hf1 := hnm (.eq1 s f) List.mem_cons_self f (by simp [FR.names])
    refine PSs.imp (pss_cons (ps_if (pt_cmpR op_eq (at_ nc) pe_str (nomark _)) (pss_one (ps_ret (at_ hf1))) pss_nil) (ih (fun r hr => hnm r (List.mem_cons_of_mem _ hr)) h0)) fun D σ H ⟨h1, fs, s1, h2, h3, q⟩ => ?_
    dsimp only [tRet, tIf, tIfS, tSeq, tTest, tOp, tC, rEq]
    refine rd h1 h2 h3 ?_
    refine ⟨rfl, _, rfl, ?_⟩
    by_cases hs : s1 = s
    · subst hs
      have q := q H (Gr.refl H)
      simp only [fgo, if_true] at q
      obtain ⟨v, e1, e2⟩ := q
      simp
      exact rd h1 h2 e1 e2
    · have : ¬ (V.str s1 = V.str s) := fun z => hs (by cases z; rfl)
      simp [this]
      refine ⟨h1, fs, s1, h2, h3, fun H' g' => ?_⟩
      have q := q H' g'
      simp only [fgo, if_neg hs] at q
      exact q
  | @eq2 p1 p2 p3 p4 p5 p6 p7 p8 p9 q1 q2 k j s f g s0 f0 r rs B ih =>
    intro hnm h0
    have hf1 := hnm (.eq2 s f g) List.mem_cons_self f (by simp [FR.names])
    have hf2 := hnm (.eq2 s f g) List.mem_cons_self g (by simp [FR.names])
    refine PSs.imp (pss_cons (ps_if (pt_cmpR op_eq (at_ nc) pe_str (nomark _)) (pss_one (ps_ret (pe_tup (pa_cons (at_ hf1) (pa_cons (at_ hf2) pa_nil))))) pss_nil) (ih (fun r hr => hnm r (List.mem_cons_of_mem _ hr)) h0)) fun D σ H ⟨h1, fs, s1, h2, h3, q⟩ => ?_
    dsimp only [tRet, tIf, tIfS, tSeq, tTest, tOp, tC, rEq]
    refine rd h1 h2 h3 ?_
    refine ⟨rfl, _, rfl, ?_⟩
    by_cases hs : s1 = s
    · subst hs
      have q := q H (Gr.refl H)
      simp only [fgo, if_true] at q
      obtain ⟨v, w, e1, e2, e3⟩ := q
      simp
      dsimp only [tRet, tTup, tCons, tNil]
      refine rd h1 h2 e1 ?_
      refine rd h1 h2 e2 ?_
      exact ⟨by rw [sizeLine_eq]; simp, e3⟩
    · have : ¬ (V.str s1 = V.str s) := fun z => hs (by cases z; rfl)
      simp [this]
      refine ⟨h1, fs, s1, h2, h3, fun H' g' => ?_⟩
      have q := q H' g'
      simp only [fgo, if_neg hs] at q
      exact q
end
end NT
set_option linter.all false
set_option maxRecDepth 100000
set_option autoImplicit false
set_option maxHeartbeats 2000000
namespace NT
open PySem PySem.Spec PyProof.Rows L2 LamX
/-! ### _law_got: try: return ('', a()), except (A, B, C) as n: return (n.code, f(n)) -/
/-- a class whose exceptions are told by `_law_field` -/
structure Told (K : PySem.W.Frag) (c1 c2 c3 : Value) (rs : List FR) (f0 : Str) (C : Addr) : Prop where
  xf : XfC K C
  code : PySem.W.findIn K (.ref C) "code" = some none
  nm : ∀ r ∈ rs, ∀ f ∈ r.names, PySem.W.findIn K (.ref C) f = some none
  nm0 : PySem.W.findIn K (.ref C) f0 = some none
  exm : PySem.W.exmAny K (.ref C) [c1, c2, c3] = some true
/-- what is wished of an exception -/
def gotX (K : PySem.W.Frag) (c1 c2 c3 : Value) (rs : List FR) (s0 f0 : Str) (Q : VK) : XK := fun cls d H => ∃ (C dd : Addr) (fs : List (Str × V)) (s : Str), cls = .ref C ∧ d = some dd ∧ Told K c1 c2 c3 rs f0 C ∧ H dd = some (.xd fs) ∧ fs.lookup ("code" : Str) = some (V.str s) ∧
  ∀ H', Gr H H' → fres fs (fgo rs s0 f0 s) { nx := fun _ _ => False, rt := fun v H2 => ∀ p, H2 p = none → Q (.ref p) (upd H2 p (.tup [.str s, v])) } H'
def TTgot (K : PySem.W.Frag) (c1 c2 c3 : Value) (rs : List FR) (s0 f0 : Str) : (XK → Hp → VK → Prop) → Hp → VK → Prop := fun tl H Q =>
  tl (gotX K c1 c2 c3 rs s0 f0 Q) H fun v H1 => [V.str "", v].length ≤ sizeLine ∧ ∀ p, H1 p = none → Q (.ref p) (upd H1 p (.tup [.str "", v]))

section
open L2H
variable {X : Cx} {Ng Nf : List Str} {x a q n fl ef x1 x2 x3 s0 f0 : Str} {sg sf : Scope} {g ff : Addr} {cdg c1 c2 c3 : Value} {i k : Nat} {rs : List FR} {bf : List Stmt} {pf : Arguments} {dV kV doc pm cdv ct oc : Value} {an od : Option Addr} {osl : Array (Option Value)}
  {p1 p2 p3 p4 p5 p6 p7 p8 p9 r1 r2 r3 r4 r5 r6 r7 r8 : Pos} {k1 k2 k3 k4 : Nat} {pos0 : Pos}
theorem got_gives (hr : Room (k + 3) X.A) (hN : Ng.Nodup) (h0 : ∀ f : Addr, (L2.start Ng [V.ref f])[0]? = some (some (V.ref f))) (hi : Ng[i]? = some n) (hln : sg.names.lookup n = some .local) (hnd : (n == ("__debug__" : Str)) = false) (hnc : (n == ("__classdict__" : Str)) = false)
    (hg1 : sg.names.lookup x1 = some .globalImplicit) (hm1 : X.mg x1 = some c1) (hd1 : (x1 == ("__debug__" : Str)) = false) (hg2 : sg.names.lookup x2 = some .globalImplicit) (hm2 : X.mg x2 = some c2) (hd2 : (x2 == ("__debug__" : Str)) = false)
    (hg3 : sg.names.lookup x3 = some .globalImplicit) (hm3 : X.mg x3 = some c3) (hd3 : (x3 == ("__debug__" : Str)) = false)
    (hgf : sg.names.lookup fl = some .globalImplicit) (hmf : X.mg fl = some (.ref ff)) (hdf : (fl == ("__debug__" : Str)) = false) (hkf : PySem.W.keepIn X.K (.ref ff) = true)
    (lkf : X.K.lookup ff = some ⟨oc, od, .func (PySem.W.fnOf fl fl pf bf sf dV kV doc pm an cdv ct), osl⟩) (hcf : PySem.W.codeIn X.K cdv fl = true) (Sf : FnScope Nf [ef] sf) (hNf : Nf[0]? = some ef) (hvf : Vis sf ef) (hed : (ef == ("__debug__" : Str)) = false) (hec : (ef == ("__classdict__" : Str)) = false)
    (hbf : Binds X.K (PySem.W.fnOf fl fl pf bf sf dV kV doc pm an cdv ct) [ef] []) (hstf : ∀ v : V, (L2.start Nf [v])[0]? = some (some v)) (B : FB ef bf rs s0 f0) :
    GivesTo X Ng x sg g cdg [.Try [.Return (some (.Tuple [.Constant (.str "") k1 p1, .Call (.Name a p2) [] [] p3] k2 p4)) p5] [.ExceptHandler (some (.Tuple [.Name x1 p6, .Name x2 p7, .Name x3 p8] k3 p9)) (some n) [.Return (some (.Tuple [.Attribute (.Name n r1) "code" r2, .Call (.Name fl r3) [.Name n r4] [] r5] k4 r6)) r7] r8] [] [] pos0] a q (TTgot X.K c1 c2 c3 rs s0 f0) := by
  intro f c' s H Q tl act hc h
  obtain ⟨Z, hZ⟩ : ∃ Z, Z = (cxOf C8.CX0 X.prog X.w X.K X.mg X.base Ng x sg g cdg X.A X.stack s H C8.E0).nox := ⟨_, rfl⟩
  have hK : Z.K = X.K := by rw [hZ]; rfl
  have hmg : Z.mg = X.mg := by rw [hZ]; rfl
  have hsc : Z.env.scope = sg := by rw [hZ]; rfl
  have hNZ : Z.N = Ng := by rw [hZ]; rfl
  have gl : ∀ {y : Str}, sg.names.lookup y = some .globalImplicit → Gl Z y := fun hy => by
    show Z.env.scope.names.lookup _ = _
    rw [hsc]; exact hy
  rw [← hZ]
  have suite : ∀ (a' : Addr) (oe : Obj) (cls : Value) (d : Option Addr) (pn : List (Addr × Obj)), Zc cls d oe → (∃ vs, oe.data = .fields vs) →
      PSs (Z.suite a' ((a', oe) :: pn)) [.Return (some (.Tuple [.Attribute (.Name n r1) "code" r2, .Call (.Name fl r3) [.Name n r4] [] r5] k4 r6)) r7]
        (fun D σ H => ∃ (C dd : Addr) (fs : List (Str × V)) (s : Str), cls = .ref C ∧ d = some dd ∧ Told X.K c1 c2 c3 rs f0 C ∧ σ[i]? = some (some (.ref a')) ∧ H dd = some (.xd fs) ∧ fs.lookup ("code" : Str) = some (V.str s) ∧
          ∀ H', Gr H H' → fres fs (fgo rs s0 f0 s) { nx := fun _ _ => False, rt := fun v H2 => ∀ p, H2 p = none → D.rt (.ref p) (upd H2 p (.tup [.str s, v])) } H') := by
    intro a' oe cls d pn hz hfl
    refine ⟨fun pins s' σ H1 D I ⟨C, dd, fs, sc, ec, ed, T, h1, h2, h3, h4⟩ => ?_⟩
    subst ec ed
    have vn : PE (Z.suite a' ((a', oe) :: pn)) (.Name n r1) (tVar i) := pe_var (by show Z.N[i]? = _; rw [hNZ]; exact hi) (.inl (by show Z.env.scope.names.lookup _ = _; rw [hsc]; exact hln)) hnd hnc
    have vn2 : PE (Z.suite a' ((a', oe) :: pn)) (.Name n r4) (tVar i) := pe_var (by show Z.N[i]? = _; rw [hNZ]; exact hi) (.inl (by show Z.env.scope.names.lookup _ = _; rw [hsc]; exact hln)) hnd hnc
    have T' : Told Z.K c1 c2 c3 rs f0 C := by rw [hK]; exact T
    have cd : PE (Z.suite a' ((a', oe) :: pn)) (.Attribute (.Name n r1) "code" r2) (tXf a' (.ref C) (some dd) C "code" (tVar i)) := pe_xfp T'.xf T'.code hz hfl List.mem_cons_self vn
    have hrm : RoomH (k + 1) (Z.suite a' ((a', oe) :: pn)).A := by
      have z : (Z.suite a' ((a', oe) :: pn)).A = (X.A.deeper (envOfC x sg s.heap.objs.size g cdg)).mark (some (.ref a')) := by rw [hZ]; rfl
      rw [z]
      have r0 := roomH_of (hr.deeper (envOfC x sg s.heap.objs.size g cdg))
      have r1 := r0.mono (show k + 1 ≤ k + 2 by omega)
      exact ⟨r1.dp, r1.un⟩
    have fc : PE (Z.suite a' ((a', oe) :: pn)) (.Call (.Name fl r3) [.Name n r4] [] r5) _ := pe_warm (X := Z.suite a' ((a', oe) :: pn)) (p := (a', oe)) (k := k) (tb := tFld2 a' dd rs s0 f0) List.mem_cons_self (by show Z.K.lookup ff = _; rw [hK]; exact lkf) (by show PySem.W.codeIn Z.K _ _ = _; rw [hK]; exact hcf) Sf hrm (gl hgf) (by show Z.mg fl = _; rw [hmg]; exact hmf) (by show PySem.W.keepIn Z.K _ = _; rw [hK]; exact hkf)
      (by show Binds Z.K _ _ _; rw [hK]; exact hbf) (pa_cons vn2 pa_nil) (fun s2 H2 => by
        refine fld_ok (a := a') (dd := dd) (C := C) (oe := oe) (e := ef) ?_ hz hfl ?_ ?_ ?_ hed hec ?_ B ?_ ?_
        · exact T'.xf
        · exact List.mem_cons_self
        · exact hNf
        · exact hvf
        · exact T'.code
        · exact T'.nm
        · exact T'.nm0) hdf
    refine (pss_one (ps_ret (pe_tup (pa_cons cd (pa_cons fc pa_nil))))).run pins s' σ H1 D I ?_
    dsimp only [tRet, tTup, tCons, tNil]
    refine ⟨_, h1, rfl, rfl, dd, fs, _, rfl, h2, h3, ?_⟩
    refine ⟨_, h1, ?_⟩
    refine ⟨rfl, hstf _, fs, sc, h2, h3, fun H' g' => ?_⟩
    have q := h4 H' g'
    have go : ∀ (l : List Str) (H' : Hp), fres fs l { nx := fun _ _ => False, rt := fun v H2 => ∀ p, H2 p = none → D.rt (.ref p) (upd H2 p (.tup [.str sc, v])) } H' →
        fres fs l { nx := fun _ H2 => [V.str sc, V.non].length ≤ sizeLine ∧ ∀ p, H2 p = none → D.rt (.ref p) (upd H2 p (.tup [V.str sc, V.non])), rt := fun v H2 => [V.str sc, v].length ≤ sizeLine ∧ ∀ p, H2 p = none → D.rt (.ref p) (upd H2 p (.tup [V.str sc, v])) } H' := by
      intro l H' q
      have sz : ∀ v : V, [V.str sc, v].length ≤ sizeLine := fun v => by rw [sizeLine_eq]; simp
      match l, q with
      | [], q => exact ⟨sz _, q⟩
      | [f], ⟨v, e1, e2⟩ => exact ⟨v, e1, sz _, e2⟩
      | [f, g], ⟨v, w, e1, e2, e3⟩ => exact ⟨v, w, e1, e2, fun p hp => ⟨sz _, e3 p hp⟩⟩
    exact go _ H' q
  refine ⟨_, pss_one (ps_try_t3 (X := Z) (x1 := x1) (x2 := x2) (x3 := x3) (c1 := c1) (c2 := c2) (c3 := c3) (i := i) (n := n)
      (tb := fun W D σ H => ∃ Ech : XK, (∀ cls d σ' H', Ech cls d H' → W cls d σ' H') ∧ σ[0]? = some (some (.ref f)) ∧ H c' = some (CodeO c' q) ∧ tl Ech H fun v H1 => [V.str "", v].length ≤ sizeLine ∧ ∀ p, H1 p = none → D.rt (.ref p) (upd H1 p (.tup [.str "", v])))
      (by rw [hZ]; rfl) (by rw [hZ]; rfl) (by rw [hNZ]; exact hN) (by rw [hNZ]; exact hi) (by show Z.env.scope.names.lookup _ = _; rw [hsc]; exact hln) (gl hg1) (by rw [hmg]; exact hm1) hd1 (gl hg2) (by rw [hmg]; exact hm2) hd2 (gl hg3) (by rw [hmg]; exact hm3) hd3 (fun W pn xe tk _ => ?_) suite), ?_⟩
  · refine ⟨fun pins s' σ H' D I h' => ?_⟩
    obtain ⟨Ech, hW, h1, h2, h3⟩ := h'
    have hp := act W pn xe Ech p2 p3 (by rw [hZ] at tk; exact tk) hW
    have hp' : PE (Z.tr pn xe) (.Call (.Name a p2) [] [] p3) (fun σZ HZ Q => σZ[0]? = some (some (.ref f)) ∧ HZ c' = some (CodeO c' q) ∧ tl Ech HZ Q) := by rw [hZ]; exact hp
    have hq := pss_one (ps_ret (pos := p5) (pe_tup (x1 := k2) (pos := p4) (pa_cons (pe_str (x := ("" : Str)) (j := k1) (pos := p1)) (pa_cons hp' pa_nil))))
    refine hq.run pins s' σ H' D I ?_
    dsimp only [tRet, tTup, tCons, tNil, tC]
    exact ⟨h1, h2, h3⟩
  · refine ⟨gotX X.K c1 c2 c3 rs s0 f0 Q, fun cls d σ' H' ⟨C, dd, fs, sc, e1, e2, T, e3, e4, e5⟩ => ⟨by rw [e1, hK]; exact T.exm, fun a' _ hset => ⟨C, dd, fs, sc, e1, e2, T, hset, e3, e4, e5⟩⟩, h0 f, hc, h⟩
end
end NT
set_option linter.all false
set_option maxRecDepth 100000
set_option autoImplicit false
set_option maxHeartbeats 2000000
namespace NT
open PySem PySem.Spec PyProof.Rows L2 LamX
/-! ### _law_got(lambda: e) -/
/-- H grown by things that the abstract side does not know -/
theorem Ext.grow {W : Wd} {c : Cf} (s : Sim W c) {H' : Hp} (g : Gr c.H H') : Ext c { c with H := H' } :=
  ⟨⟨fun _ _ h => h, fun p o h _ _ => g p o h, fun _ _ _ _ h => h⟩, rfl, fun p hp => by
    obtain ⟨o, e⟩ := Option.ne_none_iff_exists'.mp (s.bz p hp).1
    show H' p = c.H p
    rw [e]; exact g _ _ e⟩
theorem Sim.grow {W : Wd} {c : Cf} (s : Sim W c) {H' : Hp} (g : Gr c.H H') : Sim W { c with H := H' } where
  len := s.len
  inj := s.inj
  obj := fun n o p h1 h2 => by
    by_cases hd : o = .dead
    · subst hd; trivial
    · obtain ⟨u, e⟩ := Option.ne_none_iff_exists'.mp (s.htracked (p := p) ⟨n, o, h2, h1, hd⟩)
      exact (s.obj n o p h1 h2).ext (Ext.grow s g).toEx0 (by show H' p = c.H p; rw [e]; exact g _ _ e)
  bz := fun p hp => ⟨by
    obtain ⟨o, e⟩ := Option.ne_none_iff_exists'.mp (s.bz p hp).1
    show H' p ≠ none
    rw [g _ _ e]; simp, (s.bz p hp).2⟩
  tb := s.tb.ext g
  tl := fun p hp o ho => by
    obtain ⟨u, e⟩ := Option.ne_none_iff_exists'.mp (s.tracked hp)
    have ho : H' p = some o := ho
    rw [g _ _ e] at ho
    cases ho
    exact s.tl p hp _ e
/-- tables of code objects are written -/
theorem live_same {W : Wd} {c : Cf} (s : Sim W c) {H' : Hp} (g : ExtN c.H H') {p : Addr} (l : Live c p) : H' p = c.H p := by
  obtain ⟨o, e⟩ := Option.ne_none_iff_exists'.mp (s.tracked l)
  rw [e]; exact g _ _ e (s.tl p l o e).1
theorem Ext.tabs {W : Wd} {c : Cf} (s : Sim W c) {H' : Hp} (g : ExtN c.H H') : Ext c { c with H := H' } :=
  ⟨⟨fun _ _ h => h, fun p o h _ n => g p o h n, fun _ _ _ _ h => h⟩, rfl, fun p hp => live_same s g (.inl hp)⟩
theorem Sim.tabs {W : Wd} {c : Cf} (s : Sim W c) {H' : Hp} (g : ExtN c.H H') (t : Tabs W.tabs H') : Sim W { c with H := H' } where
  len := s.len
  inj := s.inj
  obj := fun n o p h1 h2 => by
    by_cases hd : o = .dead
    · subst hd; trivial
    · exact (s.obj n o p h1 h2).ext (Ext.tabs s g).toEx0 (live_same s g (.inr ⟨n, o, h2, h1, hd⟩))
  bz := fun p hp => ⟨by
    show H' p ≠ none
    rw [live_same s g (.inl hp)]; exact (s.bz p hp).1, (s.bz p hp).2⟩
  tb := t
  tl := fun p hp o ho => by
    have ho : H' p = some o := ho
    rw [live_same s g (p := p) hp] at ho
    exact s.tl p hp o ho
/-- what the written part says of `_law_got` and `_law_field` -/
structure GotD where
  (Ng Nf : List Str) (a n fl ef x1 x2 x3 : Str) (sg sf : Scope) (g ff : Addr) (c1 c2 c3 : Value) (i : Nat) (bf : List Stmt) (pf pg : Arguments) (dVf kVf docf pmf cdvf ctf ocf dVg kVg docg pmg cdvg ctg ocg : Value) (anf odf ang odg : Option Addr) (oslf oslg : Array (Option Value))
  (p1 p2 p3 p4 p5 p6 p7 p8 p9 r1 r2 r3 r4 r5 r6 r7 r8 : Pos) (k1 k2 k3 k4 : Nat) (pos0 : Pos)
def GotD.bg (D : GotD) : List Stmt := [.Try [.Return (some (.Tuple [.Constant (.str "") D.k1 D.p1, .Call (.Name D.a D.p2) [] [] D.p3] D.k2 D.p4)) D.p5] [.ExceptHandler (some (.Tuple [.Name D.x1 D.p6, .Name D.x2 D.p7, .Name D.x3 D.p8] D.k3 D.p9)) (some D.n) [.Return (some (.Tuple [.Attribute (.Name D.n D.r1) "code" D.r2, .Call (.Name D.fl D.r3) [.Name D.n D.r4] [] D.r5] D.k4 D.r6)) D.r7] D.r8] [] [] D.pos0]
def GotD.fg (D : GotD) (x : Str) : FuncData := PySem.W.fnOf x x D.pg D.bg D.sg D.dVg D.kVg D.docg D.pmg D.ang D.cdvg D.ctg
def GotD.ff_ (D : GotD) : FuncData := PySem.W.fnOf D.fl D.fl D.pf D.bf D.sf D.dVf D.kVf D.docf D.pmf D.anf D.cdvf D.ctf
/-- by the texts alone -/
structure GotS (x : Str) (D : GotD) : Prop where
  a1 : D.Ng.Nodup
  a2 : ∀ f : Addr, (L2.start D.Ng [V.ref f])[0]? = some (some (V.ref f))
  a3 : D.Ng[D.i]? = some D.n
  a4 : D.sg.names.lookup D.n = some .local
  a5 : (D.n == ("__debug__" : Str)) = false
  a6 : (D.n == ("__classdict__" : Str)) = false
  b1 : D.sg.names.lookup D.x1 = some .globalImplicit
  b3 : (D.x1 == ("__debug__" : Str)) = false
  b4 : D.sg.names.lookup D.x2 = some .globalImplicit
  b6 : (D.x2 == ("__debug__" : Str)) = false
  b7 : D.sg.names.lookup D.x3 = some .globalImplicit
  b9 : (D.x3 == ("__debug__" : Str)) = false
  d1 : D.sg.names.lookup D.fl = some .globalImplicit
  d3 : (D.fl == ("__debug__" : Str)) = false
  e3 : FnScope D.Nf [D.ef] D.sf
  e4 : D.Nf[0]? = some D.ef
  e5 : Vis D.sf D.ef
  e6 : (D.ef == ("__debug__" : Str)) = false
  e7 : (D.ef == ("__classdict__" : Str)) = false
  e8 : ∀ K, Binds K D.ff_ [D.ef] []
  e9 : ∀ v : V, (L2.start D.Nf [v])[0]? = some (some v)
  e10 : FB D.ef D.bf fldR "InvalidText" "line"
  f5 : ∀ K, Binds K (D.fg x) [D.a] []
  f6 : FnScope D.Ng [D.a] D.sg
  f7 : D.Ng[0]? = some D.a
  f8 : Vis D.sg D.a
  f9 : (x == ("__debug__" : Str)) = false
  f10 : (D.a == ("__debug__" : Str)) = false
  f11 : (D.a == ("__classdict__" : Str)) = false
structure GotP (W : Wd) (cat : List Nat) (x : Str) (D : GotD) : Prop where
  nm : ∀ k, k < 10 → W.nm k = exN.getD k ""
  st : GotS x D
  b2 : W.mg D.x1 = some D.c1
  b5 : W.mg D.x2 = some D.c2
  b8 : W.mg D.x3 = some D.c3
  d2 : W.mg D.fl = some (.ref D.ff)
  d4 : PySem.W.keepIn W.K (.ref D.ff) = true
  e1 : W.K.lookup D.ff = some ⟨D.ocf, D.odf, .func D.ff_, D.oslf⟩
  e2 : PySem.W.codeIn W.K D.cdvf D.fl = true
  f1 : W.mg x = some (.ref D.g)
  f2 : PySem.W.keepIn W.K (.ref D.g) = true
  f3 : W.K.lookup D.g = some ⟨D.ocg, D.odg, .func (D.fg x), D.oslg⟩
  f4 : PySem.W.codeIn W.K D.cdvg x = true
  told : ∀ k ∈ cat, Told W.K D.c1 D.c2 D.c3 fldR "line" (W.clsA k)
def GotOk (W : Wd) (cat : List Nat) (x : Str) : Prop := ∃ D, GotP W cat x D
/-- a def in which lambdas are made -/
def LamAt (W : Wd) (X : Cx) : Prop := ∃ cc P : Addr, X.env.code = .ref cc ∧ TabB X.base X.mg cc P ∧ (P, X.env.qual ++ "<lambda>") ∈ W.tabs ∧ ∀ p ∈ W.tabs, p.1 = P → p.2 = X.env.qual ++ "<lambda>"
theorem names_eq {W : Wd} (nm : ∀ k, k < 10 → W.nm k = exN.getD k "") : ∀ {ks : List Nat}, ks.all (· < 10) = true → ks.map W.nm = ks.map fun k => exN.getD k ""
  | [], _ => rfl
  | k :: ks, h => by
    simp only [List.all_cons, Bool.and_eq_true, decide_eq_true_eq] at h
    rw [List.map_cons, List.map_cons, nm k h.1, names_eq nm h.2]
theorem look_rep {W : Wd} {c : Cf} {f : Str} {v : AV} : ∀ {fs : List (Str × V)} {ns : List Str} {xs : List AV}, fs.map (·.1) = ns → Reps W c (fs.map (·.2)) xs → (ns.zip xs).lookup f = some v → ∃ w, fs.lookup f = some w ∧ Rep W c w v
  | [], _, _, e, r, h => by subst e; cases r; simp at h
  | (g, w) :: fs, _, _, e, r, h => by
    subst e
    cases r with
    | cons r1 r2 =>
      rename_i a as
      simp only [List.map_cons, List.zip_cons_cons, List.lookup] at h ⊢
      split at h
      · cases h; exact ⟨w, rfl, r1⟩
      · exact look_rep rfl r2 h
section
variable {W : Wd} {Wx : WX} {c : Cf} {S : L2.St} {Q : VK}
/-- what `_law_got` makes of an outcome -/
theorem got_end {cat : List Nat} {x : Str} {D : GotD} (G : GotP W cat x D) (sim : Sim W c) {o : Out AV} (e : End W Wx S c (Rep W) Q (match o with
    | .ok v h' => .ok (.tup [.str "", v]) h'
    | .exc c ks vs h' => M.of (gotV cat c ks vs) h'
    | .bad => .bad)) : End W (fun cls d _ H => gotX W.K D.c1 D.c2 D.c3 fldR "InvalidText" "line" Q cls d H) S c (Rep W) (fun v H1 => [V.str "", v].length ≤ sizeLine ∧ ∀ p, H1 p = none → Q (.ref p) (upd H1 p (.tup [.str "", v]))) o := by
  cases o with
  | bad => exact e
  | ok v h' =>
    intro ρ' H' b s2 x2 rb
    refine ⟨by rw [sizeLine_eq]; simp, fun pp hp => ?_⟩
    exact e ρ' _ (.ref pp) (s2.new hp) (x2.trans (Ext.new s2 hp)) (Rep.newTup s2 hp (.cons (.str "") (.cons rb .nil)))
  | exc k ks vs h' =>
    replace e : End W Wx S c (Rep W) Q (M.of (gotV cat k ks vs) h') := e
    intro ρ' H' d fs s2 x2 nl hd hfs rfs
    cases qg : gotV cat k ks vs with
    | none => rw [qg] at e; exact e.elim
    | some r =>
      rw [qg] at e
      unfold gotV at qg
      split at qg
      · rename_i hcat
        simp only [Bool.and_eq_true] at hcat
        obtain ⟨hcat, hks⟩ := hcat
        have hN := names_eq G.nm hks
        rw [hN] at hfs
        have at_ : ∀ {f : Str} {v : AV}, exAt ks vs f = some v → ∃ w, fs.lookup f = some w ∧ Rep W ⟨ρ', h', H', c.x⟩ w v := fun hv => look_rep hfs rfs hv
        split at qg
        · rename_i sc hcode
          obtain ⟨w, hw, rw_⟩ := at_ hcode
          cases rw_
          refine ⟨W.clsA k, d, fs, sc, rfl, rfl, G.told k (by simpa using hcat), hd, hw, fun H2 g2 => ?_⟩
          have s3 : Sim W ⟨ρ', h', H2, c.x⟩ := s2.grow g2
          have x3 : Ext ⟨ρ', h', H', c.x⟩ ⟨ρ', h', H2, c.x⟩ := Ext.grow s2 g2
          have fin : ∀ (v' : V) (v : AV), r = .tup [.str sc, v] → ∀ (ρ4 : List Addr) (H4 : Hp), Sim W ⟨ρ4, h', H4, c.x⟩ → Ext ⟨ρ', h', H', c.x⟩ ⟨ρ4, h', H4, c.x⟩ → Rep W ⟨ρ4, h', H4, c.x⟩ v' v → ∀ pp, H4 pp = none → Q (.ref pp) (upd H4 pp (.tup [.str sc, v'])) := fun v' v hr ρ4 H4 s4 x4 r4 pp hp => by
            subst hr
            exact e ρ4 _ (.ref pp) (s4.new hp) (x2.trans (x4.trans (Ext.new s4 hp))) (Rep.newTup s4 hp (.cons (.str sc) (.cons r4 .nil)))
          split at qg
          · rename_i hfg
            rw [hfg]
            cases qg
            exact fin .non .non rfl ρ' H2 s3 x3 .non
          · rename_i f hfg
            rw [hfg]
            cases qv : exAt ks vs f with
            | none => rw [qv] at qg; cases qg
            | some v =>
              rw [qv] at qg
              cases qg
              obtain ⟨w, h1, h2⟩ := at_ qv
              exact ⟨w, h1, fin w v rfl ρ' H2 s3 x3 (h2.to x3)⟩
          · rename_i f f' hfg
            rw [hfg]
            split at qg
            · rename_i v v' qv qv'
              cases qg
              obtain ⟨w, h1, h2⟩ := at_ qv
              obtain ⟨w', h1', h2'⟩ := at_ qv'
              refine ⟨w, w', h1, h1', fun pp hp => ?_⟩
              exact fin (.ref pp) (.tup [v, v']) rfl ρ' _ (s3.new hp) (x3.trans (Ext.new s3 hp)) (Rep.newTup s3 hp (.cons (h2.to x3) (.cons (h2'.to x3) .nil)))
            · cases qg
          · cases qg
        · cases qg
      · cases qg
end
section
variable {W : Wd} {Wx : WX} {X : Cx} {C : Orc} {n : Nat}
theorem snd_got {cat : List Nat} {x : Str} {p lpos pos : Pos} {params : Arguments} {body : Expr} {ib : E} {scope : Scope} (K : CtxOk W Wx (n + 2) X) (h1n : 1 ≤ n) (G : GotOk W cat x) (LA : LamAt W X) (hg : Gl X x) (L : LamS X.env.scope scope) (hdef : defaultsOf params X.env = ([], []))
    (hbind : ∀ (q : Str) (cl : List (Str × Addr)) (pm cv ctv : Value), bindArgs (PySem.W.kla_fn "<lambda>" q params body scope cl pm cv ctv) ⟨[], []⟩ = pure [])
    (hb : ∀ (A : Around) (outer : List Env) (s : Shared) (H : Hp) (E : XK) (f c' : Addr), CtxOk W (fun cls d _ H => E cls d H) n (lamCx X A outer s H E scope f c') → SndE W (fun cls d _ H => E cls d H) (lamCx X A outer s H E scope f c') C body ib) :
    SndE W Wx X C (.Call (.Name x p) [.Lambda params body scope lpos] [] pos) (.got cat ib) := fun c S σ Q sim l e => by
  obtain ⟨D, G⟩ := G
  obtain ⟨cc, P, t1, t2, t3, t4⟩ := LA
  have GT : GivesTo X D.Ng x D.sg D.g D.cdvg D.bg D.a (X.env.qual ++ "<lambda>") (TTgot X.K D.c1 D.c2 D.c3 fldR "InvalidText" "line") := got_gives (k := 0) (K.room.mono (show 0 + 3 ≤ n + 2 by omega)) G.st.a1 G.st.a2 G.st.a3 G.st.a4 G.st.a5 G.st.a6 G.st.b1 (by rw [K.hg]; exact G.b2) G.st.b3 G.st.b4 (by rw [K.hg]; exact G.b5) G.st.b6 G.st.b7 (by rw [K.hg]; exact G.b8) G.st.b9
    G.st.d1 (by rw [K.hg]; exact G.d2) G.st.d3 (by rw [K.hK]; exact G.d4) (by rw [K.hK]; exact G.e1) (by rw [K.hK]; exact G.e2) G.st.e3 G.st.e4 G.st.e5 G.st.e6 G.st.e7 (G.st.e8 X.K) G.st.e9 G.st.e10
  refine wE_of (pe_lamcall (T := W.tabs) (k := n) (t := fun E σ H Q => ∀ (A : Around) (outer : List Env) (s : Shared) (H0 : Hp) (f c' : Addr), Room n (A.deeper (lamEnv X scope s.heap.objs.size f c')) → wE (lamCx X A outer s H0 E scope f c') body σ H Q) hg (by rw [K.hg]; exact G.f1) (by rw [K.hK]; exact G.f2) (by rw [K.hK]; exact G.f3) (by rw [K.hK]; exact G.f4) (G.st.f5 X.K) G.st.f6 G.st.f7 G.st.f8 GT
    t2 t1 t3 t4 K.room L hdef hbind (fun A outer s H E f c' hr => ⟨fun pins s' σ' H' Q' I q => q A outer s H f c' hr pins s' I⟩) G.st.f9 G.st.f10 G.st.f11) ⟨sim.tb, fun H1 eN T1 => ?_⟩
  have s1 := sim.tabs eN T1
  have x1 := Ext.tabs sim eN
  rw [K.hK]
  refine fun A outer s H0 f c' hr => hb A outer s H0 _ f c' ⟨K.hP, K.hw, K.hK, K.hg, K.hb, rfl, hr, takes_of rfl rfl rfl rfl, K.nd⟩ { c with H := H1 } S σ _ s1 (l.to x1) ?_
  exact got_end G s1 (End.after x1 (show End W Wx S c (Rep W) Q (match ev C σ ib c.h with
    | .ok v h' => .ok (.tup [.str "", v]) h'
    | .exc c ks vs h' => M.of (gotV cat c ks vs) h'
    | .bad => .bad) from e))
end
end NT
set_option linter.all false
set_option maxRecDepth 100000
set_option autoImplicit false
set_option maxHeartbeats 2000000
namespace NT
open PySem PySem.Spec PyProof.Rows L2 LamX
/-! ### lambdas that are kept: no parameter, or one with the default 0 -/
/-- the defaults as they stand -/
def DfV (H : Hp) (dV : Value) : Option Str → Prop
  | none => dV = .none
  | some _ => ∃ T, dV = .ref T ∧ H T = some (.tup [.int 0])
def DfN (H H1 : Hp) (dV : Value) : Option Str → Prop
  | none => dV = .none
  | some _ => ∃ T, dV = .ref T ∧ H T = none ∧ H1 T = some (.tup [.int 0])
section
variable {X : Cx} {pins : List (Addr × Obj)} {σ : L2.St} {H : Hp} {s : Shared}
theorem lm_tail {T : List (Addr × Str)} {c P : Addr} {params : Arguments} {body : Expr} {scope : Scope} {pos : Pos} {fl : Nat} {dV : Value} {E : Value → Shared → Prop} {Q : Value → Shared → Prop} (I : Inv X pins σ H s) (TB : TabB X.base X.mg c P) (hcode : X.env.code = .ref c)
    (hm : (P, X.env.qual ++ "<lambda>") ∈ T) (hu : ∀ p ∈ T, p.1 = P → p.2 = X.env.qual ++ "<lambda>") (hT : Tabs T H) (hfree : ∀ y ∈ scope.names, y.2 = .free → ∃ c, X.env.cells.lookup y.1 = some c)
    (h : ∀ (f c' : Addr) (H1 : Hp) (s' : Shared), Inv X pins σ H1 s' → ExtN H H1 → Tabs T H1 → H1 f = some (LmO f (X.env.qual ++ "<lambda>") params body scope (cloFrom X.env.cells scope.names []) dV c') → H1 c' = some (CodeO c' (X.env.qual ++ "<lambda>")) → Q (.ref f) s') :
    wpAny (model X.prog X.w) X.A (makeTail "<lambda>" (X.env.qual ++ "<lambda>") params (.expr body) scope X.env dV .none none pos fl) Q E s := by
  unfold makeTail
  rw [closure_ok hfree, I.ok.glob]
  refine wpAny_bind (wpAny_pure ?_)
  have rest : ∀ (ctv : Value) (s2 : Shared), Inv X pins σ H s2 → wpAny (model X.prog X.w) X.A (functionCode X.env pos fl "<lambda>" (X.env.qual ++ "<lambda>") params scope (.expr body) >>= fun cd => builtinsFor mainGlobals X.env.builtins >>= fun bl => nsGet mainGlobals "__name__" >>= fun nm => pure Value.none >>= fun dc => newObj (.type "function") (.func { name := "<lambda>", qualname := X.env.qual ++ "<lambda>", params, body := .expr body, scope, globals := mainGlobals, closure := cloFrom X.env.cells scope.names [], closureTuple := ctv, code := cd, builtins := bl, defaults := dV, kwdefaults := .none, annotations := none, pyModule := nm.getD .none, doc := dc })) Q E s2 := ?rest
  · show wpAny _ _ (if (cloFrom X.env.cells scope.names []).isEmpty = true then _ else _) Q E s
    split
    · exact wpAny_bind (wpAny_pure (rest _ _ I))
    · exact wpAny_bind (wpAny_newTextTuple (rest _ _ (I.kept (t' := s.toks) fun b o e => Heap.get?_push_of_some _ e)))
  intro ctv s2 I2
  obtain ⟨ps, hP, ht, ha⟩ := hT _ hm
  have bP : s2.heap.BuiltinsAt X.mg P := TB.bm.keeps I2.bk
  have hP' : s2.heap.get? P = some { cls := .none, data := .fields ps } := I2.hok P _ hP
  have hg0 : s2.heap.Ns mainGlobals X.mg := I2.mod.glob.keeps I2.bk
  have tc := TB.code.keeps I2.bk
  -- behind the code object
  have fin : ∀ (c' : Addr) (H1 : Hp) (s3 : Shared), Inv X pins σ H1 s3 → ExtN H H1 → Tabs T H1 → H1 c' = some (CodeO c' (X.env.qual ++ "<lambda>")) → (∀ b o, b ≠ P → s2.heap.get? b = some o → s3.heap.get? b = some o) →
      wpAny (model X.prog X.w) X.A (builtinsFor mainGlobals X.env.builtins >>= fun bl => nsGet mainGlobals "__name__" >>= fun nm => pure Value.none >>= fun dc => newObj (.type "function") (.func { name := "<lambda>", qualname := X.env.qual ++ "<lambda>", params, body := .expr body, scope, globals := mainGlobals, closure := cloFrom X.env.cells scope.names [], closureTuple := ctv, code := .ref c', builtins := bl, defaults := dV, kwdefaults := .none, annotations := none, pyModule := nm.getD .none, doc := dc })) Q E s3 := by
    intro c' H1 s3 I3 eN T1 hc' k
    obtain ⟨bm, ob, hbm, hne0, _, hneP, hbo, hcls, hdict, hdata⟩ := bP
    have hg3 : s3.heap.Ns mainGlobals X.mg := I3.mod.glob.keeps I3.bk
    refine wpAny_bind (wpAny_builtinsFor hg3 hbm hne0 (k _ _ hneP hbo) hcls hdict hdata (wpAny_bind (wpAny_nsGet hg3 (wpAny_bind (wpAny_pure ?_)))))
    refine wpAny_newObj_type ?_ (by size_fits)
    have nf : H1 s3.heap.objs.size = none := I3.hok.fresh (Nat.le_refl _)
    have nc : c' ≠ s3.heap.objs.size := ne_of_none hc' nf
    refine h s3.heap.objs.size c' (upd H1 s3.heap.objs.size (LmO s3.heap.objs.size (X.env.qual ++ "<lambda>") params body scope (cloFrom X.env.cells scope.names []) dV c')) _ (I3.laid (fun b o e => Heap.get?_push_of_some _ e) (Nat.le_refl _) ?_) (fun b o e n => ?_) (T1.ext fun b o e => ?_) upd_same ?_
    · refine ⟨⟨_, _, Heap.get?_push_size _ rfl⟩, ⟨_, Heap.get?_push_size _ rfl⟩, fun h1 h2 ⟨pm, cv, e⟩ st => ⟨pm, cv, st _ e⟩⟩
    · rw [upd_ne (ne_of_none (eN b o e n) nf)]; exact eN b o e n
    · rw [upd_ne (ne_of_none e nf)]; exact e
    · rw [upd_ne nc]; exact hc'
  cases hc : codeAmong pos ps.toList with
  | none =>
    refine wpAny_bind (wpAny_functionCodeX hcode (tc.code hP' ht) (tc.tab hP') hc fun c' h' tk hx hge hlt _ hrec htb _ => ?_)
    obtain ⟨c2, oc, vs, t, e2, hoc, hd, hv⟩ := hrec
    cases e2
    have nC : H c' = none := I2.hok.fresh hge
    have I3 := inv_table (t' := tk) (q := X.env.qual ++ "<lambda>") (more := #[rawInt pos.line, rawInt pos.col, .ref c']) I2 hP (fun b o hb e => hx b o hb e) htb.2 hge ⟨oc, vs, t, hoc, hd, hv⟩
    have hE : ExtN H (upd (upd H P (.tbl (ps ++ #[rawInt pos.line, rawInt pos.col, .ref c']))) c' (CodeO c' (X.env.qual ++ "<lambda>"))) := fun b o e n => by
      have h1 : b ≠ P := fun z => n ps (Option.some.inj (e.symm.trans (by rw [z]; exact hP)))
      rw [upd_ne (ne_of_none e nC), upd_ne h1]; exact e
    refine fin c' _ _ I3 hE (fun p hp => ?_) upd_same hx
    by_cases hb : p.1 = P
    · rw [hu p hp hb, hb]
      refine ⟨_, (by rw [upd_ne (ne_of_none hP nC), upd_same]), ?_, fun p' cv hcv => ?_⟩
      · simpa using PySem.TriplesOk_snoc _ _ _ _ ht
      · have hcv : codeAmong p' (ps.toList ++ [rawInt pos.line, rawInt pos.col, .ref c']) = some cv := by simpa using hcv
        rcases among_app _ ht hcv with z | z
        · obtain ⟨c0, e1, e2⟩ := ha p' cv z
          exact ⟨c0, e1, hE _ _ e2 codeO_ne⟩
        · exact ⟨c', z, upd_same⟩
    · obtain ⟨ps', a1, a2, a3⟩ := hT p hp
      refine ⟨ps', (by rw [upd_ne (ne_of_none a1 nC), upd_ne hb]; exact a1), a2, fun p' cv hcv => ?_⟩
      obtain ⟨c0, e1, e2⟩ := a3 p' cv hcv
      exact ⟨c0, e1, hE _ _ e2 codeO_ne⟩
  | some cv =>
    obtain ⟨c', e, hco⟩ := ha pos cv hc
    subst e
    exact wpAny_bind (wpAny_functionCode_hit hcode (tc.code hP' ht) hc (fin c' H s2 I2 (ExtN.refl H) hT hco fun b o _ e => e))
/-- a lambda is made -/
theorem lm_make {T : List (Addr × Str)} {c P : Addr} {params : Arguments} {ox : Option Str} {body : Expr} {scope : Scope} {pos : Pos} {E : Value → Shared → Prop} {Q : Value → Shared → Prop} (I : Inv X pins σ H s) (TB : TabB X.base X.mg c P) (hcode : X.env.code = .ref c)
    (hm : (P, X.env.qual ++ "<lambda>") ∈ T) (hu : ∀ p ∈ T, p.1 = P → p.2 = X.env.qual ++ "<lambda>") (hT : Tabs T H) (hp : LamPs params ox) (hfree : ∀ y ∈ scope.names, y.2 = .free → ∃ c, X.env.cells.lookup y.1 = some c)
    (h : ∀ (f c' : Addr) (dV : Value) (H1 : Hp) (s' : Shared), Inv X pins σ H1 s' → ExtN H H1 → Tabs T H1 → DfN H H1 dV ox → H1 f = some (LmO f (X.env.qual ++ "<lambda>") params body scope (cloFrom X.env.cells scope.names []) dV c') → H1 c' = some (CodeO c' (X.env.qual ++ "<lambda>")) → Q (.ref f) s') :
    wpAny (model X.prog X.w) X.A (eval (.Lambda params body scope pos) X.env) Q E s := by
  rw [arm_eval_Lambda]
  cases hp with
  | no =>
    refine wpAny_bind (wpAny_pure (wpAny_bind (wpAny_holding (wpAny_pure ?_))))
    rw [makeFunction_eq]
    refine wpAny_bind (wpAny_pure (wpAny_bind (wpAny_pure (wpAny_bind (wpAny_pure ?_)))))
    exact lm_tail I TB hcode hm hu hT hfree fun f c' H1 s' I1 e t a b => h f c' _ H1 s' I1 e t rfl a b
  | one x p p' j =>
    refine wpAny_bind (m := evalAll [eval (.Constant (.int 0) j p') X.env]) ?_
    refine wpAny_bind (thn ((pe_int (X := X) (i := 0) (j := j) (pos := p')).run pins s σ H (fun v H1 => v = .int 0 ∧ H1 = H) I ⟨rfl, rfl⟩) fun u s1 ⟨v, H1, I1, r1, q1⟩ => ?_)
    obtain ⟨ev, eH⟩ := q1
    subst ev
    rw [eH] at I1
    refine wpAny_bind (wpAny_holding (wpAny_pure (wpAny_pure (wpAny_bind (wpAny_holding (wpAny_pure ?_))))))
    rw [makeFunction_eq]
    refine wpAny_bind (wpAny_newTextTuple (wpAny_bind (wpAny_pure (wpAny_bind (wpAny_pure ?_)))))
    have nf : H s1.heap.objs.size = none := I1.hok.fresh (Nat.le_refl _)
    have I2 : Inv X pins σ (upd H s1.heap.objs.size (.tup [.int 0])) { s1 with heap := s1.heap.push { cls := .type "tuple", data := .seq [u].toArray }, toks := s1.toks } :=
      I1.laid (fun b o e => Heap.get?_push_of_some _ e) (Nat.le_refl _) ⟨by rw [sizeLine_eq]; simp, [u], .cons r1 .nil, _, Heap.get?_push_size _ rfl, rfl, _, rfl⟩
    have e2 : ExtN H (upd H s1.heap.objs.size (.tup [.int 0])) := fun b o e _ => by rw [upd_ne (ne_of_none e nf)]; exact e
    refine lm_tail I2 TB hcode hm hu (hT.ext fun b o e => by rw [upd_ne (ne_of_none e nf)]; exact e) hfree fun f c' H1 s' I1 e t a b => h f c' _ H1 s' I1 (e2.trans e) t ⟨_, rfl, nf, e _ _ upd_same fun _ z => by cases z⟩ a b
end
end NT
set_option linter.all false
set_option maxRecDepth 100000
set_option autoImplicit false
set_option maxHeartbeats 2000000
namespace NT
open PySem PySem.Spec PyProof.Rows L2 LamX
/-! ### cells that stand still while lambdas are called -/
def cellU : HO := .ext fun _ => True
/-- the addresses in cs are known to the object -/
def frzH (H : Hp) (h : Heap) (cs : List Addr) : Hp := fun b => if b ∈ cs then (h.get? b).map fun o => .frz o cellU else H b
def thaw (H : Hp) (cs : List Addr) : Hp := fun b => if b ∈ cs then none else H b
def refrz (H0 H : Hp) (cs : List Addr) : Hp := fun b => if b ∈ cs then H0 b else H b
/-- the addresses in cs stand still -/
def Cold (H : Hp) (cs : List Addr) : Prop := ∀ c ∈ cs, ∃ o, H c = some (.frz o cellU)
section
variable {P : Program} {w : World} {H H0 H1 H2 H' : Hp} {h h' B : Heap} {cs fs : List Addr} {a b : Addr} {o : HO}
theorem frzH_in (hb : b ∈ cs) {ob : Obj} (e : h.get? b = some ob) : frzH H h cs b = some (.frz ob cellU) := by unfold frzH; rw [if_pos hb, e]; rfl
theorem frzH_out (hb : b ∉ cs) : frzH H h cs b = H b := by unfold frzH; rw [if_neg hb]
theorem thaw_in (hb : b ∈ cs) : thaw H cs b = none := by unfold thaw; rw [if_pos hb]
theorem thaw_out (hb : b ∉ cs) : thaw H cs b = H b := by unfold thaw; rw [if_neg hb]
theorem refrz_in (hb : b ∈ cs) : refrz H0 H cs b = H0 b := by unfold refrz; rw [if_pos hb]
theorem refrz_out (hb : b ∉ cs) : refrz H0 H cs b = H b := by unfold refrz; rw [if_neg hb]
theorem cellU_ok (a : Addr) {ob : Obj} (e : h.get? a = some ob) : ObjOk P w H h a (.frz ob cellU) := ⟨e, trivial, ⟨_, e⟩, fun _ _ _ _ => trivial⟩
/-- a thing that is not cold, over other things that are not -/
theorem ObjOk.over (x : ObjOk P w H h a o) (k : ∀ b u, H b = some u → (∀ ob, u ≠ .frz ob cellU) → H' b = some u) : ObjOk P w H' h a o :=
  x.stay (fun d v _ q => q) (fun d q => k d _ q fun ob z => by cases z) fun d xs q => k d _ q fun ob z => by cases z
theorem Cold.not (c : Cold H cs) {u : HO} (e : H b = some u) (n : ∀ ob, u ≠ .frz ob cellU) : b ∉ cs := fun hb => by
  obtain ⟨ob, z⟩ := c b hb
  rw [e] at z
  cases z
  exact n ob rfl
theorem HOk.froze (x : HOk P w H h) (hc : ∀ c ∈ cs, H c = none ∧ ∃ ob, h.get? c = some ob) : HOk P w (frzH H h cs) h := fun a o e => by
  by_cases ha : a ∈ cs
  · obtain ⟨ob, hob⟩ := (hc a ha).2
    rw [frzH_in ha hob] at e
    cases e
    exact cellU_ok a hob
  · rw [frzH_out ha] at e
    refine ObjOk.over (x a o e) fun b u q _ => ?_
    rw [frzH_out fun hb => by rw [(hc b hb).1] at q; cases q]; exact q
theorem HOk.thaw (x : HOk P w H h) (c : Cold H cs) : HOk P w (thaw H cs) h := fun a o e => by
  have ha : a ∉ cs := fun ha => by rw [thaw_in ha] at e; cases e
  rw [thaw_out ha] at e
  exact ObjOk.over (x a o e) fun b u q n => by rw [thaw_out (c.not q n)]; exact q
theorem HOk.refrz (x : HOk P w H h) (c : ∀ b ∈ cs, ∃ ob, H0 b = some (.frz ob cellU) ∧ h.get? b = some ob) (hn : ∀ b ∈ cs, H b = none) : HOk P w (refrz H0 H cs) h := fun a o e => by
  by_cases ha : a ∈ cs
  · obtain ⟨ob, h1, h2⟩ := c a ha
    rw [refrz_in ha, h1] at e
    cases e
    exact cellU_ok a h2
  · rw [refrz_out ha] at e
    exact ObjOk.over (x a o e) fun b u q n => by rw [refrz_out fun hb => by rw [hn b hb] at q; cases q]; exact q
/-- what stood still is as it was -/
theorem Un.froze (u : Un fs [] (frzH H h cs) H2 h h') (x : HOk P w H2 h') (hc : ∀ c ∈ cs, H c = none ∧ ∃ ob, h.get? c = some ob) (hf : ∀ c ∈ cs, c ∉ fs) : Un fs [] H (thaw H2 cs) h h' := by
  have at_ : ∀ c ∈ cs, ∀ ob, h.get? c = some ob → h'.get? c = some ob := fun c hcs ob e => (x c _ (u.frzs c ob cellU (frzH_in hcs e))).1
  have out : ∀ b q, H b = some q → b ∉ cs := fun b q e hb => by rw [(hc b hb).1] at e; cases e
  refine ⟨fun b ob e n hb hx => ?_, fun b ob e n hb hx => ?_, fun b ob e n hx => ?_, u.there, fun b xs e => ?_, fun b ob v e => ?_, fun b ps e => ?_⟩
  · by_cases hcs : b ∈ cs
    · exact at_ b hcs ob e
    · exact u.keep b ob e (by rw [frzH_out hcs]; exact n) hb hx
  · exact u.slot b ob e (by rw [frzH_out fun hcs => hf b hcs hb]; exact n) hb hx
  · by_cases hcs : b ∈ cs
    · exact thaw_in hcs
    · rw [thaw_out hcs]; exact u.free b ob e (by rw [frzH_out hcs]; exact n) hx
  · rw [thaw_out (out b _ e)]; exact u.tups b xs (by rw [frzH_out (out b _ e)]; exact e)
  · rw [thaw_out (out b _ e)]; exact u.frzs b ob v (by rw [frzH_out (out b _ e)]; exact e)
  · rw [thaw_out (out b _ e)]; exact u.tbls b ps (by rw [frzH_out (out b _ e)]; exact e)
theorem Un.rf (u : Un fs [] (thaw H0 cs) H' h h') (c : Cold H0 cs) : Un fs [] H0 (refrz H0 H' cs) h h' := by
  have out : ∀ b q, H0 b = some q → (∀ ob, q ≠ .frz ob cellU) → b ∉ cs := fun b q e n => c.not e n
  have non : ∀ b, H0 b = none → b ∉ cs := fun b e hb => by obtain ⟨ob, z⟩ := c b hb; rw [e] at z; cases z
  refine ⟨fun b ob e n hb hx => u.keep b ob e (by rw [thaw_out (non b n)]; exact n) hb hx, fun b ob e n hb hx => u.slot b ob e (by rw [thaw_out (non b n)]; exact n) hb hx, fun b ob e n hx => by rw [refrz_out (non b n)]; exact u.free b ob e (by rw [thaw_out (non b n)]; exact n) hx, u.there, fun b xs e => ?_, fun b ob v e => ?_, fun b ps e => ?_⟩
  · have z := out b _ e fun ob z => by cases z
    rw [refrz_out z]; exact u.tups b xs (by rw [thaw_out z]; exact e)
  · by_cases hcs : b ∈ cs
    · rw [refrz_in hcs]; exact e
    · rw [refrz_out hcs]; exact u.frzs b ob v (by rw [thaw_out hcs]; exact e)
  · have z := out b _ e fun ob z => by cases z
    rw [refrz_out z]; exact u.tbls b ps (by rw [thaw_out z]; exact e)
theorem UB.rf (u : UB fs (thaw H0 cs) H' h B h') (c : Cold H0 cs) : UB fs H0 (refrz H0 H' cs) h B h' := by
  have non : ∀ b, H0 b = none → b ∉ cs := fun b e hb => by obtain ⟨ob, z⟩ := c b hb; rw [e] at z; cases z
  refine ⟨fun b ob e n hb => u.keep b ob e (by rw [thaw_out (non b n)]; exact n) hb, u.slot, fun b ob e n => by rw [refrz_out (non b n)]; exact u.free b ob e (by rw [thaw_out (non b n)]; exact n), u.there, ?_, ?_, ?_⟩
  · intro b xs e
    have z := c.not e fun ob z => by cases z
    rw [refrz_out z]; exact u.tups b xs (by rw [thaw_out z]; exact e)
  · intro b ob v e
    by_cases hcs : b ∈ cs
    · rw [refrz_in hcs]; exact e
    · rw [refrz_out hcs]; exact u.frzs b ob v (by rw [thaw_out hcs]; exact e)
  · intro b ps e
    have z := c.not e fun ob z => by cases z
    rw [refrz_out z]; exact u.tbls b ps (by rw [thaw_out z]; exact e)
end

/-! ### the names of such a lambda -/
structure LamS2 (N : List Str) (sc scope : Scope) (ox : Option Str) : Prop where
  kind : scope.kind = .function
  co : scope.isCoroutine = false
  gen : scope.isGenerator = false
  cell : ∀ y ∈ scope.names, y.2 ≠ .cell
  own : ∀ y ∈ scope.names, y.2 = .local → ox = some y.1
  par : ∀ x, ox = some x → scope.names.lookup x = some .local ∧ x ∉ N
  free : ∀ y ∈ scope.names, y.2 = .free → sc.names.lookup y.1 = some .cell ∨ sc.names.lookup y.1 = some .free
def lamS2B (N : List Str) (sc scope : Scope) (ox : Option Str) : Bool :=
  decide (scope.kind = .function) && !scope.isCoroutine && !scope.isGenerator && (scope.names.all fun y => !decide (y.2 = .cell) && (!decide (y.2 = .local) || decide (ox = some y.1)) && (!decide (y.2 = .free) || decide (sc.names.lookup y.1 = some .cell) || decide (sc.names.lookup y.1 = some .free))) &&
    (match ox with | some x => decide (scope.names.lookup x = some .local) && !N.contains x | none => true)
theorem lamS2_by {N : List Str} {sc scope : Scope} {ox : Option Str} (h : lamS2B N sc scope ox = true) : LamS2 N sc scope ox := by
  unfold lamS2B at h
  simp only [Bool.and_eq_true, Bool.or_eq_true, Bool.not_eq_true', decide_eq_true_eq, decide_eq_false_iff_not, List.all_eq_true] at h
  obtain ⟨⟨⟨⟨h1, h2⟩, h3⟩, h4⟩, h5⟩ := h
  refine ⟨h1, h2, h3, fun y hy => (h4 y hy).1.1, fun y hy e => ?_, fun x hx => ?_, fun y hy e => ?_⟩
  · rcases (h4 y hy).1.2 with z | z
    · exact absurd e z
    · exact z
  · subst hx
    simp only [Bool.and_eq_true, Bool.not_eq_true', decide_eq_true_eq] at h5
    exact ⟨h5.1, by simpa using h5.2⟩
  · rcases (h4 y hy).2 with (z | z) | z
    · exact absurd e z
    · exact .inl z
    · exact .inr z
/-- X's frame stands still, its cells known -/
structure Ready (X : Cx) (σ : L2.St) (H : Hp) : Prop where
  ok : X.Ok
  len : σ.length = X.N.length
  cel : ∀ x c, X.env.cells.lookup x = some c → ∃ o v, H c = some (.frz o cellU) ∧ o.data = .cell v
  val : ∀ (i : Nat) y v, X.N[i]? = some y → σ[i]? = some (some v) → X.env.scope.names.lookup y = some .cell ∨ X.env.scope.names.lookup y = some .free → ∃ c o u, X.env.cells.lookup y = some c ∧ H c = some (.frz o cellU) ∧ o.data = .cell (some u) ∧ RelV v u
def cellsOf (X : Cx) : List Addr := X.env.cells.map (·.2)
theorem lookup_of_mem {l : List (Str × Addr)} {c : Addr} (h : c ∈ l.map (·.2)) (nd : (l.map (·.1)).Nodup) : ∃ x, l.lookup x = some c := by
  induction l with
  | nil => cases h
  | cons p r ih =>
    obtain ⟨x, d⟩ := p
    simp only [List.map_cons, List.mem_cons] at h
    simp only [List.map_cons, List.nodup_cons] at nd
    rcases h with z | z
    · exact ⟨x, by simp [List.lookup, z]⟩
    · obtain ⟨y, hy⟩ := ih z nd.2
      refine ⟨y, ?_⟩
      simp only [List.lookup]
      have : (y == x) = false := by
        rw [beq_eq_false_iff_ne]
        intro e
        subst e
        exact nd.1 (List.mem_map.mpr ⟨(y, c), PySem.mem_of_lookup hy, rfl⟩)
      rw [this]; exact hy
theorem Ready.cold {X : Cx} {σ : L2.St} {H : Hp} (r : Ready X σ H) (nd : (X.env.cells.map (·.1)).Nodup) : Cold H (cellsOf X) := fun c hc => by
  obtain ⟨x, hx⟩ := lookup_of_mem hc nd
  obtain ⟨o, v, h1, _⟩ := r.cel x c hx
  exact ⟨o, h1⟩
section
variable {X : Cx} {pins : List (Addr × Obj)} {σ : L2.St} {H HZ : Hp} {s s1 : Shared}
/-- X's frame is made to stand still -/
theorem Inv.ready (I : Inv X pins σ H s) : Ready X σ (frzH H s.heap (cellsOf X)) := by
  have inn : ∀ {x c}, X.env.cells.lookup x = some c → c ∈ cellsOf X := fun {x c} e => List.mem_map.mpr ⟨(x, c), PySem.mem_of_lookup e, rfl⟩
  refine ⟨I.ok, I.len, fun x c e => ?_, fun i y v h1 h2 h3 => ?_⟩
  · obtain ⟨v, o, ho, hd⟩ := I.cell x c e
    exact ⟨o, v, frzH_in (inn e) ho, hd⟩
  · obtain ⟨m, hn, hl⟩ := I.loc
    obtain ⟨u, r, q⟩ := hl i y v h1 h2 (h3.elim (fun z => .inr (.inl z)) fun z => .inr (.inr z))
    rcases q with ⟨k, _⟩ | ⟨_, c, e, o, ho, hd⟩
    · have k : X.env.scope.names.lookup y = some .local := k
      rcases h3 with z | z <;> rw [z] at k <;> cases k
    · exact ⟨c, o, u, e, frzH_in (inn e) ho, hd, r⟩
/-- the lambda's frame, as it is entered -/
theorem lm_start {A : Around} {outer : List Env} {E : XK} {scope : Scope} {ox : Option Str} {f c' : Addr} {h₁ : Heap} {tk : Nat} {binds : List (Str × Value)} (R : Ready X σ HZ) (nd : (X.env.cells.map (·.1)).Nodup) (L : LamS2 X.N X.env.scope scope ox) (e0 : Env0 X.prog X.w X.K X.mg X.base A outer s1 HZ) (hd : A.handled = none)
    (hns : h₁.Ns s1.heap.objs.size fun y => binds.reverse.lookup y) (kp : ∀ b o, s1.heap.get? b = some o → h₁.get? b = some o) :
    Inv (lamCx X A outer s1 (thaw HZ (cellsOf X)) E scope f c') [] σ (thaw HZ (cellsOf X)) { s1 with heap := h₁, toks := tk } := by
  have cold := R.cold nd
  have hfree : ∀ y ∈ scope.names, y.2 = .free → ∃ c, X.env.cells.lookup y.1 = some c := fun y hy e => by
    rcases L.free y hy e with k | k
    · exact R.ok.has _ (.inl k)
    · exact R.ok.has _ (.inr k)
  have cm : ∀ {y c}, (cloFrom X.env.cells scope.names []).lookup y = some c → X.env.cells.lookup y = some c := fun {y c} e => by
    rcases cloFrom_mem (PySem.mem_of_lookup e) with hm | ⟨h1, h2⟩
    · cases hm
    · obtain ⟨c1, hc⟩ := hfree _ h1 rfl
      have hc : X.env.cells.lookup y = some c1 := hc
      have e2 : c = c1 := by
        rw [h2, hc] <;> rfl
      rw [e2]
      exact hc
  have look : ∀ {y}, scope.names.lookup y = some .free → ∃ c, (cloFrom X.env.cells scope.names []).lookup y = some c := fun {y} hl => mem_lookup (cloFrom_has (cells := X.env.cells) (acc := []) (PySem.mem_of_lookup hl))
  have inn : ∀ {x c}, X.env.cells.lookup x = some c → c ∈ cellsOf X := fun {x c} e => List.mem_map.mpr ⟨(x, c), PySem.mem_of_lookup e, rfl⟩
  have cellAt : ∀ {c o u}, HZ c = some (.frz o cellU) → o.data = .cell u → h₁.IsCell c u := fun {c o u} e d => ⟨o, kp _ _ (e0.hok c _ e).1, d⟩
  have noA : ∀ b : Addr, b ∉ (lamCx X A outer s1 (thaw HZ (cellsOf X)) E scope f c').ex := fun b z => absurd (show b ∈ ([] : List Addr) from z) (by simp)
  have tn : ∀ b, HZ b = none → thaw HZ (cellsOf X) b = none := fun b e => by unfold thaw; split <;> first | rfl | exact e
  refine ⟨⟨e0.mod, L.kind, rfl, rfl, Nat.le_refl _, fun y z c e1 e2 => R.ok.inj y z c (cm e1) (cm e2), fun y hy => ?_, fun y c z _ => ?_, fun _ => hd, Around.frames_deeper e0.frames, .inr ⟨rfl, rfl⟩, fun b z => absurd z (noA b), fun b o e => ⟨(e0.bs b o e).1, tn b (e0.bs b o e).2⟩, e0.bsz, fun b _ _ => noA b,
      fun b z => absurd z (noA b), e0.funs, fun b hb => tn b (e0.frf b hb)⟩,
    rfl, e0.bare, Un.kept kp, ⟨_, hns, fun i y v e1 e2 e3 => ?_⟩, fun y c e => ?_, tn _ (e0.hok.fresh (Nat.le_refl _)), fun y c e => thaw_in (inn (cm e)), fun q hq => absurd (show q ∈ ([] : List (Addr × Obj)) ++ [] from hq) (by simp), (HOk.thaw e0.hok cold).kept kp, R.len⟩
  · have hy : scope.names.lookup y = some .cell ∨ scope.names.lookup y = some .free := hy
    rcases hy with hy | hy
    · exact absurd rfl (L.cell _ (PySem.mem_of_lookup hy))
    · exact look hy
  · have z : false = true := z
    cases z
  · have e3 : Vis scope y := e3
    rcases e3 with k | k | k
    · obtain ⟨_, q⟩ := L.par y (L.own _ (PySem.mem_of_lookup k) rfl)
      exact absurd (List.mem_of_getElem? e1) q
    · exact absurd rfl (L.cell _ (PySem.mem_of_lookup k))
    · have hv := L.free _ (PySem.mem_of_lookup k) rfl
      obtain ⟨c, o, u, h1, h2, h3, h4⟩ := R.val i y v e1 e2 hv
      obtain ⟨c2, g2⟩ := look k
      have : c2 = c := by
        have := cm g2
        rw [h1] at this
        exact (Option.some.inj this).symm
      subst this
      exact ⟨u, h4, .inr ⟨.inr k, c2, g2, cellAt h2 h3⟩⟩
  · obtain ⟨o, v, h1, h2⟩ := R.cel y c (cm e)
    exact ⟨v, cellAt h1 h2⟩
end
end NT
set_option linter.all false
set_option maxRecDepth 100000
set_option autoImplicit false
set_option maxHeartbeats 2000000
namespace NT
open PySem PySem.Spec PyProof.Rows L2 LamX
/-- an exception out of the lambda: seen from where the cells stand still -/
theorem cx_rf {P : Program} {w : World} {outer : List Env} {H0 : Hp} {s s' : Shared} {E : XK} {cs : List Addr} {u : Value} (c : Cold H0 cs) (ok : HOk P w H0 s.heap) (hf : ∀ b ∈ cs, b ∉ frs outer)
    (h : L2.CX P w outer (thaw H0 cs) s (fun cls d H' => (∀ b ∈ cs, H' b = none) → E cls d (refrz H0 H' cs)) u s') : L2.CX P w outer H0 s E u s' := by
  obtain ⟨a, B, H', cls, d, rfl, fl, hok, ub, na, os, ag, hE⟩ := h
  have at_ : ∀ b ∈ cs, ∃ ob, H0 b = some (.frz ob cellU) ∧ B.get? b = some ob := fun b hb => by
    obtain ⟨ob, e⟩ := c b hb
    exact ⟨ob, e, ub.keep b ob (ok b _ e).1 (thaw_in hb) (hf b hb)⟩
  have nn : ∀ b ∈ cs, H' b = none := fun b hb => by
    obtain ⟨ob, e⟩ := c b hb
    exact ub.free b ob (ok b _ e).1 (thaw_in hb)
  refine ⟨a, B, refrz H0 H' cs, cls, d, rfl, fl, HOk.refrz hok at_ nn, NT.UB.rf ub c, ?_, os, ag, hE nn⟩
  have ha : a ∉ cs := fun hb => by
    obtain ⟨ob, _, e⟩ := at_ a hb
    have := fl.2.1
    rw [e] at this; cases this
  rw [refrz_out ha]; exact na
theorem lm_b0 (q : Str) (body : Expr) (scope : Scope) (cl : List (Str × Addr)) (pm ctv : Value) (c' : Addr) : bindArgs (lmFn q ⟨[], [], none, [], [], none, []⟩ body scope cl .none pm (.ref c') ctv) ⟨[], []⟩ = pure [] := rfl
theorem lm_b1 (q x : Str) (p p' : Pos) (j : Nat) (body : Expr) (scope : Scope) (cl : List (Str × Addr)) (pm ctv : Value) (c' T : Addr) : ∃ k, bindArgs (lmFn q ⟨[], [⟨x, none, p⟩], none, [], [], none, [.Constant (.int 0) j p']⟩ body scope cl (.ref T) pm (.ref c') ctv) ⟨[], []⟩ = seqItems? (.ref T) >>= k ∧ ∀ v, k (some #[v]) = pure [(x, v)] := by
  refine ⟨_, rfl, fun v => ?_⟩
  simp [lmFn]
theorem lm_binds {N : List Str} {sc : Scope} {P : Program} {w : World} {H : Hp} {s1 : Shared} {q : Str} {params : Arguments} {ox : Option Str} {body : Expr} {scope : Scope} {cl : List (Str × Addr)} {dV pm ctv : Value} {c' : Addr} (L : LamS2 N sc scope ox) (hp : LamPs params ox) (hok : HOk P w H s1.heap) (hdv : DfV H dV ox) :
    ∃ binds : List (Str × Value), (∀ y ∈ binds, scope.names.lookup y.1 = some .local) ∧ BindsTo s1 (lmFn q params body scope cl dV pm (.ref c') ctv) ⟨[], []⟩ binds := by
  cases hp with
  | no =>
    obtain rfl : dV = .none := hdv
    exact ⟨[], fun y hy => (by cases hy), .of_eq (lm_b0 q body scope cl pm ctv c')⟩
  | one x p p' j =>
    obtain ⟨T, rfl, hT⟩ := hdv
    obtain ⟨_, its, rT, oT, hoT, hcT, nT, hdT⟩ := hok T _ hT
    obtain ⟨u0, rfl⟩ : ∃ u0, its = [u0] := by
      cases rT with
      | cons h t => cases t; exact ⟨_, rfl⟩
    refine ⟨[(x, u0)], fun y hy => ?_, ?_⟩
    · simp at hy; subst hy; exact (L.par x rfl).1
    · obtain ⟨k, e1, e2⟩ := lm_b1 q x p p' j body scope cl pm ctv c' T
      exact BindsTo.of_defaults (T := T) rfl hoT hdT e1 (e2 u0)
section
variable {X : Cx} {σ : L2.St}
/-- a(), in the def that got a kept lambda -/
theorem lm_act {CXg : CXT} {Eg : XK} {Ng : List Str} {qg : Str} {sg : Scope} {g f c' : Addr} {cdg dV : Value} {params : Arguments} {ox : Option Str} {body : Expr} {scope : Scope} {k i : Nat} {a q : Str} {pn : List (Addr × Obj)} {xe : Value → Shared → Prop} {W : WX} {E : XK} {tb : XK → TE} {p1 p2 : Pos}
    {A0 : Around} {outer0 : List Env} {s : Shared} {H : Hp} (L : LamS2 X.N X.env.scope scope ox) (hp : LamPs params ox) (hq : q = X.env.qual ++ "<lambda>") (nd : (X.env.cells.map (·.1)).Nodup)
    (tk : Takes ((cxOf CXg X.prog X.w X.K X.mg X.base Ng qg sg g cdg A0 outer0 s H Eg).tr pn xe) W) (hW : ∀ cls d σ' H', E cls d H' → W cls d σ' H') (hr : Room (k + 1) (A0.deeper (envOfC qg sg s.heap.objs.size g cdg)))
    (hbody : ∀ (A : Around) (outer : List Env) (s : Shared) (H : Hp) (E : XK), Room k (A.deeper (lamEnv X scope s.heap.objs.size f c')) → PE (lamCx X A outer s H E scope f c') body (tb E))
    (hN : Ng[i]? = some a) (hv : Vis sg a) (hd : (a == ("__debug__" : Str)) = false) (hcd : (a == ("__classdict__" : Str)) = false) :
    PE ((cxOf CXg X.prog X.w X.K X.mg X.base Ng qg sg g cdg A0 outer0 s H Eg).tr pn xe) (.Call (.Name a p1) [] [] p2)
      (fun σZ HZ Q => σZ[i]? = some (some (.ref f)) ∧ HZ f = some (LmO f q params body scope (cloFrom X.env.cells scope.names []) dV c') ∧ HZ c' = some (CodeO c' q) ∧ DfV HZ dV ox ∧ Ready X σ HZ ∧
        tb (fun cls d H' => (∀ b ∈ cellsOf X, H' b = none) → E cls d (refrz HZ H' (cellsOf X))) σ (thaw HZ (cellsOf X)) fun v H' => (∀ b ∈ cellsOf X, H' b = none) → Q v (refrz HZ H' (cellsOf X))) := by
  refine ⟨fun pinsZ sZ σZ HZ Q IZ h => ?_⟩
  obtain ⟨hs, hf, hc, hdv, R, ht⟩ := h
  refine wpAny_Call_Name_kw (thn ((pe_var (pos := p1) (i := i) hN hv hd hcd).run pinsZ sZ σZ HZ (fun v H1 => v = .ref f ∧ H1 = HZ) IZ ⟨.ref f, hs, rfl, rfl⟩) fun u s1 ⟨v, H1, I1, r1, q1⟩ => ?_)
  obtain ⟨ev, eH⟩ := q1
  subst ev
  rw [eH] at I1
  obtain rfl : u = Value.ref f := r1
  obtain ⟨⟨pm, ctv, of1⟩, _, _⟩ := I1.hok f _ hf
  refine PySem.W.callWith_F0 ⟨_, _, _, _, of1⟩ ?_
  obtain ⟨⟨oc, vs, t, hoc, hdc, hvc⟩, _, _⟩ := I1.hok c' _ hc
  have cold := R.cold nd
  have e0 := I1.env0
  have hdep := hr.depth
  have nofr : ∀ b ∈ cellsOf X, b ∉ frs (envOfC qg sg s.heap.objs.size g cdg :: outer0) := fun b hb z => by
    obtain ⟨ob, e⟩ := cold b hb
    have := e0.frf b z
    rw [e] at this; cases this
  obtain ⟨binds, hloc, hb⟩ := lm_binds (q := q) (body := body) (scope := scope) (cl := cloFrom X.env.cells scope.names []) (pm := pm) (ctv := ctv) (c' := c') L hp I1.hok hdv
  have rc : codeAny (model X.prog X.w) (A0.deeper (envOfC qg sg s.heap.objs.size g cdg)) (.call (.ref f) ⟨[], []⟩) (CR (L2.CX X.prog X.w) (envOfC qg sg s.heap.objs.size g cdg :: outer0) X.prog X.w HZ s1 Q E) s1 := by
    refine PySem.W.kla_callFunE hdep of1 rfl L.co L.gen rfl ⟨c', oc, vs, t, rfl, hoc, hdc, hvc⟩ ?_
    refine hb _ _ _ _ (wpAny_newFunctionEnv (fun y hy => L.cell y hy) hloc (fun h₁ hns hsb => ⟨I1.nolimit.fresh _ hsb, ?_⟩) L.kind)
    have kp : ∀ b o, s1.heap.get? b = some o → h₁.get? b = some o := fun b o e => hsb.extBut b o (Nat.ne_of_lt (Heap.lt_size e)) (Heap.get?_push_of_some _ e)
    subst hq
    have J : Inv (lamCx X (A0.deeper (envOfC qg sg s.heap.objs.size g cdg)) (envOfC qg sg s.heap.objs.size g cdg :: outer0) s1 (thaw HZ (cellsOf X)) (fun cls d H' => (∀ b ∈ cellsOf X, H' b = none) → E cls d (refrz HZ H' (cellsOf X))) scope f c') [] σ (thaw HZ (cellsOf X)) { s1 with heap := h₁, toks := s1.toks + binds.length } :=
      lm_start R nd L e0 hr.hd hns kp
    refine PySem.W.kla_codeExpr (wpAny_mono ((hbody _ _ s1 (thaw HZ (cellsOf X)) (fun cls d H' => (∀ b ∈ cellsOf X, H' b = none) → E cls d (refrz HZ H' (cellsOf X))) (hr.deeper _)).run [] _ _ _ _ J ht) (fun v s' hq => ?_) fun e s' hq => ?_)
    · obtain ⟨w', H', J', rv, q⟩ := hq
      have un : Un (frs (envOfC qg sg s.heap.objs.size g cdg :: outer0)) [] (thaw HZ (cellsOf X)) H' s1.heap s'.heap := J'.base
      have at_ : ∀ b ∈ cellsOf X, ∃ ob, HZ b = some (.frz ob cellU) ∧ s'.heap.get? b = some ob := fun b hb => by
        obtain ⟨ob, e⟩ := cold b hb
        exact ⟨ob, e, un.keep b ob (I1.hok b _ e).1 (thaw_in hb) (nofr b hb) (by simp)⟩
      have nn : ∀ b ∈ cellsOf X, H' b = none := fun b hb => by
        obtain ⟨ob, e⟩ := cold b hb
        exact un.free b ob (I1.hok b _ e).1 (thaw_in hb) (by simp)
      exact ⟨w', refrz HZ H' (cellsOf X), J'.os, J'.bare, NT.Un.rf un cold, HOk.refrz J'.hok at_ nn, rv, q nn⟩
    · exact wpAny_mono hq (fun _ s2 h2 => cx_rf cold I1.hok nofr h2) fun _ s2 h2 => cx_rf cold I1.hok nofr h2
  have hx : Passes (L2.CX X.prog X.w) ((cxOf CXg X.prog X.w X.K X.mg X.base Ng qg sg g cdg A0 outer0 s H Eg).tr pn xe) E := passes_call tk hW
  refine wpAny_call (codeAny_mono rc fun r s' hq => ?_)
  cases r with
  | error e => exact hx pinsZ σZ HZ s1 e s' I1 hq
  | ok fl =>
    cases fl with
    | ret u => exact I1.after hq
    | next => exact False.elim hq
    | brk => exact False.elim hq
    | cont => exact False.elim hq
end
end NT
set_option linter.all false
set_option maxRecDepth 100000
set_option autoImplicit false
set_option maxHeartbeats 2000000
namespace NT
open PySem PySem.Spec PyProof.Rows L2 LamX
/-! ### the abstract side while cells stand still -/
section
variable {W : Wd} {c : Cf} {cs : List Addr}
theorem rd_thaw (cd : Cold c.H cs) {p : Addr} {u : HO} (h1 : u ≠ cellU) (h2 : ∀ ob v, u ≠ .frz ob v) (h : Rd c.H p u) : Rd (thaw c.H cs) p u := by
  rcases h with h | ⟨o, h⟩
  · refine .inl ?_
    rw [thaw_out (cd.not h fun ob z => h2 _ _ z)]; exact h
  · refine .inr ⟨o, ?_⟩
    rw [thaw_out (cd.not h fun ob z => by injection z with _ z; exact h1 z)]; exact h
theorem ne_cell {xs : List V} : HO.lst xs ≠ cellU := fun z => by unfold cellU at z; cases z
theorem ne_cellT {xs : List V} : HO.tup xs ≠ cellU := fun z => by unfold cellU at z; cases z
theorem thaw_at (cd : Cold c.H cs) {p : Addr} {u : HO} (h : c.H p = some u) (h2 : ∀ ob v, u ≠ .frz ob v) : thaw c.H cs p = some u := by
  rw [thaw_out (cd.not h fun ob z => h2 _ _ z)]; exact h
mutual
theorem Rep.thaw (cd : Cold c.H cs) : ∀ (a : AV) (v : V), Rep W c v a → Rep W ⟨c.ρ, c.h, thaw c.H cs, c.x⟩ v a
  | .non, _, h => by cases h; exact .non
  | .bl b, _, h => by cases h; exact .bl b
  | .int i, _, h => by cases h; exact .int i
  | .str s, _, h => by cases h; exact .str s
  | .ty n, _, h => by cases h; exact .ty n
  | .tup xs, _, h => by
    cases h with
    | tup h1 h2 => exact .tup (h1.imp (fun z => ⟨z.1, rd_thaw cd ne_cellT (fun _ _ z => by cases z) z.2⟩) id) (Reps.thaw cd xs _ h2)
  | .lst xs, _, h => by
    cases h with
    | lst h1 h2 => exact .lst (h1.imp (fun z => ⟨z.1, rd_thaw cd ne_cell (fun _ _ z => by cases z) z.2⟩) id) (Reps.thaw cd xs _ h2)
  | .obj k ks xs, _, h => by
    cases h with
    | obj h1 h2 h3 h4 => exact .obj h1 (thaw_at cd h2 fun _ _ z => by cases z) h3 (Reps.thaw cd xs _ h4)
  | .ref n, _, h => by
    cases h with
    | ref h1 => exact .ref h1
  | .cls k, _, h => by cases h; exact .cls k
  | .fn f, _, h => by
    cases h with
    | @fn p c' k params ox body scope dV h1 h2 h3 h4 h5 h6 =>
      refine .fn h1 h2 h3 (thaw_at cd h4 fun _ _ z => by unfold LmO at z; cases z) (thaw_at cd h5 fun _ _ z => by unfold CodeO at z; cases z) ?_
      cases ox with
      | none => exact h6
      | some x => obtain ⟨T, e1, e2, e3⟩ := h6; exact ⟨T, e1, e2, thaw_at cd e3 fun _ _ z => by cases z⟩
  | .dct _ _, _, h => by cases h
  | .exo _ _ _, _, h => by cases h
theorem Reps.thaw (cd : Cold c.H cs) : ∀ (as : List AV) (vs : List V), Reps W c vs as → Reps W ⟨c.ρ, c.h, thaw c.H cs, c.x⟩ vs as
  | [], _, h => by cases h; exact .nil
  | a :: as, _, h => by
    cases h with
    | cons h1 h2 => exact .cons (Rep.thaw cd a _ h1) (Reps.thaw cd as _ h2)
end
theorem ORep.thaw (cd : Cold c.H cs) {p : Addr} {o : AObj} (h : ORep W c p o) : ORep W ⟨c.ρ, c.h, thaw c.H cs, c.x⟩ p o := by
  cases o with
  | dead => trivial
  | lst xs => obtain ⟨vs, h1, h2⟩ := h; exact ⟨vs, thaw_at cd h1 (fun _ _ z => by cases z), Reps.thaw cd _ _ h2⟩
  | ins k ks xs => obtain ⟨dx, fs, h1, h2, h3⟩ := h; exact ⟨dx, fs, thaw_at cd h1 (fun _ _ z => by cases z), h2, Reps.thaw cd _ _ h3⟩
  | dct _ _ => exact h.elim
theorem Sim.thaw (s : Sim W c) (cd : Cold c.H cs) : Sim W ⟨c.ρ, c.h, thaw c.H cs, c.x⟩ where
  len := s.len
  inj := s.inj
  obj := fun n o p h1 h2 => ORep.thaw cd (s.obj n o p h1 h2)
  bz := fun p hp => by
    refine ⟨?_, (s.bz p hp).2⟩
    obtain ⟨o, e⟩ := Option.ne_none_iff_exists'.mp (s.bz p hp).1
    show NT.thaw c.H cs p ≠ none
    rw [thaw_at cd e (s.tl p (.inl hp) o e).2.2]; simp
  tb := fun p hp => by
    obtain ⟨ps, h1, h2, h3⟩ := s.tb p hp
    refine ⟨ps, thaw_at cd h1 (fun _ _ z => by cases z), h2, fun pos cv hc => ?_⟩
    obtain ⟨c0, e1, e2⟩ := h3 pos cv hc
    exact ⟨c0, e1, thaw_at cd e2 fun _ _ z => by unfold CodeO at z; cases z⟩
  tl := fun p hp o ho => by
    refine s.tl p hp o ?_
    have ho : NT.thaw c.H cs p = some o := ho
    unfold NT.thaw at ho
    split at ho
    · cases ho
    · exact ho
/-- an end seen from where the cells are free -/
theorem End.thaw {Wx : WX} {S : L2.St} {Q : VK} {o : Out AV} (sim : Sim W c) (cd : Cold c.H cs) (e : End W Wx S c (Rep W) Q o) :
    End W (fun cls d S H' => (∀ b ∈ cs, H' b = none) → Wx cls d S (refrz c.H H' cs)) S ⟨c.ρ, c.h, NT.thaw c.H cs, c.x⟩ (Rep W) (fun v H' => (∀ b ∈ cs, H' b = none) → Q v (refrz c.H H' cs)) o := by
  have gr : ∀ {H' : Hp}, (∀ b ∈ cs, H' b = none) → Gr H' (refrz c.H H' cs) := fun {H'} nn p o e => by
    rw [refrz_out fun hb => by rw [nn p hb] at e; cases e]; exact e
  have ext : ∀ {ρ' : List Addr} {h' : AHeap} {H' : Hp}, (∀ b ∈ cs, H' b = none) → Sim W ⟨ρ', h', H', c.x⟩ → Ext ⟨c.ρ, c.h, NT.thaw c.H cs, c.x⟩ ⟨ρ', h', H', c.x⟩ → Ext c ⟨ρ', h', refrz c.H H' cs, c.x⟩ := fun {ρ' h' H'} nn s' x' => by
    have nl : ∀ p ∈ cs, ¬ Live ⟨ρ', h', H', c.x⟩ p := fun p hp l => s'.tracked l (nn p hp)
    refine ⟨⟨x'.pre, fun p o h1 h2 h3 => ?_, fun p o h1 h2 h3 => ?_⟩, rfl, fun p hp => ?_⟩
    · by_cases hcs : p ∈ cs
      · show refrz c.H H' cs p = _
        rw [refrz_in hcs]; exact h1
      · show refrz c.H H' cs p = _
        rw [refrz_out hcs]
        exact x'.keep p o (by show NT.thaw c.H cs p = _; rw [thaw_out hcs]; exact h1) h2 h3
    · by_cases hcs : p ∈ cs
      · exact nl p hcs
      · exact x'.nl p o (by show NT.thaw c.H cs p = _; rw [thaw_out hcs]; exact h1) h2 h3
    · obtain ⟨o, e⟩ := Option.ne_none_iff_exists'.mp (sim.bz p hp).1
      have hcs : p ∉ cs := cd.not e fun ob z => (sim.tl p (.inl hp) o e).2.2 _ _ z
      show refrz c.H H' cs p = c.H p
      rw [refrz_out hcs]; refine (x'.busy p hp).trans ?_
      exact thaw_out hcs
  cases o with
  | bad => exact e
  | ok a h' =>
    intro ρ' H' b s' x' r nn
    exact e ρ' _ b (s'.grow (gr nn)) (ext nn s' x') (r.to (Ext.grow s' (gr nn)))
  | exc k ks vs h' =>
    intro ρ' H' d fs s' x' nl hd hfs rfs nn
    exact e ρ' _ d fs (s'.grow (gr nn)) (ext nn s' x') nl (gr nn _ _ hd) hfs (rfs.to (Ext.grow s' (gr nn)))
end
/-! ### _law_got(x), x a kept lambda -/
def stB0 : Expr → Bool
  | .Starred _ _ => true
  | _ => false
theorem pe_imp {X : Cx} {e : Expr} {t t' : TE} (h : PE X e t) (k : ∀ σ H Q, t' σ H Q → t σ H Q) : PE X e t' := ⟨fun pins s σ H Q I q => h.run pins s σ H Q I (k _ _ _ q)⟩
section
variable {V : Cx}
theorem pe_gotv {TT : (XK → Hp → VK → Prop) → Hp → VK → Prop} {x a q : Str} {g : Addr} {k : Nat} {pg : Arguments} {bg : List Stmt} {sg : Scope} {dV kV doc pm cdv ct oc : Value} {an od : Option Addr} {osl : Array (Option Value)} {Ng : List Str} {e : Expr} {te : TE} {p pos : Pos}
    (AC : Addr → Addr → (XK → Hp → VK → Prop) → Prop)
    (hg : Gl V x) (hm : V.mg x = some (.ref g)) (hk : PySem.W.keepIn V.K (.ref g) = true) (lk : V.K.lookup g = some ⟨oc, od, .func (PySem.W.fnOf x x pg bg sg dV kV doc pm an cdv ct), osl⟩) (hcg : PySem.W.codeIn V.K cdv x = true) (hb : L2.Binds V.K (PySem.W.fnOf x x pg bg sg dV kV doc pm an cdv ct) [a] []) (Sg : FnScope Ng [a] sg)
    (hG : GivesTo V Ng x sg g cdv bg a q TT) (hr : Room (k + 1) V.A) (he : PE V e te) (hs : stB0 e = false)
    (act : ∀ (f c' : Addr) (tl : XK → Hp → VK → Prop), AC f c' tl → ∀ (s : Shared) (H : Hp), Room k (V.A.deeper (envOfC x sg s.heap.objs.size g cdv)) → ∀ (W : WX) (pn : List (Addr × Obj)) (xe : Value → Shared → Prop) (E : XK) (p1 p2 : Pos), Takes ((cxOf C8.CX0 V.prog V.w V.K V.mg V.base Ng x sg g cdv V.A V.stack s H C8.E0).tr pn xe) W → (∀ cls d σ' H', E cls d H' → W cls d σ' H') →
      PE ((cxOf C8.CX0 V.prog V.w V.K V.mg V.base Ng x sg g cdv V.A V.stack s H C8.E0).tr pn xe) (.Call (.Name a p1) [] [] p2) (fun σZ HZ Q => σZ[0]? = some (some (.ref f)) ∧ HZ c' = some (CodeO c' q) ∧ tl E HZ Q))
    (hdb : (x == ("__debug__" : Str)) = false) :
    PE V (.Call (.Name x p) [e] [] pos) (fun σ H Q => te σ H fun v H1 => ∃ (f c' : Addr) (tl : XK → Hp → VK → Prop), v = .ref f ∧ AC f c' tl ∧ H1 c' = some (CodeO c' q) ∧ TT tl H1 Q) := by
  refine ⟨fun pins s σ H Q I h => ?_⟩
  refine wpAny_Call_Name_kw (ld_glob I hg hm ?_ hdb)
  have h1 : starEach [e] V.env = [(false, eval e V.env)] := by cases e <;> first | rfl | cases hs
  refine PySem.W.callWith_K (h₀ := V.base) (first := []) I.ok.mod.kin hk ?_ h1 (by rfl)
  show wpAny _ _ (spliced (backTo pos (starEach [e] V.env))) _ _ s
  rw [h1]
  refine Calls.spliced_cons (thn (he.run pins s σ H _ I h) fun u s1 ⟨v, H1, I1, ru, f, c', tl, ev, ac, hc, tt⟩ => ?_)
  subst ev
  obtain rfl : u = Value.ref f := ru
  refine Calls.spliced_nil ⟨I1.kIn, ?_⟩
  have rc : codeAny (model V.prog V.w) V.A (.call (.ref g) ⟨[.ref f], []⟩) (CR C8.CX0 V.stack V.prog V.w H1 s1 Q C8.E0) s1 := by
    refine run_ofS (N := Ng) (ps := [a]) (us := [.ref f]) (vs := [.ref f]) lk hcg Sg hr I1.env0 (hb s1 [.ref f] I1.kIn rfl) (.cons rfl .nil) rfl fun hr' => ?_
    obtain ⟨t', ht', hq'⟩ := hG f c' s1 H1 Q tl (act f c' tl ac s1 H1 hr') hc tt
    exact ⟨t', ht'.nox, hq'⟩
  refine wpAny_call (codeAny_mono rc fun r s2 hq => ?_)
  cases r with
  | error e => exact (show False from hq).elim
  | ok fl =>
    cases fl with
    | ret u => exact I1.after hq
    | next => exact False.elim hq
    | brk => exact False.elim hq
    | cont => exact False.elim hq
end
end NT
set_option linter.all false
set_option maxRecDepth 100000
set_option autoImplicit false
set_option maxHeartbeats 4000000
namespace NT
open PySem PySem.Spec PyProof.Rows L2 LamX
/-! ### _law_all -/
/-- X is the frame whose lambdas are kept -/
structure TopX (W : Wd) (X : Cx) : Prop where
  cells : X.env.cells = W.cells
  N : X.N = W.tN
  sc : X.env.scope = W.tsc
  lq : W.lq = X.env.qual ++ "<lambda>"
  nd : (X.env.cells.map (·.1)).Nodup
  la : LamAt W X
  fn : ∀ x, X.fn x = true
/-- what the lambdas promise -/
def LamProm (W : Wd) (n : Nat) (C : Orc) : Prop := ∀ k params ox body scope, W.lamP k params ox body scope → LamS2 W.tN W.tsc scope ox ∧ LamPs params ox ∧ ∀ X, TopX W X → ∀ (A : Around) (outer : List Env) (s : Shared) (H : Hp) (E : XK) (f c' : Addr), CtxOk W (fun cls d _ H => E cls d H) n (lamCx X A outer s H E scope f c') →
  ∀ (c : Cf) (S : L2.St) (σ : Loc) (Q : VK), Sim W c → LocR W c S σ → End W (fun cls d _ H => E cls d H) S c (Rep W) Q (C.lam k σ c.h) → wE (lamCx X A outer s H E scope f c') body S c.H Q
section
variable {W : Wd} {Wx : WX} {X : Cx} {C : Orc} {n : Nat}
theorem snd_lamv (TX : TopX W X) {k : Nat} {params : Arguments} {ox : Option Str} {body : Expr} {scope : Scope} {pos : Pos} {ib : E} (hP : C.lamOk k ib = true → W.lamP k params ox body scope) (L : LamS2 W.tN W.tsc scope ox) (hp : LamPs params ox) : SndE W Wx X C (.Lambda params body scope pos) (.lamv k ib) := fun c S σ Q sim l e => by
  obtain ⟨g, e⟩ := End.ok1 (show End W Wx S c (Rep W) Q (NT.ok1 (C.lamOk k ib) (.fn k) c.h) from e)
  obtain ⟨cc, P, t1, t2, t3, t4⟩ := TX.la
  intro pins s I
  have hfree : ∀ y ∈ scope.names, y.2 = .free → ∃ c, X.env.cells.lookup y.1 = some c := fun y hy h => by
    rcases L.free y hy h with z | z
    · exact I.ok.has _ (.inl (show X.env.scope.names.lookup y.1 = _ by rw [TX.sc]; exact z))
    · exact I.ok.has _ (.inr (show X.env.scope.names.lookup y.1 = _ by rw [TX.sc]; exact z))
  refine lm_make I t2 t1 t3 t4 sim.tb hp hfree fun f c' dV H1 s' I1 eN T1 hdv hf hc => ⟨.ref f, H1, I1, rfl, ?_⟩
  have s1 := sim.tabs eN T1
  have x1 := Ext.tabs sim eN
  refine e c.ρ H1 (.ref f) s1 x1 ?_
  have nl : ∀ {p : Addr} {φ : Heap → Prop}, H1 p = some (.ext φ) → ¬ Live { c with H := H1 } p := fun {p φ} h l => (s1.tl p l _ h).2.1 φ rfl
  refine .fn (hP g) (nl (by unfold LmO at hf; exact hf)) (nl (by unfold CodeO at hc; exact hc)) (by rw [TX.lq, ← TX.cells]; exact hf) (by rw [TX.lq]; exact hc) ?_
  cases ox with
  | none => exact hdv
  | some x =>
    obtain ⟨T, h1, h2, h3⟩ := hdv
    exact ⟨T, h1, fun l => sim.fresh h2 l, h3⟩
end
/-- `_law_all`: return [got(ask) for ask in as] -/
structure AllD where
  (y as_ ask got : Str) (sA scC : Scope) (gA : Addr) (params : Arguments) (p1 p2 p3 p4 p5 p6 p7 : Pos) (dV kV doc pm cdv ct oc : Value) (an od : Option Addr) (osl : Array (Option Value))
def AllD.body (D : AllD) : List Stmt := [.Return (some (.ListComp (.Call (.Name D.got D.p1) [.Name D.ask D.p2] [] D.p3) [⟨.Name D.ask D.p4, .Name D.as_ D.p5, [], 0⟩] D.scC D.p6)) D.p7]
structure AllS (D : AllD) : Prop where
  sc : FnScope [D.as_, D.ask] [D.as_] D.sA
  blk : L2.blkC [D.as_, D.ask] D.sA D.scC [(D.ask, 1)] = true
  g : (L2.relS D.scC D.sA).names.lookup D.got = some .globalImplicit
  v0 : Vis D.sA D.as_
  v1 : (L2.relS D.scC D.sA).names.lookup D.ask = some .local
  d0 : (D.y == ("__debug__" : Str)) = false
  d1 : (D.as_ == ("__debug__" : Str)) = false
  d2 : (D.as_ == ("__classdict__" : Str)) = false
  d3 : (D.ask == ("__debug__" : Str)) = false
  d4 : (D.ask == ("__classdict__" : Str)) = false
  b : ∀ K, Binds K (PySem.W.fnOf D.y D.y D.params D.body D.sA D.dV D.kV D.doc D.pm D.an D.cdv D.ct) [D.as_] []
structure AllW (W : Wd) (D : AllD) : Prop where
  st : AllS D
  m : W.mg D.y = some (.ref D.gA)
  kp : PySem.W.keepIn W.K (.ref D.gA) = true
  lk : W.K.lookup D.gA = some ⟨D.oc, D.od, .func (PySem.W.fnOf D.y D.y D.params D.body D.sA D.dV D.kV D.doc D.pm D.an D.cdv D.ct), D.osl⟩
  cd : PySem.W.codeIn W.K D.cdv D.y = true
def AllOk (W : Wd) (cat : List Nat) (y : Str) : Prop := ∃ D G, AllW W D ∧ D.y = y ∧ GotP W cat D.got G
/-- the orc in which an element is a call of a kept lambda -/
def orcE (C : Orc) (cat : List Nat) (lam : Nat → M AV) : Orc := { C with call := fun _ xs => match xs with | [x] => gotF cat lam x | _ => M.bad }
section
variable {W : Wd} {Wx : WX} {X : Cx} {C : Orc} {n : Nat}
theorem gallE (C : Orc) (cat : List Nat) (lam : Nat → M AV) (xs : List AV) (h : AHeap) : ev (orcE C cat lam) [some (.lst xs), none] (.lc [1] [1] (.itv (.var 0)) (.tv (.cst (.bl true))) (.call 0 (.cons (.var 1) .nil))) h =
    M.bind (lcL (fun y => noexc (M.bind (gotF cat lam y) fun z => M.pure (some z))) xs) (fun ys => ok1 (decide (ys.length ≤ line)) (AV.lst ys)) h := rfl
theorem evE (C : Orc) (cat : List Nat) (lam : Nat → M AV) (σ : Loc) (h : AHeap) : ev (orcE C cat lam) σ (.call 0 (.cons (.var 1) .nil)) h = M.bind (lget σ 1) (gotF cat lam) h := by
  show M.bind (M.bind (lget σ 1) fun x => M.bind (M.pure []) fun xs => M.pure (x :: xs)) _ h = _
  unfold M.bind lget M.of
  cases σ[1]?.getD none <;> rfl
theorem snd_gall (K : CtxOk W Wx (n + 5) X) (TX : TopX W X) (LP : LamProm W n C) {cat : List Nat} {y : Str} (AO : AllOk W cat y) (hg : Gl X y) {a : Expr} {ia : E} {p pos : Pos} (hs : stB0 a = false) (ha : SndE W Wx X C a ia) :
    SndE W Wx X C (.Call (.Name y p) [a] [] pos) (.gall cat ia) := fun c S σ Q sim l e => by
  obtain ⟨D, GD, AP, rfl, G⟩ := AO
  have AS := AP.st
  intro pins s I
  have h1 : starEach [a] X.env = [(false, eval a X.env)] := by cases a <;> first | rfl | cases hs
  refine wpAny_Call_Name_kw (ld_glob I hg (by rw [K.hg]; exact AP.m) ?_ AS.d0)
  refine PySem.W.callWith_K (h₀ := X.base) (first := []) I.ok.mod.kin (by rw [K.hK]; exact AP.kp) ?_ h1 (by rfl)
  show wpAny _ _ (spliced (backTo pos (starEach [a] X.env))) _ _ s
  rw [h1]
  refine Calls.spliced_cons (thn (ha c S σ (fun v H => ∃ (c1 : Cf) (x : AV), c1.H = H ∧ Sim W c1 ∧ Ext c c1 ∧ Rep W c1 v x ∧ End W Wx S c1 (Rep W) Q ((match x with
      | AV.lst xs => M.bind (lcL (fun y => noexc (M.bind (gotF cat (fun k => C.lam k σ) y) fun z => M.pure (some z))) xs) fun ys => ok1 (decide (ys.length ≤ line)) (AV.lst ys)
      | _ => M.bad) c1.h)) sim l (End.bind e fun x c1 v _ s1 x1 r1 e1 => ⟨c1, x, rfl, s1, x1, r1, e1⟩) pins s I) fun u s1 ⟨v, H1, I1, ru, c1, x, hc1, sm, x1, rx, e1⟩ => ?_)
  subst hc1
  cases x with
  | lst xs => ?_
  | _ => exact e1.elim
  replace e1 : End W Wx S c1 (Rep W) Q (M.bind (lcL (fun y => noexc (M.bind (gotF cat (fun k => C.lam k σ) y) fun z => M.pure (some z))) xs) (fun ys => ok1 (decide (ys.length ≤ line)) (AV.lst ys)) c1.h) := e1
  refine Calls.spliced_nil ⟨I1.kIn, ?_⟩
  -- the frame stands still
  obtain ⟨cs, hcs⟩ : ∃ cs, cs = cellsOf X := ⟨_, rfl⟩
  have cin : ∀ b ∈ cs, ∃ x, X.env.cells.lookup x = some b := fun b hb => lookup_of_mem (by rw [hcs] at hb; exact hb) TX.nd
  have hcold : ∀ b ∈ cs, c1.H b = none ∧ ∃ ob, s1.heap.get? b = some ob := fun b hb => by
    obtain ⟨x, hx⟩ := cin b hb
    obtain ⟨v', o, ho, _⟩ := I1.cell x b hx
    exact ⟨I1.freeC x b hx, o, ho⟩
  have hge : ∀ b ∈ cs, X.s_0.heap.objs.size ≤ b := fun b hb => by
    obtain ⟨x, hx⟩ := cin b hb
    exact I1.ok.cab x b (TX.fn x) hx
  have hfrs : ∀ b ∈ cs, b ∉ frs X.stack := fun b hb z => by
    obtain ⟨x, hx⟩ := cin b hb
    rcases List.mem_cons.mp (I1.stkSub b z) with q | q
    · exact I1.cne x b hx q
    · obtain ⟨_, o, ho, _⟩ := I1.ok.funs.mem q
      exact absurd (Nat.lt_of_lt_of_le (Heap.lt_size ho) (hge b hb)) (Nat.lt_irrefl _)
  obtain ⟨Hf, hHf⟩ : ∃ Hf, Hf = frzH c1.H s1.heap cs := ⟨_, rfl⟩
  have gr : Gr c1.H Hf := fun b o e => by
    rw [hHf, frzH_out fun hb => by rw [(hcold b hb).1] at e; cases e]; exact e
  have sim2 : Sim W { c1 with H := Hf } := sm.grow gr
  have x2 : Ext c1 { c1 with H := Hf } := Ext.grow sm gr
  have R0 : Ready X S Hf := by rw [hHf, hcs]; exact NT.Inv.ready I1
  have cold : Cold Hf cs := by rw [hcs]; exact R0.cold TX.nd
  have e0 : Env0 X.prog X.w X.K X.mg X.base X.A X.stack s1 Hf := by
    have e0 := I1.env0
    have keepn : ∀ b, b ∉ cs → c1.H b = none → Hf b = none := fun b hb h => by rw [hHf, frzH_out hb]; exact h
    refine ⟨e0.frames, e0.mod, fun b o h => ⟨(e0.bs b o h).1, keepn b (fun hb => ?_) (e0.bs b o h).2⟩, e0.bsz, e0.funs, fun b hb => keepn b (fun z => hfrs b z hb) (e0.frf b hb), ?_, e0.bare⟩
    · exact absurd (Nat.lt_of_lt_of_le (Heap.lt_size h) (Nat.le_trans I1.ok.bsz (hge b hb))) (Nat.lt_irrefl _)
    · rw [hHf]; exact HOk.froze I1.hok hcold
  have lk : X.K.lookup D.gA = some ⟨D.oc, D.od, .func (PySem.W.fnOf D.y D.y D.params D.body D.sA D.dV D.kV D.doc D.pm D.an D.cdv D.ct), D.osl⟩ := by rw [K.hK]; exact AP.lk
  have hcd : PySem.W.codeIn X.K D.cdv D.y = true := by rw [K.hK]; exact AP.cd
  have rc : codeAny (model X.prog X.w) X.A (.call (.ref D.gA) ⟨[u], []⟩) (CR C8.CX0 X.stack X.prog X.w Hf s1 (fun v H2 => Q v (NT.thaw H2 cs)) C8.E0) s1 := by
    refine run_ofS (k := n + 4) (N := [D.as_, D.ask]) (ps := [D.as_]) (us := [u]) (vs := [v]) lk hcd AS.sc K.room e0 (AS.b X.K s1 [u] I1.kIn rfl) (.cons ru .nil) rfl fun hr' => ?_
    obtain ⟨Y, hY⟩ : ∃ Y, Y = cxOf C8.CX0 X.prog X.w X.K X.mg X.base [D.as_, D.ask] D.y D.sA D.gA D.cdv X.A X.stack s1 Hf C8.E0 := ⟨_, rfl⟩
    have KY : CtxOk W WF (n + 4) Y := by rw [hY]; exact ⟨K.hP, K.hw, K.hK, K.hg, K.hb, rfl, hr', LamX.takes0, AS.sc.nd⟩
    have ok : BlkOk Y.N Y.env.scope D.scC [(D.ask, 1)] := by rw [hY]; exact blkOk_by AS.blk
    have hscV : ∀ (s : Shared) (H : Hp) (Cc : Addr) (cl : List (Str × Addr)) (fp : List Addr), (Y.blk s H D.scC (compEnvC D.scC cl Cc Y.env) fp).env.scope = L2.relS D.scC D.sA := fun s H Cc cl fp => by rw [hY]; rfl
    have tgt : ∀ (s : Shared) (H : Hp) (Cc : Addr) (cl : List (Str × Addr)) (fp : List Addr), PG (Y.blk s H D.scC (compEnvC D.scC cl Cc Y.env) fp) (.Name D.ask D.p4) (gOf Y.K [1]) := fun s H Cc cl fp =>
      Tgt.pg (X := Y.blk s H D.scC (compEnvC D.scC cl Cc Y.env) fp) KY.nd KY.calm (.name (by rw [hY]; rfl) (.inl (by rw [hscV]; exact AS.v1)) (.inr (by rw [hscV]; exact AS.v1)))
    -- the element
    let AC : Addr → Addr → (XK → Hp → VK → Prop) → Prop := fun f c' tl => ∃ k params ox body scope dV, W.lamP k params ox body scope ∧ tl = fun E HZ Q => HZ f = some (LmO f W.lq params body scope (cloFrom W.cells scope.names []) dV c') ∧ DfV HZ dV ox ∧ Ready X S HZ ∧
      (fun (E : XK) (S : L2.St) (H : Hp) (Q : VK) => ∀ (A : Around) (outer : List Env) (s : Shared) (H0 : Hp) (f c' : Addr), CtxOk W (fun cls d _ H => E cls d H) n (lamCx X A outer s H0 E scope f c') → wE (lamCx X A outer s H0 E scope f c') body S H Q)
        (fun cls d H' => (∀ b ∈ cellsOf X, H' b = none) → E cls d (refrz HZ H' (cellsOf X))) S (NT.thaw HZ (cellsOf X)) fun v H' => (∀ b ∈ cellsOf X, H' b = none) → Q v (refrz HZ H' (cellsOf X))
    have he : ∀ (s : Shared) (H : Hp) (Cc : Addr) (cl : List (Str × Addr)) (fp : List Addr), PE (Y.blk s H D.scC (compEnvC D.scC cl Cc Y.env) fp) (.Call (.Name D.got D.p1) [.Name D.ask D.p2] [] D.p3)
        (fun σ H Q => tVar 1 σ H fun v H1 => ∃ (f c' : Addr) (tl : XK → Hp → VK → Prop), v = .ref f ∧ AC f c' tl ∧ H1 c' = some (CodeO c' W.lq) ∧ TTgot W.K GD.c1 GD.c2 GD.c3 fldR "InvalidText" "line" tl H1 Q) := fun sb Hb Cc cl fp => by
      obtain ⟨V, hV⟩ : ∃ V, V = Y.blk sb Hb D.scC (compEnvC D.scC cl Cc Y.env) fp := ⟨_, rfl⟩
      have hVA : V.A = X.A.deeper (envOfC D.y D.sA s1.heap.objs.size D.gA D.cdv) := by rw [hV, hY]; rfl
      have rV : Room (n + 4) V.A := by rw [hVA]; exact hr'
      have VK' : V.K = W.K := by rw [hV, hY]; exact K.hK
      have Vg : V.mg = W.mg := by rw [hV, hY]; exact K.hg
      have GT : GivesTo V GD.Ng D.got GD.sg GD.g GD.cdvg GD.bg GD.a W.lq (TTgot V.K GD.c1 GD.c2 GD.c3 fldR "InvalidText" "line") := got_gives (k := 0) (rV.mono (show 0 + 3 ≤ n + 4 by omega)) G.st.a1 G.st.a2 G.st.a3 G.st.a4 G.st.a5 G.st.a6 G.st.b1 (by rw [Vg]; exact G.b2) G.st.b3 G.st.b4 (by rw [Vg]; exact G.b5) G.st.b6 G.st.b7 (by rw [Vg]; exact G.b8) G.st.b9
        G.st.d1 (by rw [Vg]; exact G.d2) G.st.d3 (by rw [VK']; exact G.d4) (by rw [VK']; exact G.e1) (by rw [VK']; exact G.e2) G.st.e3 G.st.e4 G.st.e5 G.st.e6 G.st.e7 (G.st.e8 V.K) G.st.e9 G.st.e10
      rw [VK'] at GT
      rw [← hV]
      refine pe_gotv (k := n + 3) AC (by show V.env.scope.names.lookup _ = _; rw [hV, hscV]; exact AS.g) (by rw [Vg]; exact G.f1) (by rw [VK']; exact G.f2) (by rw [VK']; exact G.f3) (by rw [VK']; exact G.f4) (G.st.f5 V.K) G.st.f6 GT rV
        (pe_var (by rw [hV, hY]; rfl) (.inl (by rw [hV, hscV]; exact AS.v1)) AS.d3 AS.d4) rfl (fun f c' tl ac s H hrm Wz pn xe E p1 p2 tk hW => ?_) G.st.f9
      obtain ⟨k, params, ox, body, scope, dV, hP, rfl⟩ := ac
      obtain ⟨L, hp, hbd⟩ := LP k params ox body scope hP
      have L' : LamS2 X.N X.env.scope scope ox := by rw [TX.N, TX.sc]; exact L
      rw [hV, hY] at tk ⊢
      have act := lm_act (X := X) (σ := S) (CXg := C8.CX0) (Eg := C8.E0) (Ng := GD.Ng) (qg := D.got) (sg := GD.sg) (g := GD.g) (f := f) (c' := c') (cdg := GD.cdvg) (dV := dV) (params := params) (ox := ox) (body := body) (scope := scope) (k := n) (i := 0) (a := GD.a) (q := W.lq) (pn := pn) (xe := xe) (W := Wz) (E := E)
        (tb := fun (E : XK) (S : L2.St) (H : Hp) (Q : VK) => ∀ (A : Around) (outer : List Env) (s : Shared) (H0 : Hp) (f c' : Addr), CtxOk W (fun cls d _ H => E cls d H) n (lamCx X A outer s H0 E scope f c') → wE (lamCx X A outer s H0 E scope f c') body S H Q)
        (p1 := p1) (p2 := p2) (s := s) (H := H) L' hp TX.lq TX.nd tk hW ((hrm.mono (show n + 1 ≤ n + 3 by omega)) |> fun z => by rw [hV, hY] at z; exact z) (fun A outer s H E hr2 => ⟨fun pins s' σ' H' Q' I q => q A outer s H f c' ⟨K.hP, K.hw, K.hK, K.hg, K.hb, rfl, hr2, takes_of rfl rfl rfl rfl, K.nd⟩ pins s' I⟩) G.st.f7 G.st.f8 G.st.f10 G.st.f11
      refine pe_imp act fun σ1 HZ Q1 ⟨z1, z2, z3, z4, z5, z6⟩ => ⟨z1, by rw [TX.cells]; exact z3, z2, z4, z5, z6⟩
    have hlc := snd_lcX (pos := D.p6) (iit := .itv (.var 0)) (icond := .tv (.cst (.bl true))) (ielt := .call 0 (.cons (.var 1) .nil)) (C := orcE C cat fun k => C.lam k σ) (is := [1]) (iter := .Name D.as_ D.p5) KY ok (by simp)
      (sndI_itv (tg := .Name D.ask D.p4) KY (snd_var (i := 0) (pos := D.p5) (by rw [hY]; rfl) (by rw [hY]; exact AS.v0) AS.d1 AS.d2)) tgt (fun s H Cc cl fp => pts_nil)
      (fun c S σ Q sim l e => e.here sim rfl) he { c1 with H := Hf } (fun c' S' σ' Q' x0 sim' l' e' => ?hte) (fun x => rfl)
    case hte =>
      rw [evE] at e'
      cases hσ : σ'[1]?.getD none with
      | none =>
        unfold M.bind lget at e'
        rw [hσ] at e'
        exact e'.elim
      | some a' =>
        unfold M.bind lget at e'
        rw [hσ] at e'
        replace e' : End W WF S' c' (Rep W) Q' (gotF cat (fun k => C.lam k σ) a' c'.h) := e'
        obtain ⟨v', hv', rv'⟩ := l'.2 1 a' (lget_some hσ)
        refine ⟨v', hv', ?_⟩
        cases a' with
        | fn k => ?_
        | _ => exact e'.elim
        cases rv' with
        | @fn pf c0 _ params ox body scope dV hP n1 n2 f1 f2 f3 =>
        replace e' : End W WF S' c' (Rep W) Q' (gotO cat (C.lam k σ c'.h)) := e'
        refine ⟨pf, c0, _, rfl, ⟨k, params, ox, body, scope, dV, hP, rfl⟩, f2, ?_⟩
        obtain ⟨L, hp, hbd⟩ := LP k params ox body scope hP
        have keepC : ∀ b ∈ cs, ∀ ob, Hf b = some (.frz ob cellU) → c'.H b = some (.frz ob cellU) := fun b hb ob h => x0.keep b _ h (fun lv => (sim2.tl b lv _ h).2.2 _ _ rfl) (fun _ z => by cases z)
        have cold' : Cold c'.H (cellsOf X) := fun b hb => by
          rw [← hcs] at hb
          obtain ⟨ob, h⟩ := cold b hb
          exact ⟨ob, keepC b hb ob h⟩
        have inn : ∀ {x c}, X.env.cells.lookup x = some c → c ∈ cs := fun {x c} e => by rw [hcs]; exact List.mem_map.mpr ⟨(x, c), PySem.mem_of_lookup e, rfl⟩
        have R' : Ready X S c'.H := ⟨R0.ok, R0.len, fun x c e => by
          obtain ⟨o, v, h1, h2⟩ := R0.cel x c e
          exact ⟨o, v, keepC c (inn e) o h1, h2⟩, fun i y v h1 h2 h3 => by
          obtain ⟨c, o, u, g1, g2, g3, g4⟩ := R0.val i y v h1 h2 h3
          exact ⟨c, o, u, g1, keepC c (inn g1) o g2, g3, g4⟩⟩
        refine ⟨f1, ?_, R', ?_⟩
        · cases ox with
          | none => exact f3
          | some x => obtain ⟨T, t1, _, t3⟩ := f3; exact ⟨T, t1, t3⟩
        · intro A outer s H0 f c2 KL
          have e2 : End W WF S' c' (Rep W) Q' (match C.lam k σ c'.h with
              | .ok v h' => .ok (.tup [.str "", v]) h'
              | .exc c ks vs h' => M.of (gotV cat c ks vs) h'
              | .bad => .bad) := by
            unfold gotO at e'
            exact e'
          have e3 := End.thaw sim' cold' (got_end G sim' e2)
          have lT : LocR W ⟨c'.ρ, c'.h, NT.thaw c'.H (cellsOf X), c'.x⟩ S σ := by
            have l2 : LocR W c' S σ := ((l.to (x1.trans x2)).to0 x0)
            exact ⟨l2.1, fun i a h => let ⟨v, h1, h2⟩ := l2.2 i a h; ⟨v, h1, Rep.thaw cold' a v h2⟩⟩
          have q := hbd X TX A outer s H0 _ f c2 KL ⟨c'.ρ, c'.h, NT.thaw c'.H (cellsOf X), c'.x⟩ S σ (fun v H' => (∀ b ∈ cellsOf X, H' b = none) → [V.str "", v].length ≤ sizeLine ∧ ∀ p, refrz c'.H H' (cellsOf X) p = none → Q' (.ref p) (upd (refrz c'.H H' (cellsOf X)) p (.tup [.str "", v]))) (Sim.thaw sim' cold') lT (by
            cases ho : C.lam k σ c'.h with
            | bad => rw [ho] at e3; exact e3
            | ok a h' => rw [ho] at e3; exact e3
            | exc k' ks vs h' => rw [ho] at e3; exact e3)
          exact q
    have hfn : ∀ a h k ks vs h', (fun y => noexc (M.bind (gotF cat (fun k => C.lam k σ) y) fun z => M.pure (some z))) a h ≠ .exc k ks vs h' := fun a h k ks vs h' => noexc_not
    have fin : End W WF (L2.start [D.as_, D.ask] [v]) { c1 with H := Hf } (Rep W) (fun v H2 => Q v (NT.thaw H2 cs)) (ev (orcE C cat fun k => C.lam k σ) [some (.lst xs), none] (.lc [1] [1] (.itv (.var 0)) (.tv (.cst (.bl true))) (.call 0 (.cons (.var 1) .nil))) c1.h) := by
      rw [gallE]
      have conv : ∀ {ρ' : List Addr} {h' : AHeap} {H' : Hp}, Sim W ⟨ρ', h', H', c1.x⟩ → Ext { c1 with H := Hf } ⟨ρ', h', H', c1.x⟩ → Cold H' cs ∧ Ext c1 ⟨ρ', h', NT.thaw H' cs, c1.x⟩ := fun {ρ' h' H'} s' x' => by
        have cd : Cold H' cs := fun b hb => by
          obtain ⟨ob, h⟩ := cold b hb
          exact ⟨ob, x'.keep b _ h (fun lv => (sim2.tl b lv _ h).2.2 _ _ rfl) (fun _ z => by cases z)⟩
        have nin : ∀ b o, c1.H b = some o → b ∉ cs := fun b o e hb => by rw [(hcold b hb).1] at e; cases e
        refine ⟨cd, ⟨x'.pre, fun p o h1 h2 h3 => ?_, fun p o h1 h2 h3 => x'.nl p o (gr p o h1) h2 h3⟩, rfl, fun p hp => ?_⟩
        · show NT.thaw H' cs p = _
          rw [thaw_out (nin p o h1)]; exact x'.keep p o (gr p o h1) h2 h3
        · obtain ⟨o, ho⟩ := Option.ne_none_iff_exists'.mp (sm.bz p hp).1
          show NT.thaw H' cs p = _
          rw [thaw_out (nin p o ho)]
          exact (x'.busy p hp).trans ((gr p o ho).trans ho.symm)
      cases ho : M.bind (lcL (fun y => noexc (M.bind (gotF cat (fun k => C.lam k σ) y) fun z => M.pure (some z))) xs) (fun ys => ok1 (decide (ys.length ≤ line)) (AV.lst ys)) c1.h with
      | bad => rw [ho] at e1; exact e1
      | ok a h' =>
        rw [ho] at e1
        intro ρ' H' b s' x' r
        obtain ⟨cd, x2'⟩ := conv s' x'
        exact e1 ρ' _ b (Sim.thaw s' cd) x2' (Rep.thaw cd _ _ r)
      | exc k ks vs h' =>
        exfalso
        unfold M.bind at ho
        cases hz : lcL (fun y => noexc (M.bind (gotF cat (fun k => C.lam k σ) y) fun z => M.pure (some z))) xs c1.h with
        | exc _ _ _ _ => exact absurd hz (lcL_not hfn _ _ _ _ _ _)
        | bad => unfold M.bind at hz; rw [hz] at ho; cases ho
        | ok ys h2 =>
          unfold M.bind at hz
          rw [hz] at ho
          replace ho : ok1 (decide (ys.length ≤ line)) (AV.lst ys) h2 = .exc k ks vs h' := ho
          unfold ok1 at ho
          split at ho <;> cases ho
    have hq := hlc (L2.start [D.as_, D.ask] [v]) [some (.lst xs), none] (fun v H2 => Q v (NT.thaw H2 cs)) sim2 ?lr fin
    case lr =>
      refine ⟨rfl, fun i a e => ?_⟩
      match i, e with
      | 0, e =>
        cases e
        exact ⟨v, rfl, rx.to x2⟩
      | 1, e => cases e
      | i + 2, e => cases e
    rw [← hY]
    refine ⟨_, pss_one (ps_ret (pe_lc KY.calm KY.nd pi_w ok tgt (fun s H Cc cl fp => pts_nil) he (fun x => rfl))), ?_⟩
    exact hq
  refine wpAny_call (codeAny_mono rc fun r s2 hq => ?_)
  cases r with
  | error e => exact (show False from hq).elim
  | ok fl =>
    cases fl with
    | ret u2 =>
      refine I1.after ?_
      obtain ⟨v2, H2, os, bare, un, hok, r2, q2⟩ := hq
      have cold2 : Cold H2 cs := fun b hb => by
        obtain ⟨ob, h⟩ := cold b hb
        exact ⟨ob, un.frzs b ob cellU h⟩
      subst hHf
      exact ⟨v2, NT.thaw H2 cs, os, bare, NT.Un.froze un hok hcold hfrs, NT.HOk.thaw hok cold2, r2, q2⟩
    | next => exact False.elim hq
    | brk => exact False.elim hq
    | cont => exact False.elim hq
end
end NT
set_option linter.all false
set_option maxRecDepth 100000
set_option autoImplicit false
namespace NT
open PySem
/-- an exception class: its number, how many parameters, the attributes, the text, from which parameters -/
structure ExI where
  c : Nat
  np : Nat
  ks : List Nat
  txt : Str
  ix : List Nat
/-- what is known of the module -/
structure GCtx where
  cons : List (Str × AV)
  fns : List (Str × Nat)
  cls : List (Str × Nat)
  free : List Str
  mu : List (Nat × Nat)
  exc : List (Str × ExI)
  got : List (Str × List Nat)
  nms : List Str
  stat : List (Nat × List (Str × Nat))
  pats : List (Nat × Pat)
  cpats : List (Nat × Pat)
  init : List (Nat × Nat)
  ko : List Nat
  pur : List (Nat × Nat)
  lamN : List ((Nat × Nat) × Nat)
  all : List (Str × List Nat)
/-- what is known of a text where it stands -/
structure SCtx where
  N : List Str
  sc : Scope
  st : List (Str × NameKind)
  lam : Bool
  top : Bool
  g : GCtx
def idxOf (x : Str) : List Str → Nat → Option Nat
  | [], _ => none
  | y :: r, i => if x = y then some i else idxOf x r (i + 1)
def isVis (c : SCtx) (x : Str) : Bool := match c.sc.names.lookup x with
  | some .local => true
  | some .cell => true
  | some .free => true
  | _ => false
def isGl (c : SCtx) (x : Str) : Bool := match c.sc.names.lookup x with
  | some .globalImplicit => true
  | _ => false
def canSt (c : SCtx) (x : Str) : Bool := match c.st.lookup x with
  | some .local => true
  | some .cell => true
  | _ => false
def isLoc (c : SCtx) (x : Str) : Bool := match c.sc.names.lookup x with
  | some .local => true
  | _ => false
def dbg (x : Str) : Bool := x == ("__debug__" : Str) || x == ("__classdict__" : Str) || x == ("__name__" : Str)
def spW (sp : Str) : Nat := if sp == (">3" : Str) then 3 else 8
def bOf (x : Str) : Option B := [B.len, .abs, .int, .bool, .str, .isinstance, .all, .any, .sum, .max, .min, .list, .tuple, .sorted, .repr, .type].find? fun b => x == bN b
def bmOf (x : Str) : Option BM := [BM.join, .append, .rjust, .clear].find? fun b => x == bmN b
def tyOf (x : Str) : Option String := if x = "int" then some "int" else if x = "bool" then some "bool" else if x = "str" then some "str" else if x = "list" then some "list" else if x = "tuple" then some "tuple" else none
def stB : Expr → Bool
  | .Starred _ _ => true
  | _ => false
def st1B : List Expr → Bool
  | e :: _ => stB e
  | [] => false
def slB : Expr → Bool
  | .Slice _ _ _ _ => true
  | _ => false
def lcB : Expr → Bool
  | .ListComp _ _ _ _ => true
  | .SetComp _ _ _ _ => true
  | .DictComp _ _ _ _ _ => true
  | _ => false
def setB : Expr → Bool
  | .Set _ _ _ => true
  | _ => false
def superB : Expr → Bool
  | .Call (.Name _ _) [] [] _ => true
  | _ => false
/-- what is tested by its value's truth -/
def tvB : Expr → Bool
  | .Name _ _ => true
  | .Call _ _ _ _ => true
  | .Attribute _ _ _ => true
  | .Subscript _ _ _ => true
  | .Constant _ _ _ => true
  | _ => false
def ownOf (N : List Str) (scope : Scope) : List (Str × Nat) := scope.names.filterMap fun y => match y.2 with
  | .local => (idxOf y.1 N 0).map fun i => (y.1, i)
  | .cell => (idxOf y.1 N 0).map fun i => (y.1, i)
  | _ => none
def place (c : SCtx) (x : Str) : Option Nat := if canSt c x then idxOf x c.N 0 else none
def nameP (c : SCtx) : Expr → Option Nat
  | .Name x _ => place c x
  | _ => none
def namesP (c : SCtx) : List Expr → Option (List Nat)
  | [] => some []
  | e :: es => match nameP c e, namesP c es with
    | some i, some is => some (i :: is)
    | _, _ => none
/-- `i, (a, b, ..)` -/
def nestP (c : SCtx) : List Expr → Option (List Nat)
  | [.Name x p, .Tuple es _ _] => match namesP c [.Name x p], namesP c es with
    | some [i], some (a :: b :: js) => some (i :: i :: a :: b :: js)
    | _, _ => none
  | _ => none
/-- a target of names -/
def tgtP (c : SCtx) : Expr → Option (List Nat)
  | .Name x _ => (place c x).map fun i => [i]
  | .Tuple es _ _ => match namesP c es with
    | some is => if is.length = 1 || nestB is then none else some is
    | none => nestP c es
  | _ => none
def blkCtx (c : SCtx) (scope : Scope) : SCtx := { c with sc := L2.relS scope c.sc, st := scope.names, lam := false, top := false }
def lamCtx (c : SCtx) (scope : Scope) : SCtx := { c with sc := scope, st := [], lam := false, top := false }
def patOf (l : List (Nat × Pat)) (f np : Nat) (kws : List Keyword) : Option Pat := (l.find? fun p => p.1 == f && p.2.np == np && p.2.ks.map some == kws.map (·.arg)).map (·.2)
/-- a static method of a class -/
def statQ (c : SCtx) (o : Expr) (m : Str) : Option (Nat × Nat) := match o with
  | .Name x _ => if dbg x || !isGl c x then none else (c.g.cls.lookup x).bind fun k => (c.g.stat.lookup k).bind fun l => (l.lookup m).map fun f => (k, f)
  | _ => none
/-- the targets' places of further clauses -/
def gvs (c : SCtx) : List Comprehension → List Nat
  | [] => []
  | g :: r => (tgtP c g.target).getD [] ++ gvs c r
def lamPsQ : Arguments → Option (Option Str)
  | ⟨[], [], none, [], [], none, []⟩ => some none
  | ⟨[], [⟨x, none, _⟩], none, [], [], none, [.Constant (.int 0) _ _]⟩ => some (some x)
  | _ => none
theorem lamPs_of {ps : Arguments} {ox : Option Str} (h : lamPsQ ps = some ox) : LamPs ps ox := by
  unfold lamPsQ at h
  split at h
  · cases h; exact .no
  · cases h; exact .one _ _ _ _
  · cases h
mutual
def cE : Nat → SCtx → Expr → Option E
  | 0, _, _ => none
  | n + 1, c, e => match e with
    | .Constant (.int i) _ _ => some (.cst (.int i))
    | .Constant (.bool b) _ _ => some (.cst (.bl b))
    | .Constant .none _ _ => some (.cst .non)
    | .Constant (.str s) _ _ => some (.cst (.str s))
    | .Name x _ => if dbg x then none else if isVis c x then (idxOf x c.N 0).map .var else if isGl c x then (match c.g.cons.lookup x with
        | some v => some (.cst v)
        | none => (match c.g.cls.lookup x with
          | some k => some (.cst (.cls k))
          | none => if c.g.free.contains x then (tyOf x).map fun T => .cst (.ty T) else none)) else none
    | .BinOp (.List es _) .Mult b _ => (cA n c es).bind fun es' => (cE n c b).bind fun b' => some (.lrep es' b')
    | .BinOp a op b _ => (cE n c a).bind fun a' => (cE n c b).bind fun b' => some (.bin op a' b')
    | .UnaryOp .USub a _ => (cE n c a).bind fun a' => some (.neg a')
    | .UnaryOp .Not a _ => (cE n c a).bind fun a' => some (.notv a')
    | .BoolOp _ [a] _ => cE n c a
    | .BoolOp .And (a :: b :: r) p => (cE n c a).bind fun a' => (cE n c (.BoolOp .And (b :: r) p)).bind fun b' => some (.and a' b')
    | .BoolOp .Or (a :: b :: r) p => (cE n c a).bind fun a' => (cE n c (.BoolOp .Or (b :: r) p)).bind fun b' => some (.or a' b')
    | .Compare a [op] [b] _ => if setB b then none else (cE n c a).bind fun a' => (cE n c b).bind fun b' => some (.cmp op a' b')
    | .Compare a [op, op'] [b, d] _ => if setB d then none else (cE n c a).bind fun a' => (cE n c b).bind fun b' => (cE n c d).bind fun d' => some (.chn op op' a' b' d')
    | .IfExp t a b _ => (cT n c t).bind fun t' => (cE n c a).bind fun a' => (cE n c b).bind fun b' => some (.ifx t' a' b')
    | .Tuple es _ _ => (cA n c es).bind fun es' => some (.tup es')
    | .List es p => (cA n c es).bind fun es' => some (if c.g.mu.contains (p.line, p.col) then .mlst es' else .lst es')
    | .Subscript a (.Slice (some b) (some d) none _) _ => (cE n c a).bind fun a' => (cE n c b).bind fun b' => (cE n c d).bind fun d' => some (.slc a' b' d')
    | .Subscript a (.Slice (some b) none none _) _ => (cE n c a).bind fun a' => (cE n c b).bind fun b' => some (.slcL a' b')
    | .Subscript a (.Slice none (some b) none _) _ => (cE n c a).bind fun a' => (cE n c b).bind fun b' => some (.slcH a' b')
    | .Subscript a b _ => if slB b then none else (cE n c a).bind fun a' => (cE n c b).bind fun b' => some (.sub a' b')
    | .Attribute o f _ => if superB o then none else (idxOf f c.g.nms 0).bind fun i => (cE n c o).bind fun o' => some (.attr o' i)
    | .JoinedStr [a] _ => cE n c a
    | .JoinedStr (a :: b :: r) _ => (cJ n c (a :: b :: r)).bind fun es => some (.fst es)
    | .FormattedValue a k (some (.JoinedStr [.Constant (.str sp) _ _] _)) _ => if k = -1 && specB sp (spW sp) then (cE n c a).bind fun a' => some (.fms (spW sp) a') else none
    | .FormattedValue a k none _ => if k = -1 then (cE n c a).bind fun a' => some (.fmt a') else none
    | .Call (.Name x _) args kws p => if c.g.pur.contains (p.line, p.col) then (match kws, c.g.fns.lookup x with
        | [], some f => if dbg x || !isGl c x || st1B args || c.g.ko.contains f then none else (cA n c args).bind fun as => some (.pcall f as)
        | _, _ => none) else cN n c x args kws
    | .Call (.Attribute o m ap) args kws p => cM n c o m ap args kws p
    | .ListComp elt [⟨tg, iter, ifs, 0⟩] scope p => if c.g.mu.contains (p.line, p.col) then cL n c elt [⟨tg, iter, ifs, 0⟩] scope true else match tgtP (blkCtx c scope) tg with
        | some is => if L2.blkC c.N c.sc scope (ownOf c.N scope) && is.all (fun i => ((ownOf c.N scope).map (·.2)).contains i) && !setB iter then
            (cI n c tg iter).bind fun it => (cC n (blkCtx c scope) ifs).bind fun cond => (cE n (blkCtx c scope) elt).bind fun el => some (.lc is ((ownOf c.N scope).map (·.2)) it cond el) else none
        | none => none
    | .ListComp elt gens scope p => cL n c elt gens scope (c.g.mu.contains (p.line, p.col))
    | .Lambda ps body scope p => (match lamPsQ ps, c.g.lamN.lookup (p.line, p.col) with
      | some ox, some k => if c.top && lamS2B c.N c.sc scope ox then (cE n (lamCtx c scope) body).bind fun b => some (.lamv k b) else none
      | _, _ => none)
    | _ => none
/-- a comprehension of any number of clauses -/
def cL : Nat → SCtx → Expr → List Comprehension → Scope → Bool → Option E
  | 0, _, _, _, _, _ => none
  | n + 1, c, elt, ⟨tg, iter, ifs, ia⟩ :: r, scope, m => if ia ≠ 0 then none else match tgtP (blkCtx c scope) tg with
    | some is => if L2.blkC c.N c.sc scope (ownOf c.N scope) && is.all (fun i => ((ownOf c.N scope).map (·.2)).contains i) && (gvs (blkCtx c scope) r).all (fun i => ((ownOf c.N scope).map (·.2)).contains i) && !setB iter then
        (cI n c tg iter).bind fun it => (cC n (blkCtx c scope) ifs).bind fun cond => (cG n (blkCtx c scope) elt r).bind fun b => some (.lcg m is ((ownOf c.N scope).map (·.2)) it cond b) else none
    | none => none
  | _ + 1, _, _, [], _, _ => none
/-- further clauses -/
def cG : Nat → SCtx → Expr → List Comprehension → Option E
  | 0, _, _, _ => none
  | n + 1, c, elt, [] => (cE n c elt).bind fun e' => some (.gel e')
  | n + 1, c, elt, ⟨tg, iter, ifs, ia⟩ :: r => if ia ≠ 0 then none else match tgtP c tg with
    | some is => if setB iter then none else (cI n c tg iter).bind fun it => (cC n c ifs).bind fun cond => (cG n c elt r).bind fun b => some (.gen is (is ++ gvs c r) it cond b)
    | none => none
/-- x(..) -/
def cN : Nat → SCtx → Str → List Expr → List Keyword → Option E
  | 0, _, _, _, _ => none
  | n + 1, c, x, args, kws => if dbg x || !isGl c x then none else match c.g.got.lookup x with
    | some cat => (match args, kws with
      | [.Lambda ⟨[], [], none, [], [], none, []⟩ body scope _], [] => if c.lam && LamX.lamSB c.sc scope then (cE n (lamCtx c scope) body).bind fun b => some (.got cat b) else none
      | _, _ => none)
    | none => match c.g.all.lookup x with
    | some cat => (match args, kws with
      | [a], [] => if c.top && !stB0 a then (cE n c a).bind fun a' => some (.gall cat a') else none
      | _, _ => none)
    | none => match c.g.fns.lookup x with
      | some f => (match patOf c.g.pats f args.length kws with
        | some pat => if args.any stB then none else (cA n c args).bind fun as => (cK n c kws).bind fun ks => some (.call f (.arr pat.ix as ks))
        | none => (match args, kws with
          | [.Starred a _], [] => if c.g.ko.contains f then none else (cE n c a).bind fun a' => some (.call f (.star a' .nil))
          | args, [] => if st1B args || c.g.ko.contains f then none else (cA n c args).bind fun as => some (.call f as)
          | _, _ => none))
      | none => match c.g.cls.lookup x with
        | some k => (match c.g.init.lookup k with
          | some i => (match patOf c.g.cpats k args.length kws with
            | some pat => if args.any stB then none else (cA n c args).bind fun as => (cK n c kws).bind fun ks => some (.new k (.arr pat.ix as ks))
            | none => (match kws with
              | [] => if st1B args || c.g.ko.contains i then none else (cA n c args).bind fun as => some (.new k as)
              | _ => none))
          | none => none)
        | none => match args, kws, bOf x with
          | a :: es, [], some b => if c.g.free.contains x && !(a :: es).any stB then (cA n c (a :: es)).bind fun as => some (.blt b as) else none
          | _, _, _ => none
/-- o.m(..) -/
def cM : Nat → SCtx → Expr → Str → Pos → List Expr → List Keyword → Pos → Option E
  | 0, _, _, _, _, _, _, _ => none
  | n + 1, c, o, m, ap, args, kws, p => if superB o || args.any stB || !decide (args.length + kws.length < 29) || !(ap.endLine == p.line) then none else match statQ c o m with
    | some (_, f) => (match patOf c.g.pats f args.length kws with
      | some pat => (cA n c args).bind fun as => (cK n c kws).bind fun ks => some (.call f (.arr pat.ix as ks))
      | none => (match kws with
        | [] => if c.g.ko.contains f then none else (cA n c args).bind fun as => some (.call f as)
        | _ => none))
    | none => (match kws with
      | [] => (match bmOf m, args with
        | some b, a :: es => (cE n c o).bind fun o' => (cA n c (a :: es)).bind fun as => some (.bm b o' as)
        | some b, [] => (cE n c o).bind fun o' => some (.bm b o' .nil)
        | none, args => (idxOf m c.g.nms 0).bind fun i => (cE n c o).bind fun o' => (cA n c args).bind fun as => some (.meth o' i as))
      | _ => none)
def cT : Nat → SCtx → Expr → Option E
  | 0, _, _ => none
  | n + 1, c, e => match e with
    | .UnaryOp .Not a _ => (cT n c a).bind fun a' => some (.not a')
    | .BoolOp _ [a] _ => cT n c a
    | .BoolOp .And (a :: b :: r) p => (cT n c a).bind fun a' => (cT n c (.BoolOp .And (b :: r) p)).bind fun b' => some (.and a' b')
    | .BoolOp .Or (a :: b :: r) p => (cT n c a).bind fun a' => (cT n c (.BoolOp .Or (b :: r) p)).bind fun b' => some (.or a' b')
    | .Compare a [op] [b] _ => if setB b then none else (cE n c a).bind fun a' => (cE n c b).bind fun b' => some (.cmp op a' b')
    | .Compare a [op, op'] [b, d] _ => if setB d then none else (cE n c a).bind fun a' => (cE n c b).bind fun b' => (cE n c d).bind fun d' => some (.chn op op' a' b' d')
    | e => if tvB e then (cE n c e).bind fun e' => some (.tv e') else none
def cA : Nat → SCtx → List Expr → Option E
  | 0, _, _ => none
  | _ + 1, _, [] => some .nil
  | n + 1, c, .Starred a _ :: es => (cE n c a).bind fun a' => (cA n c es).bind fun es' => some (.star a' es')
  | n + 1, c, a :: es => (cE n c a).bind fun a' => (cA n c es).bind fun es' => some (.cons a' es')
def cJ : Nat → SCtx → List Expr → Option E
  | 0, _, _ => none
  | _ + 1, _, [] => some .nil
  | n + 1, c, a :: es => (cE n c a).bind fun a' => (cJ n c es).bind fun es' => some (.cons a' es')
def cK : Nat → SCtx → List Keyword → Option E
  | 0, _, _ => none
  | _ + 1, _, [] => some .nil
  | n + 1, c, ⟨_, a, _⟩ :: es => (cE n c a).bind fun a' => (cK n c es).bind fun es' => some (.cons a' es')
def cI : Nat → SCtx → Expr → Expr → Option E
  | 0, _, _, _ => none
  | n + 1, c, tg, e => match e with
    | .Call (.Name x _) [a] [] _ =>
        if x = "range" then (if isGl c x && c.g.free.contains x && !stB a then (cE n c a).bind fun a' => some (.rng (.cst (.int 0)) a') else none)
        else if x = "enumerate" then (match tg with
          | .Tuple _ _ _ => if isGl c x && c.g.free.contains x && !stB a then (cE n c a).bind fun a' => some (.enm a') else none
          | _ => none)
        else (cE n c e).bind fun e' => some (.itv e')
    | .Call (.Name x _) [a, b] [] _ =>
        if x = "range" then (if isGl c x && c.g.free.contains x && !stB a && !stB b then (cE n c a).bind fun a' => (cE n c b).bind fun b' => some (.rng a' b') else none)
        else if x = "zip" then (match tg with
          | .Tuple _ _ _ => if isGl c x && c.g.free.contains x && !stB a && !stB b then (cE n c a).bind fun a' => (cE n c b).bind fun b' => some (.zip a' b') else none
          | _ => none)
        else (cE n c e).bind fun e' => some (.itv e')
    | _ => (cE n c e).bind fun e' => some (.itv e')
def cC : Nat → SCtx → List Expr → Option E
  | 0, _, _ => none
  | _ + 1, _, [] => some (.tv (.cst (.bl true)))
  | n + 1, c, [t] => cT n c t
  | _, _, _ => none
end
/-- a, b = x, y is stored from the right -/
def swapB (c : SCtx) (ts vs : List Expr) : Bool :=
  (ts.length == 2 || ts.length == 3) && vs.length == ts.length && !vs.any stB && ts.all (fun | .Name x p => isLoc c x && p.line == ((ts.head?.map (·.pos.line)).getD 0) | _ => false)
/-- a, b = x, y is stored from the left, out of a tuple -/
def noSwap (c : SCtx) (ts vs : List Expr) : Bool :=
  !(ts.length == 2 || ts.length == 3) || vs.length != ts.length || vs.any stB || ts.any (fun | .Name x p => !isLoc c x | _ => true) || vs.all (foldedForSure 8)
def stdB (c : SCtx) : Bool := match c.sc.kind with
  | .function => true
  | _ => false
mutual
def cS : Nat → SCtx → Stmt → Option S
  | 0, _, _ => none
  | n + 1, c, s => match s with
    | .Pass _ => some .skip
    | .Break _ => some .brk
    | .Continue _ => some .cnt
    | .Expr (.Constant (.str _) _ _) _ => some .skip
    | .Expr e _ => if lcB e then none else (cE n c e).bind fun e' => some (.expr e')
    | .Return (some e) _ => (cE n c e).bind fun e' => some (.ret e')
    | .Return none _ => some (.ret (.cst .non))
    | .Assign [.Name x p] e q => (place c x).bind fun i => if lcB e && isLoc c x then (match e with
          | .ListComp elt gens scope pos => if isLoc c x && p.line == pos.line && !(scope.names.any fun (n, k) => n == x && (k == .local || k == .cell)) && stdB c then (cE n c e).bind fun e' => some (.asg i e') else none
          | _ => none)
        else (cE n c e).bind fun e' => some (.asg i e')
    | .Assign [.Tuple ts kt pt] (.Tuple vs k2 p2) q => if noSwap c ts vs then (tgtP c (.Tuple ts kt pt)).bind fun is => (cE n c (.Tuple vs k2 p2)).bind fun e' => some (.unp is e')
        else if swapB c ts vs then
          (if vs.all (foldedForSure 8) || vs.all (constantsAlone 8) || !stdB c then none else match namesP c ts with
            | some is => if is.Nodup then (cA n c vs).bind fun vs' => some (.par is vs') else none
            | none => none)
        else none
    | .Assign [.Tuple ts kt pt] e q => match e with
        | .Tuple _ _ _ => none
        | e => (tgtP c (.Tuple ts kt pt)).bind fun is => (cE n c e).bind fun e' => some (.unp is e')
    | .Assign [.Subscript o i p] e q => if slB i then none else (cE n c o).bind fun o' => (cE n c i).bind fun i' => (cE n c e).bind fun e' => some (.setSub o' i' e')
    | .Assign [.Attribute o f p] e q => (idxOf f c.g.nms 0).bind fun i => (cE n c o).bind fun o' => (cE n c e).bind fun e' => some (.setFld o' i e')
    | .Raise (some (.Call (.Name x _) args [] _)) none _ => if dbg x || !isGl c x || args.any stB then none else (c.g.exc.lookup x).bind fun ei => (cA n c args).bind fun as => some (.raise ei.c ei.np ei.ks ei.txt ei.ix as)
    | .AugAssign (.Name x _) op e _ => (place c x).bind fun i => (cE n c e).bind fun e' => some (.aug i op e')
    | .If t a b _ => (cT n c t).bind fun t' => (cSs n c a).bind fun a' => (cSs n c b).bind fun b' => some (.ife t' a' b')
    | .For tg it b [] _ => if setB it then none else (tgtP c tg).bind fun is => (cI n c tg it).bind fun it' => (cSs n c b).bind fun b' => some (.for_ is it' b')
    | .While t b [] _ => (cT n c t).bind fun t' => (cSs n c b).bind fun b' => some (.whl t' b')
    | _ => none
def cSs : Nat → SCtx → List Stmt → Option S
  | 0, _, _ => none
  | _ + 1, _, [] => some .skip
  | n + 1, c, s :: ss => (cS n c s).bind fun s' => (cSs n c ss).bind fun ss' => some (.seq s' ss')
end
end NT
set_option linter.all false
set_option maxRecDepth 100000
set_option autoImplicit false
namespace NT
open PySem PySem.Spec PyProof.Rows L2
/-- the module's names -/
structure TopOk (W : Wd) (ct : CT) (g : GCtx) : Prop where
  con : ∀ x v, g.cons.lookup x = some v → ∃ u vv, W.mg x = some u ∧ RelV vv u ∧ ∀ c, Rep W c vv v
  fn : ∀ x f, g.fns.lookup x = some f → W.mg x = some (.ref (W.fnA f)) ∧ PySem.W.keepIn W.K (.ref (W.fnA f)) = true
  no : ∀ x, x ∈ g.free → W.mg x = none
  cls : ∀ x k, g.cls.lookup x = some k → W.mg x = some (.ref (W.clsA k))
  nms : ∀ i x, g.nms[i]? = some x → W.nm i = x
  exc : ∀ x ei, g.exc.lookup x = some ei → ∃ fI ps' fi, ExcOk W.P W.K (W.clsA ei.c) fI ei.txt ps' fi ∧ ei.np = ps'.length ∧ ei.ix = fi.map (·.2) ∧ ei.ks.map W.nm = ("code" : Str) :: fi.map (·.1) ∧ ps'.length ≤ 1000 ∧ W.mg x = some (.ref (W.clsA ei.c)) ∧ W.mg "super" = none
  got : ∀ x cat, g.got.lookup x = some cat → GotOk W cat x
  all : ∀ x cat, g.all.lookup x = some cat → AllOk W cat x
  stat : ∀ k l m f, g.stat.lookup k = some l → l.lookup m = some f → StM W.K (W.clsA k) m (W.fnA f)
  pats : ∀ p ∈ g.pats, p ∈ ct.pats
  cpats : ∀ k pat, (k, pat) ∈ g.cpats → ∃ i, ct.init.lookup k = some i ∧ (i, pat.self) ∈ ct.pats
  init : ∀ k i, g.init.lookup k = some i → ct.init.lookup k = some i
  ko : g.ko = ct.ko
structure StatOk (X : Cx) (c : SCtx) : Prop where
  hN : X.N = c.N
  hsc : X.env.scope = c.sc
  hst : ∀ x, canSt c x = true → L2.Loc X.env.scope x ∧ (X.fn x = true ∨ X.env.scope.names.lookup x = some .local)
theorem idxOf_get {x : Str} : ∀ {N : List Str} {i j : Nat}, idxOf x N i = some j → ∃ k, j = i + k ∧ N[k]? = some x
  | [], _, _, h => by cases h
  | y :: r, i, j, h => by
    unfold idxOf at h
    split at h
    · rename_i e
      cases h
      exact ⟨0, rfl, by rw [e]; rfl⟩
    · obtain ⟨k, h1, h2⟩ := idxOf_get h
      exact ⟨k + 1, by omega, h2⟩
theorem idx_N {X : Cx} {c : SCtx} (st : StatOk X c) {x : Str} {i : Nat} (h : idxOf x c.N 0 = some i) : X.N[i]? = some x := by
  obtain ⟨k, h1, h2⟩ := idxOf_get h
  rw [st.hN, h1, Nat.zero_add]; exact h2
theorem vis_of {X : Cx} {c : SCtx} (st : StatOk X c) {x : Str} (h : isVis c x = true) : Vis X.env.scope x := by
  unfold isVis at h
  unfold Vis
  rw [st.hsc]
  split at h <;> first | exact .inl (by assumption) | exact .inr (.inl (by assumption)) | exact .inr (.inr (by assumption)) | cases h
theorem gl_of {X : Cx} {c : SCtx} (st : StatOk X c) {x : Str} (h : isGl c x = true) : Gl X x := by
  unfold isGl at h
  show X.env.scope.names.lookup x = _
  rw [st.hsc]
  split at h <;> first | assumption | cases h
theorem loc_of {X : Cx} {c : SCtx} (st : StatOk X c) {x : Str} (h : isLoc c x = true) : X.env.scope.names.lookup x = some .local := by
  unfold isLoc at h
  rw [st.hsc]
  split at h <;> first | assumption | cases h
theorem place_of {X : Cx} {c : SCtx} (st : StatOk X c) {x : Str} {i : Nat} (h : place c x = some i) : X.N[i]? = some x ∧ L2.Loc X.env.scope x ∧ (X.fn x = true ∨ X.env.scope.names.lookup x = some .local) := by
  unfold place at h
  split at h
  · rename_i hc
    exact ⟨idx_N st h, st.hst x hc⟩
  · cases h
theorem dbg_of {x : Str} (h : dbg x = false) : (x == ("__debug__" : Str)) = false ∧ (x == ("__classdict__" : Str)) = false ∧ x ≠ "__name__" := by
  unfold dbg at h
  simp only [Bool.or_eq_false_iff] at h
  exact ⟨h.1.1, h.1.2, fun z => by rw [z] at h; exact absurd h.2 (by decide +kernel)⟩
theorem names_at {X : Cx} {c : SCtx} (st : StatOk X c) : ∀ {es : List Expr} {is : List Nat}, namesP c es = some is → NamesAt X es is
  | [], is, h => by cases h; exact .nil
  | e :: es, is, h => by
    unfold namesP at h
    split at h
    · rename_i i js h1 h2
      cases h
      unfold nameP at h1
      split at h1
      · obtain ⟨g1, g2, g3⟩ := place_of st h1
        exact .cons g1 g2 g3 (names_at st h2)
      · cases h1
    · cases h
theorem tgt_of {X : Cx} {c : SCtx} (st : StatOk X c) {tg : Expr} {is : List Nat} (h : tgtP c tg = some is) : Tgt X tg is := by
  unfold tgtP at h
  split at h
  · rename_i x p
    cases q : place c x with
    | none => rw [q] at h; cases h
    | some i =>
      rw [q] at h
      cases h
      obtain ⟨g1, g2, g3⟩ := place_of st q
      exact .name g1 g2 g3
  · rename_i es k p
    split at h
    · rename_i js q
      split at h
      · cases h
      · rename_i hl
        cases h
        simp only [Bool.or_eq_true, decide_eq_true_eq, not_or, Bool.not_eq_true] at hl
        exact .tup (names_at st q) hl.1 hl.2
    · unfold nestP at h
      split at h
      · split at h
        · rename_i q1 q2
          cases h
          exact .nest (names_at st q1) (names_at st q2)
        · cases h
      · cases h
  · cases h
theorem stB_no {e : Expr} (h : stB e = false) : noStar e := fun x q z => by subst z; cases h
theorem any_no {es : List Expr} (h : es.any stB = false) : ∀ e ∈ es, ∀ x q, e ≠ .Starred x q := fun e he x q z => by
  have := List.any_eq_false.mp h e he
  subst z
  exact this rfl
theorem setB_marks {op : CmpOp} {b : Expr} (h : setB b = false) : behindInMarks op b = false := by
  cases b <;> first | rfl | cases h
theorem setB_fold {b : Expr} {env : Env} (h : setB b = false) : ∀ x, foldedSetIterable b env x = pure x := fun x => by
  cases b <;> first | rfl | cases h
theorem superB_base {o : Expr} {m : Str} {env : Env} (h : superB o = false) : attributeBase o m env (eval o env) = eval o env := by
  cases o with
  | Call f args kws p =>
    cases f <;> cases args <;> cases kws <;> first | rfl | cases h
  | _ => rfl
theorem slB_plain {b : Expr} (h : slB b = false) : PlainIx b := fun o i => by
  cases b <;> first | rfl | cases h
theorem tvB_true {e : Expr} (h : tvB e = true) (env : Env) : ∀ whole, isTrue e env whole = (do let v ← whole; standAt e.pos; holding [v] (truthy v)) := fun whole => by
  cases e <;> first | rfl | cases h
theorem bOf_eq {x : Str} {b : B} (h : bOf x = some b) : x = bN b := by
  have := List.find?_some h
  simpa using this
theorem bmOf_eq {x : Str} {b : BM} (h : bmOf x = some b) : x = bmN b ∧ bmOk b = true := by
  have h1 := List.find?_some h
  have h2 := List.mem_of_find?_eq_some h
  refine ⟨by simpa using h1, ?_⟩
  simp at h2
  rcases h2 with rfl | rfl | rfl | rfl <;> rfl
theorem tyOf_boot {x : Str} {T : String} (h : tyOf x = some T) : bootBuiltins x = some (.type T) := by
  unfold tyOf at h
  split at h
  · rename_i e; cases h; rw [e]; decide +kernel
  · split at h
    · rename_i e; cases h; rw [e]; decide +kernel
    · split at h
      · rename_i e; cases h; rw [e]; decide +kernel
      · split at h
        · rename_i e; cases h; rw [e]; decide +kernel
        · split at h
          · rename_i e; cases h; rw [e]; decide +kernel
          · cases h
theorem blk_stat {X : Cx} {c : SCtx} (st : StatOk X c) (scope : Scope) (s : Shared) (H : Hp) (cl : List (Str × Addr)) (Cc : Addr) (fp : List Addr) : StatOk (X.blk s H scope (compEnvC scope cl Cc X.env) fp) (blkCtx c scope) := by
  have e : (X.blk s H scope (compEnvC scope cl Cc X.env) fp).env.scope = L2.relS scope c.sc := by
    rw [← st.hsc]; rfl
  refine ⟨st.hN, e, fun x h => ?_⟩
  unfold canSt at h
  rw [e]
  have h : (match scope.names.lookup x with | some .local => true | some .cell => true | _ => false) = true := h
  split at h
  · rename_i q
    have z := lookup_relS_keep (sc := c.sc) (k := NameKind.local) (by decide) q
    exact ⟨.inl z, .inr z⟩
  · rename_i q
    have z := lookup_relS_keep (sc := c.sc) (k := NameKind.cell) (by decide) q
    refine ⟨.inr z, .inl ?_⟩
    show (scope.names.lookup x == some .cell) = true
    rw [q]; rfl
  · cases h
theorem blk_ctx {W : Wd} {Wx : WX} {n : Nat} {X : Cx} (K : CtxOk W Wx n X) (scope : Scope) (s : Shared) (H : Hp) (cenv : Env) (fp : List Addr) : CtxOk W WF n (X.blk s H scope cenv fp) :=
  ⟨K.hP, K.hw, K.hK, K.hg, K.hb, K.calm, K.room, takes0, K.nd⟩

def wTs (X : Cx) (ifs : List Expr) : TT := fun σ H Q => ∀ (pins : List (Addr × Obj)) (s : Shared), Inv X pins σ H s →
  wpAny (model X.prog X.w) X.A (forIn ifs true fun c r => if r = true then do let ok ← isTrue c X.env (eval c X.env); pure (ForInStep.yield ok) else pure (ForInStep.yield r)) (TP X pins σ Q) X.xe s
theorem pts_w {X : Cx} {ifs : List Expr} : PTs X ifs (wTs X ifs) := ⟨fun pins s σ H Q I h => h pins s I⟩
theorem wTs_of {X : Cx} {ifs : List Expr} {t : TT} {σ : L2.St} {H : Hp} {Q : Bool → Hp → Prop} (h : PTs X ifs t) (q : t σ H Q) : wTs X ifs σ H Q := fun pins s I => h.run pins s σ H Q I q
def SndC (W : Wd) (Wx : WX) (X : Cx) (C : Orc) (ifs : List Expr) (ir : E) : Prop := ∀ (c : Cf) (S : L2.St) (σ : Loc) (Q : Bool → Hp → Prop), Sim W c → LocR W c S σ → End W Wx S c (fun _ (b k : Bool) => b = k) Q (evT C σ ir c.h) → wTs X ifs S c.H Q
/-- a comprehension's pieces -/
def LcG (W : Wd) (Wx : WX) (X : Cx) (C : Orc) (elt : Expr) (gens : List Comprehension) (scope : Scope) (ir : E) : Prop := ∃ t : TE, (∀ pos, PE X (.ListComp elt gens scope pos) t) ∧
  (∀ (i : Nat) (y : Str) (py pos spos : Pos), X.N[i]? = some y → X.env.scope.names.lookup y = some .local → swapsWith (.ListComp elt gens scope pos) (some (.Name y py)) spos.line X.env = pure true → PS X (.Assign [.Name y py] (.ListComp elt gens scope pos) spos) (tAsg t (gName i))) ∧
  ∀ (c : Cf) (S : L2.St) (σ : Loc) (Q : VK), Sim W c → LocR W c S σ → End W Wx S c (Rep W) Q (ev C σ ir c.h) → t S c.H Q
/-- further clauses are covered -/
def GnG (W : Wd) (X : Cx) (C : Orc) (scope : Scope) (vs : List Nat) (elt : Expr) (gens : List Comprehension) (ir : E) : Prop := ∃ (cs : List Cl) (te : TE), gens = cs.map Cl.gen ∧ SubOk cs ∧ (∀ i ∈ hdvs cs, i ∈ vs) ∧ ClsR W X.K C te cs ir ∧
  (∀ (s : Shared) (H : Hp) (Cc : Addr) (cl : List (Str × Addr)) (fp : List Addr), ∀ c ∈ cs, ClOk (X.blk s H scope (compEnvC scope cl Cc X.env) fp) c) ∧ ∀ (s : Shared) (H : Hp) (Cc : Addr) (cl : List (Str × Addr)) (fp : List Addr), PE (X.blk s H scope (compEnvC scope cl Cc X.env) fp) elt te
/-- where a text stands -/
structure Here (W : Wd) (C : Orc) (g : GCtx) (n0 : Nat) (c : SCtx) (Wx : WX) (X : Cx) : Prop where
  hg : c.g = g
  st : StatOk X c
  ok : ∃ m, n0 + 3 ≤ m ∧ CtxOk W Wx m X ∧ (c.lam = true → n0 + 5 ≤ m ∧ LamAt W X) ∧ (c.top = true → n0 + 5 ≤ m ∧ TopX W X ∧ LamProm W n0 C ∧
    ∀ n k ps ox body scope b, LamS2 c.N c.sc scope ox → LamPs ps ox → cE n (lamCtx c scope) body = some b → C.lamOk k b = true → W.lamP k ps ox body scope)
structure CS (W : Wd) (C : Orc) (n0 : Nat) (g : GCtx) (n : Nat) : Prop where
  e : ∀ (c : SCtx) (Wx : WX) (X : Cx), Here W C g n0 c Wx X → ∀ e ir, cE n c e = some ir → SndE W Wx X C e ir
  t : ∀ (c : SCtx) (Wx : WX) (X : Cx), Here W C g n0 c Wx X → ∀ e ir, cT n c e = some ir → SndT W Wx X C e ir
  a : ∀ (c : SCtx) (Wx : WX) (X : Cx), Here W C g n0 c Wx X → ∀ e ir, cA n c e = some ir → SndA W Wx X C e ir
  j : ∀ (c : SCtx) (Wx : WX) (X : Cx), Here W C g n0 c Wx X → ∀ e ir, cJ n c e = some ir → JL W Wx X C e ir
  k : ∀ (c : SCtx) (Wx : WX) (X : Cx), Here W C g n0 c Wx X → ∀ e ir, cK n c e = some ir → SndK W Wx X C e ir
  i : ∀ (c : SCtx) (Wx : WX) (X : Cx), Here W C g n0 c Wx X → ∀ tg e ir, cI n c tg e = some ir → SndI W Wx X C tg e ir
  c : ∀ (c : SCtx) (Wx : WX) (X : Cx), Here W C g n0 c Wx X → ∀ e ir, cC n c e = some ir → SndC W Wx X C e ir
  cn : ∀ (c : SCtx) (Wx : WX) (X : Cx), Here W C g n0 c Wx X → ∀ x args kws ir, cN n c x args kws = some ir → ∀ p pos, SndE W Wx X C (.Call (.Name x p) args kws pos) ir
  l : ∀ (c : SCtx) (Wx : WX) (X : Cx), Here W C g n0 c Wx X → ∀ elt gens scope m ir, cL n c elt gens scope m = some ir → LcG W Wx X C elt gens scope ir
  gn : ∀ (c : SCtx) (Wx : WX) (X : Cx), Here W C g n0 c Wx X → ∀ scope elt gens ir, cG n (blkCtx c scope) elt gens = some ir → GnG W X C scope (gvs (blkCtx c scope) gens) elt gens ir
  cm : ∀ (c : SCtx) (Wx : WX) (X : Cx), Here W C g n0 c Wx X → ∀ o mm ap args kws p ir, cM n c o mm ap args kws p = some ir → SndE W Wx X C (.Call (.Attribute o mm ap) args kws p) ir
theorem Here.blk {W : Wd} {C : Orc} {g : GCtx} {n0 : Nat} {c : SCtx} {Wx : WX} {X : Cx} (h : Here W C g n0 c Wx X) (scope : Scope) (s : Shared) (H : Hp) (cl : List (Str × Addr)) (Cc : Addr) (fp : List Addr) : Here W C g n0 (blkCtx c scope) WF (X.blk s H scope (compEnvC scope cl Cc X.env) fp) := by
  obtain ⟨m, h1, K, h3⟩ := h.ok
  exact ⟨h.hg, blk_stat h.st scope s H cl Cc fp, m, h1, blk_ctx K scope s H _ fp, fun z => (by cases z), fun z => by cases z⟩
/-! ### lengths -/
theorem cA_len {C : Orc} {n : Nat} {c : SCtx} : ∀ {es : List Expr} {ir : E}, cA n c es = some ir → es.any stB = false → ∀ (σ : Loc) (h h' : AHeap) (xs : List AV), evs C σ ir h = .ok xs h' → xs.length = es.length := by
  induction n with
  | zero => intro es ir h; simp [cA] at h
  | succ n ih =>
    intro es ir h hs σ hh h' xs he
    cases es with
    | nil =>
      simp only [cA] at h
      cases h
      cases he
      rfl
    | cons a es =>
      simp only [List.any_cons, Bool.or_eq_false_iff] at hs
      unfold cA at h
      split at h
      · rename_i q; cases q
      · rename_i q; cases q
      · rename_i q
        cases q
        cases hs.1
      · rename_i hn q
        cases q
        simp only [Option.bind_eq_some_iff, Option.some.injEq] at h
        obtain ⟨a', ha, es', he', rfl⟩ := h
        cases hn
        have he : M.bind (ev C σ a') (fun x => M.bind (evs C σ es') fun xs => M.pure (x :: xs)) hh = .ok xs h' := he
        unfold M.bind at he
        cases q1 : ev C σ a' hh with
        | ok x h1 =>
          rw [q1] at he
          simp only at he
          cases q2 : evs C σ es' h1 with
          | ok ys h2 =>
            rw [q2] at he
            cases he
            simp [ih he' hs.2 σ _ _ _ q2]
          | _ => rw [q2] at he; cases he
        | _ => rw [q1] at he; cases he
theorem cK_len {C : Orc} {n : Nat} {c : SCtx} : ∀ {es : List Keyword} {ir : E}, cK n c es = some ir → ∀ (σ : Loc) (h h' : AHeap) (xs : List AV), evs C σ ir h = .ok xs h' → xs.length = es.length := by
  induction n with
  | zero => intro es ir h; simp [cK] at h
  | succ n ih =>
    intro es ir h σ hh h' xs he
    cases es with
    | nil =>
      simp only [cK] at h
      cases h
      cases he
      rfl
    | cons a es =>
      obtain ⟨an, av, ap⟩ := a
      simp only [cK, Option.bind_eq_some_iff, Option.some.injEq] at h
      obtain ⟨a', ha, es', he', rfl⟩ := h
      have he : M.bind (ev C σ a') (fun x => M.bind (evs C σ es') fun xs => M.pure (x :: xs)) hh = .ok xs h' := he
      unfold M.bind at he
      cases q1 : ev C σ a' hh with
      | ok x h1 =>
        rw [q1] at he
        simp only at he
        cases q2 : evs C σ es' h1 with
        | ok ys h2 =>
          rw [q2] at he
          cases he
          simp [ih he' σ _ _ _ q2]
        | _ => rw [q2] at he; cases he
      | _ => rw [q1] at he; cases he
theorem cA_nil {n : Nat} {c : SCtx} {args : List Expr} {as : E} (h : cA n c args = some as) : args = [] → as = .nil := fun z => by subst z; cases n <;> simp [cA] at h; exact h.symm
theorem cK_nil {n : Nat} {c : SCtx} {args : List Keyword} {as : E} (h : cK n c args = some as) : args = [] → as = .nil := fun z => by subst z; cases n <;> simp [cK] at h; exact h.symm
theorem pat_of {l : List (Nat × Pat)} {f np : Nat} {kws : List Keyword} {pat : Pat} (h : patOf l f np kws = some pat) : (f, pat) ∈ l ∧ pat.np = np ∧ kws.map (·.arg) = pat.ks.map some := by
  unfold patOf at h
  simp only [Option.map_eq_some_iff] at h
  obtain ⟨⟨f', p⟩, h1, rfl⟩ := h
  have h2 := List.mem_of_find?_eq_some h1
  have h3 := List.find?_some h1
  simp only [Bool.and_eq_true, beq_iff_eq] at h3
  obtain ⟨⟨rfl, h4⟩, h5⟩ := h3
  exact ⟨h2, h4, h5.symm⟩
theorem nms_of {l : List Str} {f : Str} {i : Nat} (h : idxOf f l 0 = some i) : l[i]? = some f := by
  obtain ⟨k, h1, h2⟩ := idxOf_get h
  rw [h1, Nat.zero_add]; exact h2
section
variable {W : Wd} {C : Orc} {n0 n : Nat} {g : GCtx} {c : SCtx} {Wx : WX} {X : Cx}
theorem all_mem {own : List Nat} {is : List Nat} (h : is.all (fun i => own.contains i) = true) : ∀ i ∈ is, i ∈ own := fun i hi => by
  have := List.all_eq_true.mp h i hi
  simpa using this
theorem cG_succ (H : CS W C n0 g n) (hh : Here W C g n0 c Wx X) (scope : Scope) (elt : Expr) (gens : List Comprehension) (ir : E) (h : cG (n + 1) (blkCtx c scope) elt gens = some ir) : GnG W X C scope (gvs (blkCtx c scope) gens) elt gens ir := by
  obtain ⟨m, hm, K, _⟩ := hh.ok
  have st := hh.st
  cases gens with
  | nil =>
    simp only [cG, Option.bind_eq_some_iff, Option.some.injEq] at h
    obtain ⟨el, g3, rfl⟩ := h
    refine ⟨[], fun σ H' Q => ∀ (s : Shared) (H0 : Hp) (Cc : Addr) (cl : List (Str × Addr)) (fp : List Addr), wE (X.blk s H0 scope (compEnvC scope cl Cc X.env) fp) elt σ H' Q, rfl, trivial, (fun _ h => nomatch h), .nil ?_, (fun _ _ _ _ _ _ h => nomatch h), fun s H' Cc cl fp => ⟨fun pins s' σ H1 Q I q => q s H' Cc cl fp pins s' I⟩⟩
    intro c' S σ Q sim l e s H0 Cc cl fp
    exact H.e (blkCtx c scope) WF _ (hh.blk scope s H0 cl Cc fp) elt el g3 c' S σ Q sim l e
  | cons g0 r =>
    obtain ⟨tg, iter, ifs, ia⟩ := g0
    simp only [cG] at h
    split at h
    · cases h
    · rename_i hia
      have hia : ia = 0 := by simpa using hia
      subst hia
      split at h
      · rename_i is hq
        split at h
        · cases h
        rename_i hb3
        have hb3 : setB iter = false := by simpa using hb3
        simp only [Option.bind_eq_some_iff, Option.some.injEq] at h
        obtain ⟨it, g1, cond, g2, b, g3, rfl⟩ := h
        obtain ⟨cs, te, h1, h2, h3, h4, h5, h6⟩ := H.gn c Wx X hh scope elt r b g3
        have hvs : gvs (blkCtx c scope) (⟨tg, iter, ifs, 0⟩ :: r) = is ++ gvs (blkCtx c scope) r := by simp [gvs, hq]
        rw [hvs]
        refine ⟨⟨tg, iter, ifs, fun σ H' R => ∀ (s : Shared) (H0 : Hp) (Cc : Addr) (cl : List (Str × Addr)) (fp : List Addr), wI (X.blk s H0 scope (compEnvC scope cl Cc X.env) fp) tg iter σ H' R, gOf X.K is,
          fun σ H' Q => ∀ (s : Shared) (H0 : Hp) (Cc : Addr) (cl : List (Str × Addr)) (fp : List Addr), wTs (X.blk s H0 scope (compEnvC scope cl Cc X.env) fp) ifs σ H' Q, is ++ gvs (blkCtx c scope) r⟩ :: cs, te, by rw [List.map_cons, ← h1]; rfl, ⟨fun i hi => List.mem_append_right _ (h3 i hi), h2⟩, fun i hi => hi, ?_, ?_, h6⟩
        · refine .cons (cl := ⟨tg, iter, ifs, _, gOf X.K is, _, is ++ gvs (blkCtx c scope) r⟩) rfl (fun i hi => List.mem_append_left _ hi) ?_ ?_ h4
          · intro c' S σ R sim l e s H0 Cc cl fp
            exact H.i (blkCtx c scope) WF _ (hh.blk scope s H0 cl Cc fp) tg iter it g1 c' S σ R sim l e
          · intro c' S σ Q sim l e s H0 Cc cl fp
            exact H.c (blkCtx c scope) WF _ (hh.blk scope s H0 cl Cc fp) ifs cond g2 c' S σ Q sim l e
        · intro s H' Cc cl fp c0 hc0
          rcases List.mem_cons.mp hc0 with z | z
          · subst z
            exact ⟨⟨fun pins s' σ H1 R I q => q s H' Cc cl fp pins s' I⟩, Tgt.pg (X := X.blk s H' scope (compEnvC scope cl Cc X.env) fp) K.nd K.calm (tgt_of (blk_stat st scope s H' cl Cc fp) hq), ⟨fun pins s' σ H1 Q I q => q s H' Cc cl fp pins s' I⟩, fun env => setB_fold hb3⟩
          · exact h5 s H' Cc cl fp c0 z
      · cases h
theorem cL_succ (H : CS W C n0 g n) (hh : Here W C g n0 c Wx X) (elt : Expr) (gens : List Comprehension) (scope : Scope) (m : Bool) (ir : E) (h : cL (n + 1) c elt gens scope m = some ir) : LcG W Wx X C elt gens scope ir := by
  obtain ⟨mm, hm, K, _⟩ := hh.ok
  have st := hh.st
  cases gens with
  | nil => simp [cL] at h
  | cons g0 r =>
    obtain ⟨tg, iter, ifs, ia⟩ := g0
    simp only [cL] at h
    split at h
    · cases h
    · rename_i hia
      have hia : ia = 0 := by simpa using hia
      subst hia
      split at h
      · rename_i is hq
        split at h
        · rename_i hb
          simp only [Bool.and_eq_true, Bool.not_eq_true'] at hb
          obtain ⟨⟨⟨hb1, hb2⟩, hb4⟩, hb3⟩ := hb
          simp only [Option.bind_eq_some_iff, Option.some.injEq] at h
          obtain ⟨it, g1, cond, g2, b, g3, rfl⟩ := h
          obtain ⟨cs, te, h1, h2, h3, h4, h5, h6⟩ := H.gn c Wx X hh scope elt r b g3
          have ok : BlkOk X.N X.env.scope scope (ownOf c.N scope) := by rw [st.hN, st.hsc]; exact blkOk_by hb1
          have hv : ∀ i ∈ hdvs cs, i ∈ (ownOf c.N scope).map (·.2) := fun i hi => all_mem hb4 i (h3 i hi)
          have hg : ∀ (s : Shared) (H : Hp) (Cc : Addr) (cl : List (Str × Addr)) (fp : List Addr), PG (X.blk s H scope (compEnvC scope cl Cc X.env) fp) tg (gOf X.K is) := fun s H' Cc cl fp =>
            Tgt.pg (X := X.blk s H' scope (compEnvC scope cl Cc X.env) fp) K.nd K.calm (tgt_of (blk_stat st scope s H' cl Cc fp) hq)
          subst h1
          have ht : ∀ (s : Shared) (H : Hp) (Cc : Addr) (cl : List (Str × Addr)) (fp : List Addr), PTs (X.blk s H scope (compEnvC scope cl Cc X.env) fp) ifs (fun σ H' Q => ∀ (s : Shared) (H0 : Hp) (Cc : Addr) (cl : List (Str × Addr)) (fp : List Addr), wTs (X.blk s H0 scope (compEnvC scope cl Cc X.env) fp) ifs σ H' Q) := fun s H' Cc cl fp => ⟨fun pins s' σ H1 Q I q => q s H' Cc cl fp pins s' I⟩
          refine ⟨_, fun pos => pe_lcN K.calm K.nd pi_w ok hv h2 hg ht h6 (setB_fold hb3) h5, fun i y py pos spos q1 q2 q3 => ps_setLcN K.calm K.nd q1 q2 q3 pi_w ok hv h2 hg ht h6 (setB_fold hb3) h5, ?_⟩
          refine snd_lcN K K.hK (all_mem hb2) (H.i c Wx X hh tg iter it g1) ?_ h4
          intro c' S σ Q sim l e s H0 Cc cl fp
          exact H.c (blkCtx c scope) WF _ (hh.blk scope s H0 cl Cc fp) ifs cond g2 c' S σ Q sim l e
        · cases h
      · cases h
theorem lc_one (H : CS W C n0 g n) (hh : Here W C g n0 c Wx X) {elt tg iter : Expr} {ifs : List Expr} {scope : Scope} {pos : Pos} {ir : E}
    (h : (match tgtP (blkCtx c scope) tg with
        | some is => if L2.blkC c.N c.sc scope (ownOf c.N scope) && is.all (fun i => ((ownOf c.N scope).map (·.2)).contains i) && !setB iter then
            (cI n c tg iter).bind fun it => (cC n (blkCtx c scope) ifs).bind fun cond => (cE n (blkCtx c scope) elt).bind fun el => some (.lc is ((ownOf c.N scope).map (·.2)) it cond el) else none
        | none => none) = some ir) : LcG W Wx X C elt [⟨tg, iter, ifs, 0⟩] scope ir := by
  obtain ⟨m, hm, K, _⟩ := hh.ok
  have st := hh.st
  split at h
  · rename_i is hq
    split at h
    · rename_i hb
      simp only [Bool.and_eq_true, Bool.not_eq_true'] at hb
      obtain ⟨⟨hb1, hb2⟩, hb3⟩ := hb
      simp only [Option.bind_eq_some_iff, Option.some.injEq] at h
      obtain ⟨it, g1, cond, g2, el, g3, rfl⟩ := h
      have ok : BlkOk X.N X.env.scope scope (ownOf c.N scope) := by rw [st.hN, st.hsc]; exact blkOk_by hb1
      have hsub : ∀ i ∈ is, i ∈ (ownOf c.N scope).map (·.2) := fun i hi => by
        have := List.all_eq_true.mp hb2 i hi
        simpa using this
      have hg : ∀ (s : Shared) (H : Hp) (Cc : Addr) (cl : List (Str × Addr)) (fp : List Addr), PG (X.blk s H scope (compEnvC scope cl Cc X.env) fp) tg (gOf X.K is) := fun s H' Cc cl fp =>
        Tgt.pg (X := X.blk s H' scope (compEnvC scope cl Cc X.env) fp) K.nd K.calm (tgt_of (blk_stat st scope s H' cl Cc fp) hq)
      have ht : ∀ (s : Shared) (H : Hp) (Cc : Addr) (cl : List (Str × Addr)) (fp : List Addr), PTs (X.blk s H scope (compEnvC scope cl Cc X.env) fp) ifs (fun σ H' Q => ∀ (s : Shared) (H0 : Hp) (Cc : Addr) (cl : List (Str × Addr)) (fp : List Addr), wTs (X.blk s H0 scope (compEnvC scope cl Cc X.env) fp) ifs σ H' Q) := fun s H' Cc cl fp => ⟨fun pins s' σ H1 Q I q => q s H' Cc cl fp pins s' I⟩
      have he : ∀ (s : Shared) (H : Hp) (Cc : Addr) (cl : List (Str × Addr)) (fp : List Addr), PE (X.blk s H scope (compEnvC scope cl Cc X.env) fp) elt (fun σ H' Q => ∀ (s : Shared) (H0 : Hp) (Cc : Addr) (cl : List (Str × Addr)) (fp : List Addr), wE (X.blk s H0 scope (compEnvC scope cl Cc X.env) fp) elt σ H' Q) := fun s H' Cc cl fp => ⟨fun pins s' σ H1 Q I q => q s H' Cc cl fp pins s' I⟩
      refine ⟨_, fun pos => pe_lc K.calm K.nd pi_w ok hg ht he (setB_fold hb3), fun i y py pos spos q1 q2 q3 => ps_setLc K.calm K.nd q1 q2 q3 pi_w ok hg ht he (setB_fold hb3), ?_⟩
      refine snd_lc (pos := pos) K ok hsub (H.i c Wx X hh tg iter it g1) hg ht ?_ he ?_ (setB_fold hb3)
      · intro c' S σ Q sim l e s H0 Cc cl fp
        exact H.c (blkCtx c scope) WF _ (hh.blk scope s H0 cl Cc fp) ifs cond g2 c' S σ Q sim l e
      · intro c' S σ Q sim l e s H0 Cc cl fp
        exact H.e (blkCtx c scope) WF _ (hh.blk scope s H0 cl Cc fp) elt el g3 c' S σ Q sim l e
    · cases h
  · cases h
theorem lc_ok (H : CS W C n0 g n) (hh : Here W C g n0 c Wx X) {elt : Expr} {gens : List Comprehension} {scope : Scope} {pos : Pos} {ir : E}
    (h : cE (n + 1) c (.ListComp elt gens scope pos) = some ir) : LcG W Wx X C elt gens scope ir := by
  match gens, h with
  | [], h => exact H.l c Wx X hh _ _ _ _ _ (by simpa only [cE] using h)
  | [⟨tg, iter, ifs, ia⟩], h =>
    by_cases hia : ia = 0
    · subst hia
      simp only [cE] at h
      split at h
      · exact H.l c Wx X hh _ _ _ _ _ h
      · exact lc_one (pos := pos) H hh h
    · exact H.l c Wx X hh _ _ _ _ _ (by simpa [cE, hia] using h)
  | _ :: _ :: _, h => exact H.l c Wx X hh _ _ _ _ _ (by simpa only [cE] using h)
theorem cE_succ (T : TopOk W C.ct g) (O : COk W n0 C) (H : CS W C n0 g n) (hh : Here W C g n0 c Wx X) (e : Expr) (ir : E) (h : cE (n + 1) c e = some ir) : SndE W Wx X C e ir := by
  have hE := H.e c Wx X hh
  have hT := H.t c Wx X hh
  have hA := H.a c Wx X hh
  have hgg := hh.hg
  obtain ⟨m, hm, K, _⟩ := hh.ok
  have st := hh.st
  have h0 := h
  unfold cE at h
  split at h
  · cases h; exact snd_int
  · cases h; exact snd_bl
  · cases h; exact snd_non
  · cases h; exact snd_str
  · rename_i x p
    split at h
    · cases h
    · rename_i hd
      obtain ⟨d1, d2, d3⟩ := dbg_of (by simpa using hd)
      split at h
      · rename_i hv
        cases q : idxOf x c.N 0 with
        | none => rw [q] at h; cases h
        | some i => rw [q] at h; cases h; exact snd_var (idx_N st q) (vis_of st hv) d1 d2
      · split at h
        · rename_i hg
          split at h
          · rename_i v q
            cases h
            obtain ⟨u, vv, m1, m2, m3⟩ := T.con x v (by rw [← hgg]; exact q)
            exact snd_glob (gl_of st hg) (by rw [K.hg]; exact m1) m2 m3 d1
          · split at h
            · rename_i k q
              cases h
              exact snd_glob (v := .ref (W.clsA k)) (gl_of st hg) (by rw [K.hg]; exact T.cls x k (by rw [← hgg]; exact q)) rfl (fun c => .cls k) d1
            · split at h
              · rename_i hf
                cases q : tyOf x with
                | none => rw [q] at h; cases h
                | some Ty => rw [q] at h; cases h; exact snd_bty (gl_of st hg) (by rw [K.hg]; exact T.no x (by rw [← hgg]; simpa using hf)) (tyOf_boot q) d3 d1
              · cases h
        · cases h
  · simp only [Option.bind_eq_some_iff, Option.some.injEq] at h
    obtain ⟨a', ha, b', hb, rfl⟩ := h
    exact snd_lrep (hA _ _ ha) (hE _ _ hb)
  · simp only [Option.bind_eq_some_iff, Option.some.injEq] at h
    obtain ⟨a', ha, b', hb, rfl⟩ := h
    exact snd_bin K (hE _ _ ha) (hE _ _ hb)
  · simp only [Option.bind_eq_some_iff, Option.some.injEq] at h
    obtain ⟨a', ha, rfl⟩ := h
    exact snd_neg (hE _ _ ha)
  · simp only [Option.bind_eq_some_iff, Option.some.injEq] at h
    obtain ⟨a', ha, rfl⟩ := h
    exact snd_not (hE _ _ ha)
  · exact snd_one (hE _ _ h)
  · simp only [Option.bind_eq_some_iff, Option.some.injEq] at h
    obtain ⟨a', ha, b', hb, rfl⟩ := h
    exact snd_and (hE _ _ ha) (hE _ _ hb)
  · simp only [Option.bind_eq_some_iff, Option.some.injEq] at h
    obtain ⟨a', ha, b', hb, rfl⟩ := h
    exact snd_or (hE _ _ ha) (hE _ _ hb)
  · split at h
    · cases h
    · rename_i hs
      simp only [Option.bind_eq_some_iff, Option.some.injEq] at h
      obtain ⟨a', ha, b', hb, rfl⟩ := h
      exact snd_cmp K O (by omega) (hE _ _ ha) (hE _ _ hb) (setB_marks (by simpa using hs))
  · split at h
    · cases h
    · rename_i hs
      simp only [Option.bind_eq_some_iff, Option.some.injEq] at h
      obtain ⟨a', ha, b', hb, d', hd, rfl⟩ := h
      exact snd_chn K O (by omega) (hE _ _ ha) (hE _ _ hb) (hE _ _ hd) (setB_marks (by simpa using hs))
  · simp only [Option.bind_eq_some_iff, Option.some.injEq] at h
    obtain ⟨t', ht, a', ha, b', hb, rfl⟩ := h
    exact snd_ifx (hT _ _ ht) (hE _ _ ha) (hE _ _ hb)
  · simp only [Option.bind_eq_some_iff, Option.some.injEq] at h
    obtain ⟨a', ha, rfl⟩ := h
    exact snd_tup (hA _ _ ha)
  · simp only [Option.bind_eq_some_iff, Option.some.injEq] at h
    obtain ⟨a', ha, rfl⟩ := h
    split
    · exact snd_mlst (hA _ _ ha)
    · exact snd_lst (hA _ _ ha)
  · simp only [Option.bind_eq_some_iff, Option.some.injEq] at h
    obtain ⟨a', ha, b', hb, d', hd, rfl⟩ := h
    exact snd_slc K (hE _ _ ha) (hE _ _ hb) (hE _ _ hd)
  · simp only [Option.bind_eq_some_iff, Option.some.injEq] at h
    obtain ⟨a', ha, b', hb, rfl⟩ := h
    exact snd_slcL K (hE _ _ ha) (hE _ _ hb)
  · simp only [Option.bind_eq_some_iff, Option.some.injEq] at h
    obtain ⟨a', ha, b', hb, rfl⟩ := h
    exact snd_slcH K (hE _ _ ha) (hE _ _ hb)
  · split at h
    · cases h
    · rename_i hs
      simp only [Option.bind_eq_some_iff, Option.some.injEq] at h
      obtain ⟨a', ha, b', hb, rfl⟩ := h
      exact snd_sub K (hE _ _ ha) (hE _ _ hb) (slB_plain (by simpa using hs))
  · rename_i o f p
    split at h
    · cases h
    · rename_i hs
      simp only [Option.bind_eq_some_iff, Option.some.injEq] at h
      obtain ⟨i, hi, o', ho, rfl⟩ := h
      have hx := T.nms i f (by rw [← hgg]; exact nms_of hi)
      subst hx
      exact snd_attr K O (by omega) (hE _ _ ho) (superB_base (by simpa using hs))
  · exact snd_fst1 (hE _ _ h)
  · simp only [Option.bind_eq_some_iff, Option.some.injEq] at h
    obtain ⟨es, he, rfl⟩ := h
    exact snd_fst (H.j c Wx X hh _ _ he)
  · split at h
    · rename_i hk
      simp only [Bool.and_eq_true, decide_eq_true_eq] at hk
      obtain ⟨hk, hsp⟩ := hk
      subst hk
      simp only [Option.bind_eq_some_iff, Option.some.injEq] at h
      obtain ⟨a', ha, rfl⟩ := h
      exact snd_fms hsp (hE _ _ ha)
    · cases h
  · split at h
    · rename_i hk
      subst hk
      simp only [Option.bind_eq_some_iff, Option.some.injEq] at h
      obtain ⟨a', ha, rfl⟩ := h
      exact snd_fmt (hE _ _ ha)
    · cases h
  · split at h
    · split at h
      · rename_i f hf
        split at h
        · cases h
        rename_i hd
        simp only [Bool.or_eq_true, Bool.not_eq_true', not_or, Bool.not_eq_true, Bool.not_eq_false] at hd
        obtain ⟨⟨⟨hd1, hd2⟩, hns⟩, hko⟩ := hd
        obtain ⟨d1, d2, d3⟩ := dbg_of hd1
        obtain ⟨f1, f2⟩ := T.fn _ f (by rw [← hgg]; exact hf)
        simp only [Option.bind_eq_some_iff, Option.some.injEq] at h
        obtain ⟨as, ha, rfl⟩ := h
        exact snd_callR K (calR_pure (calR_fn K O (by omega) (by rw [← T.ko, ← hgg]; exact hko) f2)) (fun a p' r z => by subst z; cases hns) (cA_nil ha) (hA _ _ ha) (gl_of st hd2) d1 f1 fun σ => rfl
      · cases h
    · exact H.cn c Wx X hh _ _ _ _ h _ _
  · exact H.cm c Wx X hh _ _ _ _ _ _ _ h
  · obtain ⟨t, q1, _, q2⟩ := lc_ok H hh h0
    exact fun c' S σ Q sim l e => wE_of (q1 _) (q2 c' S σ Q sim l e)
  · obtain ⟨t, q1, _, q2⟩ := lc_ok H hh h0
    exact fun c' S σ Q sim l e => wE_of (q1 _) (q2 c' S σ Q sim l e)
  · obtain ⟨_, _, _, _, htop⟩ := hh.ok
    split at h
    · rename_i ox k hox hk
      split at h
      · rename_i hl
        simp only [Bool.and_eq_true] at hl
        simp only [Option.bind_eq_some_iff, Option.some.injEq] at h
        obtain ⟨b, hb, rfl⟩ := h
        obtain ⟨_, TX, _, hP⟩ := htop hl.1
        have L := lamS2_by hl.2
        refine snd_lamv TX (fun g => hP n k _ ox _ _ b L (lamPs_of hox) hb g) ?_ (lamPs_of hox)
        rw [← TX.N, ← TX.sc, st.hN, st.hsc]; exact L
      · cases h
    · cases h
  · cases h
theorem cN_succ (T : TopOk W C.ct g) (O : COk W n0 C) (H : CS W C n0 g n) (hh : Here W C g n0 c Wx X) (x : Str) (args : List Expr) (kws : List Keyword) (ir : E) (h : cN (n + 1) c x args kws = some ir) (p pos : Pos) : SndE W Wx X C (.Call (.Name x p) args kws pos) ir := by
  have hA := H.a c Wx X hh
  have hgg := hh.hg
  obtain ⟨m, hm, K, hlam, htop⟩ := hh.ok
  have st := hh.st
  unfold cN at h
  split at h
  · cases h
  rename_i hd
  simp only [Bool.or_eq_true, Bool.not_eq_true', not_or, Bool.not_eq_true, Bool.not_eq_false] at hd
  obtain ⟨d1, d2, d3⟩ := dbg_of hd.1
  have hG := gl_of st hd.2
  split at h
  · rename_i cat hcat
    split at h
    · rename_i body scope lpos
      split at h
      · rename_i hl
        simp only [Bool.and_eq_true] at hl
        simp only [Option.bind_eq_some_iff, Option.some.injEq] at h
        obtain ⟨b, hb, rfl⟩ := h
        obtain ⟨hm5, LA⟩ := hlam hl.1
        have K2 : CtxOk W Wx (n0 + 3 + 2) X := ⟨K.hP, K.hw, K.hK, K.hg, K.hb, K.calm, K.room.mono (by omega), K.tk, K.nd⟩
        have L : LamX.LamS X.env.scope scope := by rw [st.hsc]; exact LamX.lamS_by hl.2
        refine snd_got K2 (by omega) (T.got x cat (by rw [← hgg]; exact hcat)) LA hG L rfl (fun q cl pm cv ctv => rfl) fun A outer s H' E f c' Kl => ?_
        refine H.e (lamCtx c scope) (fun cls d _ H => E cls d H) (LamX.lamCx X A outer s H' E scope f c') ⟨hgg, ⟨st.hN, rfl, fun y hy => ?_⟩, n0 + 3, Nat.le_refl _, Kl, fun z => (by cases z), fun z => by cases z⟩ body b hb
        simp [canSt, lamCtx] at hy
      · cases h
    · cases h
  · split at h
    · rename_i cat hcat
      split at h
      · rename_i a
        split at h
        · rename_i hl
          simp only [Bool.and_eq_true, Bool.not_eq_true'] at hl
          simp only [Option.bind_eq_some_iff, Option.some.injEq] at h
          obtain ⟨a', ha, rfl⟩ := h
          obtain ⟨hm5, TX, LP, _⟩ := htop hl.1
          have K2 : CtxOk W Wx (n0 + 5) X := ⟨K.hP, K.hw, K.hK, K.hg, K.hb, K.calm, K.room.mono hm5, K.tk, K.nd⟩
          exact snd_gall K2 TX LP (T.all x cat (by rw [← hgg]; exact hcat)) hG hl.2 (H.e c Wx X hh _ _ ha)
        · cases h
      · cases h
    split at h
    · rename_i f hf
      obtain ⟨f1, f2⟩ := T.fn x f (by rw [← hgg]; exact hf)
      split at h
      · rename_i pat hp
        obtain ⟨p1, p2, p3⟩ := pat_of hp
        split at h
        · cases h
        · rename_i hns
          have hns : args.any stB = false := by simpa using hns
          simp only [Option.bind_eq_some_iff, Option.some.injEq] at h
          obtain ⟨as, ha, ks, hk, rfl⟩ := h
          exact snd_callK K (calK_fn K O (by omega) (T.pats _ (by rw [← hgg]; exact p1)) f2) (any_no hns) (cA_nil ha) (hA _ _ ha) (H.k c Wx X hh _ _ hk) p3 (cK_nil hk) p2.symm (cA_len ha hns) (cK_len hk) hG d1 f1 fun σ => rfl
      · split at h
        · split at h
          · cases h
          · rename_i hko
            have hko : c.g.ko.contains f = false := by simpa using hko
            simp only [Option.bind_eq_some_iff, Option.some.injEq] at h
            obtain ⟨a', ha, rfl⟩ := h
            exact snd_callS K (calR_fn K O (by omega) (by rw [← T.ko, ← hgg]; exact hko) f2) (H.e c Wx X hh _ _ ha) hG d1 f1 fun σ => rfl
        · split at h
          · cases h
          · rename_i hns
            simp only [Bool.or_eq_true, not_or, Bool.not_eq_true] at hns
            obtain ⟨hns, hko⟩ := hns
            simp only [Option.bind_eq_some_iff, Option.some.injEq] at h
            obtain ⟨as, ha, rfl⟩ := h
            exact snd_callR K (calR_fn K O (by omega) (by rw [← T.ko, ← hgg]; exact hko) f2) (fun a p' r z => by subst z; cases hns) (cA_nil ha) (hA _ _ ha) hG d1 f1 fun σ => rfl
        · cases h
    · split at h
      · rename_i k hk
        have k1 := T.cls x k (by rw [← hgg]; exact hk)
        split at h
        · rename_i i hi
          have i1 := T.init k i (by rw [← hgg]; exact hi)
          split at h
          · rename_i pat hp
            obtain ⟨p1, p2, p3⟩ := pat_of hp
            obtain ⟨i', q1, q2⟩ := T.cpats k pat (by rw [← hgg]; exact p1)
            split at h
            · cases h
            · rename_i hns
              have hns : args.any stB = false := by simpa using hns
              simp only [Option.bind_eq_some_iff, Option.some.injEq] at h
              obtain ⟨as, ha, ks, hk, rfl⟩ := h
              exact snd_callK K (calK_new K O (by omega) q1 q2) (any_no hns) (cA_nil ha) (hA _ _ ha) (H.k c Wx X hh _ _ hk) p3 (cK_nil hk) p2.symm (cA_len ha hns) (cK_len hk) hG d1 k1 fun σ => rfl
          · split at h
            · split at h
              · cases h
              · rename_i hns
                simp only [Bool.or_eq_true, not_or, Bool.not_eq_true] at hns
                obtain ⟨hns, hko⟩ := hns
                simp only [Option.bind_eq_some_iff, Option.some.injEq] at h
                obtain ⟨as, ha, rfl⟩ := h
                exact snd_callR K (calR_new K O (by omega) i1 (by rw [← T.ko, ← hgg]; exact hko)) (fun a p' r z => by subst z; cases hns) (cA_nil ha) (hA _ _ ha) hG d1 k1 fun σ => rfl
            · cases h
        · cases h
      · split at h
        · rename_i a es b hb
          split at h
          · rename_i hf
            simp only [Bool.and_eq_true, Bool.not_eq_true'] at hf
            simp only [Option.bind_eq_some_iff, Option.some.injEq] at h
            obtain ⟨as, ha, rfl⟩ := h
            have ex := bOf_eq hb
            subst ex
            exact snd_blt K O (by omega) b (hA _ _ ha) hG (by rw [K.hg]; exact T.no _ (by rw [← hgg]; simpa using hf.1)) (any_no hf.2)
          · cases h
        · cases h
theorem stat_of {o : Expr} {mm : Str} {k f : Nat} (st : StatOk X c) (h : statQ c o mm = some (k, f)) : ∃ x p0 l, o = .Name x p0 ∧ Gl X x ∧ (x == ("__debug__" : Str)) = false ∧ c.g.cls.lookup x = some k ∧ c.g.stat.lookup k = some l ∧ l.lookup mm = some f := by
  unfold statQ at h
  split at h
  · rename_i x p0
    split at h
    · cases h
    · rename_i hd
      simp only [Bool.or_eq_true, Bool.not_eq_true', not_or, Bool.not_eq_true, Bool.not_eq_false] at hd
      simp only [Option.bind_eq_some_iff, Option.map_eq_some_iff, Prod.mk.injEq] at h
      obtain ⟨k', h1, l, h2, f', h3, rfl, rfl⟩ := h
      exact ⟨x, p0, l, rfl, gl_of st hd.2, (dbg_of hd.1).1, h1, h2, h3⟩
  · cases h
theorem cM_succ (T : TopOk W C.ct g) (O : COk W n0 C) (H : CS W C n0 g n) (hh : Here W C g n0 c Wx X) (o : Expr) (mm : Str) (ap : Pos) (args : List Expr) (kws : List Keyword) (p : Pos) (ir : E) (h : cM (n + 1) c o mm ap args kws p = some ir) : SndE W Wx X C (.Call (.Attribute o mm ap) args kws p) ir := by
  have hE := H.e c Wx X hh
  have hA := H.a c Wx X hh
  have hgg := hh.hg
  obtain ⟨m, hm, K, hlam, htop⟩ := hh.ok
  have st := hh.st
  unfold cM at h
  split at h
  · cases h
  rename_i hd
  simp only [Bool.or_eq_true, Bool.not_eq_true', not_or, Bool.not_eq_true, Bool.not_eq_false, decide_eq_true_eq] at hd
  obtain ⟨⟨⟨hsu, hns⟩, hl⟩, hli⟩ := hd
  split at h
  · rename_i k f hst
    obtain ⟨x, p0, l, rfl, hG, d1, c1, c2, c3⟩ := stat_of st hst
    have k1 := T.cls x k (by rw [← hgg]; exact c1)
    have ST := T.stat k l mm f (by rw [← hgg]; exact c2) c3
    split at h
    · rename_i pat hp
      obtain ⟨p1, p2, p3⟩ := pat_of hp
      simp only [Option.bind_eq_some_iff, Option.some.injEq] at h
      obtain ⟨as, ha, ks, hk, rfl⟩ := h
      exact snd_statK K O (by omega) (T.pats _ (by rw [← hgg]; exact p1)) hG k1 d1 ST (any_no hns) hl hli (cA_nil ha) (hA _ _ ha) (H.k c Wx X hh _ _ hk) p3 (cK_nil hk) p2.symm (cA_len ha hns) (cK_len hk)
    · split at h
      · split at h
        · cases h
        rename_i hko
        simp only [Option.bind_eq_some_iff, Option.some.injEq] at h
        obtain ⟨as, ha, rfl⟩ := h
        exact snd_statR K O (by omega) (by rw [← T.ko, ← hgg]; simpa using hko) hG k1 d1 ST (any_no hns) (by simpa using hl) hli (cA_nil ha) (hA _ _ ha)
      · cases h
  · split at h
    · split at h
      · rename_i b a es hb
        obtain ⟨ex, hok⟩ := bmOf_eq hb
        subst ex
        simp only [Option.bind_eq_some_iff, Option.some.injEq] at h
        obtain ⟨o', ho, as, ha, rfl⟩ := h
        exact snd_bm K b hok (hE _ _ ho) (hA _ _ ha) (any_no hns) (by simp at hl; omega) (superB_base hsu) hli
      · rename_i b hb
        obtain ⟨ex, hok⟩ := bmOf_eq hb
        subst ex
        simp only [Option.bind_eq_some_iff, Option.some.injEq] at h
        obtain ⟨o', ho, rfl⟩ := h
        exact snd_bm0 K b hok (hE _ _ ho) (superB_base hsu) hli
      · simp only [Option.bind_eq_some_iff, Option.some.injEq] at h
        obtain ⟨i, hi, o', ho, as, ha, rfl⟩ := h
        have hx := T.nms i mm (by rw [← hgg]; exact nms_of hi)
        subst hx
        exact snd_meth K O (by omega) (hE _ _ ho) (hA _ _ ha) (any_no hns) (cA_nil ha) (meth_eq (superB_base hsu) (form_ok X (kws := []) (ks := []) (any_no hns) rfl (by simpa using hl)) hli)
    · cases h
theorem cT_succ (O : COk W n0 C) (H : CS W C n0 g n) (hh : Here W C g n0 c Wx X) (e : Expr) (ir : E) (h : cT (n + 1) c e = some ir) : SndT W Wx X C e ir := by
  have hE := H.e c Wx X hh
  have hT := H.t c Wx X hh
  obtain ⟨m, hm, K, _⟩ := hh.ok
  have st := hh.st
  unfold cT at h
  split at h
  · simp only [Option.bind_eq_some_iff, Option.some.injEq] at h
    obtain ⟨a', ha, rfl⟩ := h
    exact sndT_not (hT _ _ ha)
  · rename_i op a p
    cases op with
    | And => exact sndT_oneA (hT _ _ h)
    | Or => exact sndT_oneO (hT _ _ h)
  · simp only [Option.bind_eq_some_iff, Option.some.injEq] at h
    obtain ⟨a', ha, b', hb, rfl⟩ := h
    exact sndT_and (hT _ _ ha) (hT _ _ hb)
  · simp only [Option.bind_eq_some_iff, Option.some.injEq] at h
    obtain ⟨a', ha, b', hb, rfl⟩ := h
    exact sndT_or (hT _ _ ha) (hT _ _ hb)
  · split at h
    · cases h
    · rename_i hs
      simp only [Option.bind_eq_some_iff, Option.some.injEq] at h
      obtain ⟨a', ha, b', hb, rfl⟩ := h
      exact sndT_cmp K O (by omega) (hE _ _ ha) (hE _ _ hb) (setB_marks (by simpa using hs))
  · split at h
    · cases h
    · rename_i hs
      simp only [Option.bind_eq_some_iff, Option.some.injEq] at h
      obtain ⟨a', ha, b', hb, d', hd, rfl⟩ := h
      exact sndT_chn K O (by omega) (hE _ _ ha) (hE _ _ hb) (hE _ _ hd) (setB_marks (by simpa using hs))
  · split at h
    · rename_i ht
      simp only [Option.bind_eq_some_iff, Option.some.injEq] at h
      obtain ⟨a', ha, rfl⟩ := h
      exact sndT_tv K (hE _ _ ha) (tvB_true ht _)
    · cases h
theorem cA_succ (H : CS W C n0 g n) (hh : Here W C g n0 c Wx X) (e : List Expr) (ir : E) (h : cA (n + 1) c e = some ir) : SndA W Wx X C e ir := by
  have hE := H.e c Wx X hh
  have hA := H.a c Wx X hh
  obtain ⟨m, hm, K, hlam, htop⟩ := hh.ok
  clear hlam
  unfold cA at h
  split at h
  · rename_i q; cases q
  · cases h; exact sndA_nil
  · rename_i q
    cases q
    simp only [Option.bind_eq_some_iff, Option.some.injEq] at h
    obtain ⟨a', ha, es', he, rfl⟩ := h
    exact sndA_star K (hE _ _ ha) (hA _ _ he)
  · rename_i hn q
    cases q
    simp only [Option.bind_eq_some_iff, Option.some.injEq] at h
    obtain ⟨a', ha, es', he, rfl⟩ := h
    exact sndA_cons (hE _ _ ha) (hA _ _ he) (noStar.each fun x q z => hn x q z)
theorem cJ_succ (H : CS W C n0 g n) (hh : Here W C g n0 c Wx X) (e : List Expr) (ir : E) (h : cJ (n + 1) c e = some ir) : JL W Wx X C e ir := by
  cases e with
  | nil => simp only [cJ] at h; cases h; exact .nil
  | cons a es =>
    simp only [cJ, Option.bind_eq_some_iff, Option.some.injEq] at h
    obtain ⟨a', ha, es', he, rfl⟩ := h
    exact .cons (H.e c Wx X hh _ _ ha) (H.j c Wx X hh _ _ he)
theorem cK_succ (H : CS W C n0 g n) (hh : Here W C g n0 c Wx X) (e : List Keyword) (ir : E) (h : cK (n + 1) c e = some ir) : SndK W Wx X C e ir := by
  cases e with
  | nil => simp only [cK] at h; cases h; exact sndK_nil
  | cons a es =>
    obtain ⟨an, av, ap⟩ := a
    simp only [cK, Option.bind_eq_some_iff, Option.some.injEq] at h
    obtain ⟨a', ha, es', he, rfl⟩ := h
    exact sndK_cons (H.e c Wx X hh _ _ ha) (H.k c Wx X hh _ _ he)
theorem cI_succ (T : TopOk W C.ct g) (H : CS W C n0 g n) (hh : Here W C g n0 c Wx X) (tg e : Expr) (ir : E) (h : cI (n + 1) c tg e = some ir) : SndI W Wx X C tg e ir := by
  have hE := H.e c Wx X hh
  have hgg := hh.hg
  obtain ⟨m, hm, K, _⟩ := hh.ok
  have st := hh.st
  unfold cI at h
  have gen : ∀ ir, ((cE n c e).bind fun e' => some (E.itv e')) = some ir → SndI W Wx X C tg e ir := fun ir h => by
    simp only [Option.bind_eq_some_iff, Option.some.injEq] at h
    obtain ⟨a', ha, rfl⟩ := h
    exact sndI_itv K (hE _ _ ha)
  split at h
  · rename_i x p a pos
    split at h
    · rename_i hx
      split at h
      · rename_i hb
        simp only [Bool.and_eq_true, Bool.not_eq_true'] at hb
        simp only [Option.bind_eq_some_iff, Option.some.injEq] at h
        obtain ⟨a', ha, rfl⟩ := h
        subst hx
        exact sndI_rng1 (hE _ _ ha) (stB_no hb.2) (gl_of st hb.1.1) (by rw [K.hg]; exact T.no _ (by rw [← hgg]; simpa using hb.1.2))
      · cases h
    · split at h
      · rename_i hx
        split at h
        · split at h
          · rename_i hb
            simp only [Bool.and_eq_true, Bool.not_eq_true'] at hb
            simp only [Option.bind_eq_some_iff, Option.some.injEq] at h
            obtain ⟨a', ha, rfl⟩ := h
            subst hx
            exact sndI_enm K (hE _ _ ha) (stB_no hb.2) (gl_of st hb.1.1) (by rw [K.hg]; exact T.no _ (by rw [← hgg]; simpa using hb.1.2))
          · cases h
        · cases h
      · exact gen ir h
  · rename_i x p a b pos
    split at h
    · rename_i hx
      split at h
      · rename_i hb
        simp only [Bool.and_eq_true, Bool.not_eq_true'] at hb
        simp only [Option.bind_eq_some_iff, Option.some.injEq] at h
        obtain ⟨a', ha, b', hb', rfl⟩ := h
        subst hx
        exact sndI_rng2 (hE _ _ ha) (hE _ _ hb') (stB_no hb.1.2) (stB_no hb.2) (gl_of st hb.1.1.1) (by rw [K.hg]; exact T.no _ (by rw [← hgg]; simpa using hb.1.1.2))
      · cases h
    · split at h
      · rename_i hx
        split at h
        · split at h
          · rename_i hb
            simp only [Bool.and_eq_true, Bool.not_eq_true'] at hb
            simp only [Option.bind_eq_some_iff, Option.some.injEq] at h
            obtain ⟨a', ha, b', hb', rfl⟩ := h
            subst hx
            exact sndI_zip K (hE _ _ ha) (hE _ _ hb') (stB_no hb.1.2) (stB_no hb.2) (gl_of st hb.1.1.1) (by rw [K.hg]; exact T.no _ (by rw [← hgg]; simpa using hb.1.1.2))
          · cases h
        · cases h
      · exact gen ir h
  · exact gen ir h
theorem cC_succ (H : CS W C n0 g n) (hh : Here W C g n0 c Wx X) (e : List Expr) (ir : E) (h : cC (n + 1) c e = some ir) : SndC W Wx X C e ir := by
  match e, h with
  | [], h =>
    simp only [cC] at h
    cases h
    exact fun c S σ Q sim l e => wTs_of pts_nil (e.here sim rfl)
  | [t], h =>
    simp only [cC] at h
    exact fun c' S σ Q sim l e => wTs_of (pts_one pt_w) (H.t c Wx X hh _ _ h c' S σ Q sim l e)
  | _ :: _ :: _, h => simp [cC] at h
theorem comp_snd (T : TopOk W C.ct g) (O : COk W n0 C) : ∀ n, CS W C n0 g n
  | 0 => ⟨fun _ _ _ _ _ _ h => by simp [cE] at h, fun _ _ _ _ _ _ h => by simp [cT] at h, fun _ _ _ _ _ _ h => by simp [cA] at h, fun _ _ _ _ _ _ h => by simp [cJ] at h, fun _ _ _ _ _ _ h => by simp [cK] at h, fun _ _ _ _ _ _ _ h => by simp [cI] at h, fun _ _ _ _ _ _ h => by simp [cC] at h, fun _ _ _ _ _ _ _ _ h => by simp [cN] at h, fun _ _ _ _ _ _ _ _ _ h => by simp [cL] at h, fun _ _ _ _ _ _ _ _ h => by simp [cG] at h, fun _ _ _ _ _ _ _ _ _ _ _ h => by simp [cM] at h⟩
  | n + 1 =>
    have H := comp_snd T O n
    ⟨fun c Wx X hh e ir h => cE_succ T O H hh e ir h, fun c Wx X hh e ir h => cT_succ O H hh e ir h, fun c Wx X hh e ir h => cA_succ H hh e ir h, fun c Wx X hh e ir h => cJ_succ H hh e ir h, fun c Wx X hh e ir h => cK_succ H hh e ir h,
      fun c Wx X hh tg e ir h => cI_succ T H hh tg e ir h, fun c Wx X hh e ir h => cC_succ H hh e ir h, fun c Wx X hh x args kws ir h p pos => cN_succ T O H hh x args kws ir h p pos, fun c Wx X hh elt gens scope m ir h => cL_succ H hh elt gens scope m ir h, fun c Wx X hh scope elt gens ir h => cG_succ H hh scope elt gens ir h, fun c Wx X hh o mm ap args kws p ir h => cM_succ T O H hh o mm ap args kws p ir h⟩
end
end NT
set_option linter.all false
set_option maxRecDepth 100000
set_option autoImplicit false
namespace NT
open PySem PySem.Spec PyProof.Rows L2
section
variable {W : Wd} {C : Orc} {n0 n : Nat} {g : GCtx} {c : SCtx} {Wx : WX} {X : Cx}
theorem lcB_no {e : Expr} {t : Option Expr} {l : Nat} {env : Env} (h : lcB e = false) : swapsWith e t l env = pure false := by
  cases e <;> first | rfl | cases h
theorem lcB_tgt {e t : Expr} {l : Nat} {env : Env} (h : ∀ x p, t ≠ .Name x p) : swapsWith e (some t) l env = pure false := by
  unfold swapsWith
  cases e <;> first | rfl | (cases t <;> first | rfl | exact absurd rfl (h _ _))
theorem lcB_cell {X : Cx} {c : SCtx} (st : StatOk X c) {e : Expr} {x : Str} {p : Pos} {l : Nat} (h : (lcB e && isLoc c x) = false) : swapsWith e (some (.Name x p)) l X.env = pure false := by
  cases hl : lcB e with
  | false => exact lcB_no hl
  | true =>
    rw [hl, Bool.true_and] at h
    have hk : (X.env.kindOf x == some .local) = false := by
      unfold isLoc at h
      show (X.env.scope.names.lookup x == some .local) = false
      rw [st.hsc]
      cases q : c.sc.names.lookup x with
      | none => rfl
      | some k => rw [q] at h; cases k <;> first | rfl | cases h
    unfold swapsWith
    cases e <;> first | rfl | (simp only [hk, Bool.and_false, Bool.false_and]; done) | (simp only [hk, Bool.and_false, Bool.false_and]; rfl)
theorem sole {t e : Expr} {l : Nat} {env : Env} : swapsWithSole [t] e l env = swapsWith e (some t) l env := rfl
theorem swap_none {t e : Expr} {env : Env} (h : ∀ ts k p, t ≠ .Tuple ts k p) (h' : ∀ ts p, t ≠ .List ts p) : swappedStores [t] e env = pure none := by
  cases t <;> first | rfl | exact absurd rfl (h _ _ _) | exact absurd rfl (h' _ _)
theorem swap_noneV {t e : Expr} {env : Env} (h : ∀ ts k p, e ≠ .Tuple ts k p) : swappedStores [t] e env = pure none := by
  cases t <;> cases e <;> first | rfl | exact absurd rfl (h _ _ _)
theorem kind_of {X : Cx} {c : SCtx} (st : StatOk X c) (h : stdB c = true) : X.env.scope.kind = .function := by
  unfold stdB at h
  rw [st.hsc]
  split at h
  · assumption
  · cases h
theorem block_kind {env : Env} (h : env.scope.kind = .function) : env.blockKind = .function := by unfold Env.blockKind; rw [h]; rfl
theorem star_match (e : Expr) (h : stB e = false) : (match (generalizing := false) e with | .Starred _ _ => true | _ => false) = false := by
  cases e <;> first | rfl | cases h
theorem swap2 {X : Cx} {x y : Str} {px py pt p2 : Pos} {kt k2 : Nat} {a b : Expr} (hk : X.env.scope.kind = .function) (hx : X.env.scope.names.lookup x = some .local) (hy : X.env.scope.names.lookup y = some .local) (hne : x ≠ y) (hl : py.line = px.line)
    (h1 : stB a = false) (h2 : stB b = false) (hf : [a, b].all (foldedForSure 8) = false) (hc : [a, b].all (constantsAlone 8) = false) : swappedStores [.Tuple [.Name x px, .Name y py] kt pt] (.Tuple [a, b] k2 p2) X.env = pure (some [x, y]) := by
  have e1 : X.env.kindOf x = some .local := hx
  have e2 : X.env.kindOf y = some .local := hy
  have bx : (y == x) = false := by simp [Ne.symm hne]
  simp only [List.all_cons, List.all_nil, Bool.and_true] at hf hc
  unfold swappedStores
  simp only [block_kind hk, List.filterMap_cons, List.filterMap_nil, e1, e2, hl, Expr.pos, List.head?_cons, Option.map_some, Option.getD_some, List.any_cons, List.any_nil, star_match _ h1, star_match _ h2, List.all_cons, List.all_nil, Bool.and_true, hf, hc, List.length_cons, List.length_nil, List.eraseDups, List.eraseDupsBy, List.eraseDupsBy.loop, List.elem, bx]
  simp [List.eraseDupsBy.loop, bx]
  intro hh
  exfalso
  rcases hh with hh | hh
  · cases a <;> first | (simp at hh; done) | cases h1
  · cases b <;> first | (simp at hh; done) | cases h2
theorem swap3 {X : Cx} {x y z : Str} {px py pz pt p2 : Pos} {kt k2 : Nat} {a b d : Expr} (hk : X.env.scope.kind = .function) (hx : X.env.scope.names.lookup x = some .local) (hy : X.env.scope.names.lookup y = some .local) (hz : X.env.scope.names.lookup z = some .local) (hne : x ≠ y) (hne2 : x ≠ z) (hne3 : y ≠ z) (hl : py.line = px.line) (hl2 : pz.line = px.line)
    (h1 : stB a = false) (h2 : stB b = false) (h3 : stB d = false) (hf : [a, b, d].all (foldedForSure 8) = false) (hc : [a, b, d].all (constantsAlone 8) = false) : swappedStores [.Tuple [.Name x px, .Name y py, .Name z pz] kt pt] (.Tuple [a, b, d] k2 p2) X.env = pure (some [x, y, z]) := by
  have e1 : X.env.kindOf x = some .local := hx
  have e2 : X.env.kindOf y = some .local := hy
  have e3 : X.env.kindOf z = some .local := hz
  have bx : (y == x) = false := by simp [Ne.symm hne]
  have bx2 : (z == x) = false := by simp [Ne.symm hne2]
  have bx3 : (z == y) = false := by simp [Ne.symm hne3]
  simp only [List.all_cons, List.all_nil, Bool.and_true] at hf hc
  unfold swappedStores
  simp only [block_kind hk, List.filterMap_cons, List.filterMap_nil, e1, e2, e3, hl, hl2, Expr.pos, List.head?_cons, Option.map_some, Option.getD_some, List.any_cons, List.any_nil, star_match _ h1, star_match _ h2, star_match _ h3, List.all_cons, List.all_nil, Bool.and_true, hf, hc, List.length_cons, List.length_nil, List.eraseDups, List.eraseDupsBy, List.eraseDupsBy.loop, List.elem, bx, bx2, bx3]
  simp [List.eraseDupsBy.loop, bx, bx2, bx3]
  intro hh
  exfalso
  rcases hh with hh | hh | hh
  · cases a <;> first | (simp at hh; done) | cases h1
  · cases b <;> first | (simp at hh; done) | cases h2
  · cases d <;> first | (simp at hh; done) | cases h3
theorem fm_len {α β : Type} {f : α → Option β} : ∀ {l : List α}, (∃ x ∈ l, f x = none) → (l.filterMap f).length ≠ l.length
  | [], h => by obtain ⟨x, h, _⟩ := h; cases h
  | a :: l, h => by
    have le : (l.filterMap f).length ≤ l.length := List.length_filterMap_le ..
    cases e : f a with
    | none =>
      rw [List.filterMap_cons_none e, List.length_cons]; omega
    | some b =>
      rw [List.filterMap_cons_some e, List.length_cons, List.length_cons]
      obtain ⟨x, hx, hn⟩ := h
      rcases List.mem_cons.mp hx with rfl | hx
      · rw [e] at hn; cases hn
      · have := fm_len (f := f) (l := l) ⟨x, hx, hn⟩; omega
theorem noswap {X : Cx} {c : SCtx} (st : StatOk X c) {ts vs : List Expr} {kt k2 : Nat} {pt p2 : Pos} (h : noSwap c ts vs = true) : swappedStores [.Tuple ts kt pt] (.Tuple vs k2 p2) X.env = pure none := by
  unfold swappedStores
  simp only []
  unfold noSwap at h
  simp only [Bool.or_eq_true] at h
  split
  · rfl
  · rename_i g1
    split
    · rfl
    · rename_i g2
      split
      · rfl
      · rename_i g3
        split
        · rfl
        · exfalso
          rename_i g4
          simp only [Bool.or_eq_true, not_or, Bool.not_eq_true] at g1 g3
          rcases h with (((h | h) | h) | h) | h
          · rw [h] at g1; exact absurd g1.1.1 (by simp)
          · rw [h] at g1; exact absurd g1.1.2 (by simp)
          · apply g2
            obtain ⟨x, hx, e⟩ := List.any_eq_true.mp h
            exact List.any_eq_true.mpr ⟨x, hx, by cases x <;> first | rfl | cases e⟩
          · obtain ⟨x, hx, e⟩ := List.any_eq_true.mp h
            have := g3.1
            simp only [bne_eq_false_iff_eq] at this
            refine fm_len ⟨x, hx, ?_⟩ this
            cases x <;> first | rfl | skip
            rename_i y p
            have hk : (X.env.kindOf y == some .local) = false := by
              show (X.env.scope.names.lookup y == some .local) = false
              rw [st.hsc]
              have e : (!isLoc c y) = true := e
              unfold isLoc at e
              cases q : c.sc.names.lookup y with
              | none => rfl
              | some k => rw [q] at e; cases k <;> first | rfl | cases e
            simp only [hk, Bool.false_and]
            rfl
          · exact g4 h
theorem ne_of_place {X : Cx} {x y : Str} {i j : Nat} (hi : X.N[i]? = some x) (hj : X.N[j]? = some y) (h : i ≠ j) (nd : X.N.Nodup) : x ≠ y := fun e => by
  subst e
  exact h (nodup_ix nd hi hj)
theorem cS_all (T : TopOk W C.ct g) (O : COk W n0 C) : ∀ n, (∀ (c : SCtx) (Wx : WX) (X : Cx), Here W C g n0 c Wx X → PassesOwn (model X.prog X.w) X.A X.env X.xe → ∀ s ir, cS n c s = some ir → SndS W Wx X C s ir) ∧
    (∀ (c : SCtx) (Wx : WX) (X : Cx), Here W C g n0 c Wx X → PassesOwn (model X.prog X.w) X.A X.env X.xe → ∀ s ir, cSs n c s = some ir → SndSs W Wx X C s ir)
  | 0 => ⟨fun _ _ _ _ _ _ _ h => by simp [cS] at h, fun _ _ _ _ _ _ _ h => by simp [cSs] at h⟩
  | n + 1 => by
    obtain ⟨ihS, ihSs⟩ := cS_all T O n
    have H := comp_snd (W := W) (C := C) (n0 := n0) T O n
    refine ⟨fun c Wx X hh po s ir h => ?_, fun c Wx X hh po s ir h => ?_⟩
    · have hE := H.e c Wx X hh
      have hT := H.t c Wx X hh
      have hA := H.a c Wx X hh
      have hI := H.i c Wx X hh
      have hSs := ihSs c Wx X hh po
      have hgg := hh.hg
      obtain ⟨m, hm, K, hlam⟩ := hh.ok
      clear hlam
      have st := hh.st
      unfold cS at h
      split at h
      · cases h; exact snd_pass
      · cases h; exact snd_brk
      · cases h; exact snd_cnt
      · cases h; exact snd_doc
      · split at h
        · cases h
        · rename_i hl
          simp only [Option.bind_eq_some_iff, Option.some.injEq] at h
          obtain ⟨e', he, rfl⟩ := h
          exact snd_expr (hE _ _ he) (lcB_no (by simpa using hl))
      · simp only [Option.bind_eq_some_iff, Option.some.injEq] at h
        obtain ⟨e', he, rfl⟩ := h
        exact snd_ret (hE _ _ he)
      · cases h; exact snd_retN
      · rename_i x p e q
        simp only [Option.bind_eq_some_iff] at h
        obtain ⟨i, hp, h⟩ := h
        obtain ⟨g1, g2, g3⟩ := place_of st hp
        split at h
        · split at h
          · rename_i elt gens scope pos _
            split at h
            · rename_i hb
              simp only [Bool.and_eq_true, Bool.not_eq_true'] at hb
              simp only [Option.bind_eq_some_iff, Option.some.injEq] at h
              obtain ⟨e', he, rfl⟩ := h
              cases n with
              | zero => simp [cE] at he
              | succ n =>
                obtain ⟨t, _, q1, q2⟩ := lc_ok (comp_snd (W := W) (C := C) (n0 := n0) T O n) hh he
                have hl := loc_of st hb.1.1.1
                have hsw : swapsWith (.ListComp elt gens scope pos) (some (.Name x p)) q.line X.env = pure true := sw_true (kind_of st hb.2) hl hb.1.1.2 hb.1.2
                exact fun c' S σ D sim l en => wS_of (q1 _ _ _ _ _ g1 hl hsw) (q2 c' S σ _ sim l (EndF.bind en fun x c1 v _ s1 x1 r1 e1 => EndF.nx e1 s1 ((l.to x1).set r1 i)))
            · cases h
          · cases h
        · rename_i hl
          simp only [Option.bind_eq_some_iff, Option.some.injEq] at h
          obtain ⟨e', he, rfl⟩ := h
          exact snd_asg K g1 g2 g3 (hE _ _ he) (lcB_cell st (by simpa using hl))
      · rename_i ts kt pt vs k2 p2 q
        split at h
        · rename_i hns
          simp only [Option.bind_eq_some_iff, Option.some.injEq] at h
          obtain ⟨is, ht, e', he, rfl⟩ := h
          exact snd_unp K (tgt_of st ht) (hE _ _ he) (sole.trans (lcB_tgt fun _ _ z => by cases z)) (noswap st hns)
        split at h
        · rename_i hsw
          split at h
          · cases h
          · rename_i hf
            simp only [Bool.or_eq_true, Bool.not_eq_true', not_or, Bool.not_eq_true, Bool.not_eq_false] at hf
            obtain ⟨⟨hf1, hf2⟩, hf3⟩ := hf
            have hk := kind_of st hf3
            split at h
            · rename_i is hq
              split at h
              · rename_i hnd
                simp only [Option.bind_eq_some_iff, Option.some.injEq] at h
                obtain ⟨vs', hv, rfl⟩ := h
                have NA := names_at st hq
                unfold swapB at hsw
                simp only [Bool.and_eq_true, Bool.or_eq_true, Bool.not_eq_true', beq_iff_eq] at hsw
                obtain ⟨⟨⟨hl, hlv⟩, hst⟩, hall⟩ := hsw
                rcases hl with hl | hl
                · match ts, vs, hl, hlv, NA with
                  | [_, _], [a, b], _, _, .cons (x := x) (p := px) (i := i) u1 u2 u3 (.cons (x := y) (p := py) (i := j) v1 v2 v3 .nil) =>
                    simp only [List.all_cons, List.all_nil, Bool.and_true, Bool.and_eq_true, List.head?_cons, Option.map_some, Option.getD_some, Expr.pos, beq_iff_eq] at hall
                    simp only [List.any_cons, List.any_nil, Bool.or_false, Bool.or_eq_false_iff] at hst
                    have hij : i ≠ j := by
                      simp at hnd; exact hnd
                    exact snd_par2 K u1 v1 hij (loc_of st hall.1.1) (loc_of st hall.2.1) (hA _ _ hv) (swap2 hk (loc_of st hall.1.1) (loc_of st hall.2.1) (ne_of_place u1 v1 hij K.nd) hall.2.2 hst.1 hst.2 hf1 hf2)
                · match ts, vs, hl, hlv, NA with
                  | [_, _, _], [a, b, d], _, _, .cons (x := x) (p := px) (i := i) u1 u2 u3 (.cons (x := y) (p := py) (i := j) v1 v2 v3 (.cons (x := z) (p := pz) (i := k) w1 w2 w3 .nil)) =>
                    simp only [List.all_cons, List.all_nil, Bool.and_true, Bool.and_eq_true, List.head?_cons, Option.map_some, Option.getD_some, Expr.pos, beq_iff_eq] at hall
                    simp only [List.any_cons, List.any_nil, Bool.or_false, Bool.or_eq_false_iff] at hst
                    simp only [List.nodup_cons, List.mem_cons, List.not_mem_nil, or_false, not_or] at hnd
                    exact snd_par3 K u1 v1 w1 hnd.1.1 hnd.1.2 hnd.2.1 (loc_of st hall.1.1) (loc_of st hall.2.1.1) (loc_of st hall.2.2.1) (hA _ _ hv) (swap3 hk (loc_of st hall.1.1) (loc_of st hall.2.1.1) (loc_of st hall.2.2.1) (ne_of_place u1 v1 hnd.1.1 K.nd) (ne_of_place u1 w1 hnd.1.2 K.nd) (ne_of_place v1 w1 hnd.2.1 K.nd) hall.2.1.2 hall.2.2.2 hst.1 hst.2.1 hst.2.2 hf1 hf2)
              · cases h
            · cases h
        · cases h
      · rename_i ts kt pt e q hne
        split at h
        · cases h
        · rename_i hnt
          · simp only [Option.bind_eq_some_iff, Option.some.injEq] at h
            obtain ⟨is, ht, e', he, rfl⟩ := h
            exact snd_unp K (tgt_of st ht) (hE _ _ he) (sole.trans (lcB_tgt fun _ _ z => by cases z)) (swap_noneV fun a b c z => hnt a b c z)
      · split at h
        · cases h
        · rename_i o i p e q hb
          simp only [Bool.or_eq_true, not_or, Bool.not_eq_true] at hb
          simp only [Option.bind_eq_some_iff, Option.some.injEq] at h
          obtain ⟨o', ho, i', hi, e', he, rfl⟩ := h
          refine snd_setSub K (hE _ _ ho) (hE _ _ hi) (hE _ _ he) (sole.trans (lcB_tgt fun _ _ z => by cases z)) (swap_none (fun _ _ _ z => by cases z) (fun _ _ z => by cases z)) fun v => ?_
          have hb1 := hb
          cases i <;> first | rfl | cases hb1
      · rename_i o f p e q
        simp only [Option.bind_eq_some_iff, Option.some.injEq] at h
        obtain ⟨i, hi, o', ho, e', he, rfl⟩ := h
        have hx := T.nms i f (by rw [← hgg]; exact nms_of hi)
        subst hx
        exact snd_setFld K O (hE _ _ ho) (hE _ _ he) (by cases e <;> rfl)
      · rename_i x p args pc pr
        split at h
        · cases h
        · rename_i hd
          simp only [Bool.or_eq_true, Bool.not_eq_true', not_or, Bool.not_eq_true, Bool.not_eq_false] at hd
          simp only [Option.bind_eq_some_iff, Option.some.injEq] at h
          obtain ⟨ei, hei, as, ha, rfl⟩ := h
          obtain ⟨fI, ps', fi, e1, e2, e3, e4, e5, e6, e7⟩ := T.exc x ei (by rw [← hgg]; exact hei)
          have K2 : CtxOk W Wx (m - 1 + 1) X := ⟨K.hP, K.hw, K.hK, K.hg, K.hb, K.calm, K.room.mono (by omega), K.tk, K.nd⟩
          rw [e2, e3]
          exact snd_raise K2 e1 e4 e5 e7 (gl_of st hd.1.2) e6 (dbg_of hd.1.1).1 (hA _ _ ha) (any_no hd.2) (cA_nil ha)
      · simp only [Option.bind_eq_some_iff, Option.some.injEq] at h
        obtain ⟨i, hp, e', he, rfl⟩ := h
        obtain ⟨g1, g2, g3⟩ := place_of st hp
        exact snd_aug K g1 g2 g3 (hE _ _ he)
      · simp only [Option.bind_eq_some_iff, Option.some.injEq] at h
        obtain ⟨t', ht, a', ha, b', hb, rfl⟩ := h
        exact snd_ife (hT _ _ ht) (hSs _ _ ha) (hSs _ _ hb)
      · split at h
        · cases h
        · rename_i hs
          simp only [Option.bind_eq_some_iff, Option.some.injEq] at h
          obtain ⟨is, ht, it', hi, b', hb, rfl⟩ := h
          exact snd_for K po (hI _ _ _ hi) (tgt_of st ht) (hSs _ _ hb) (setB_fold (by simpa using hs))
      · simp only [Option.bind_eq_some_iff, Option.some.injEq] at h
        obtain ⟨t', ht, b', hb, rfl⟩ := h
        exact snd_whl O.wh po (hT _ _ ht) (hSs _ _ hb)
      · cases h
    · match s, h with
      | [], h =>
        simp only [cSs] at h
        cases h
        exact sndSs_nil
      | s :: ss, h =>
        simp only [cSs, Option.bind_eq_some_iff, Option.some.injEq] at h
        obtain ⟨s', hs, ss', hss, rfl⟩ := h
        exact sndSs_cons (ihS c Wx X hh po s s' hs) (ihSs c Wx X hh po ss ss' hss)
end
end NT
set_option linter.all false
set_option maxRecDepth 100000
set_option autoImplicit false
namespace NT
open PySem PySem.Spec PyProof.Rows L2
/-- a def of the text -/
structure DD where
  st : Stmt
  name : Str
  qual : Str
  N : List Str
  ps : List Str
  dfs : List AV
  lam : Bool
  kwd : List (Str × AV)
  top : Bool := false
/-! ### values of the written part -/
def CV (K : PySem.W.Frag) (u : Value) : AV → Prop
  | .non => u = .none
  | .bl b => u = .bool b
  | .int i => ∃ t, u = .int i t
  | .str s => ∃ t, u = .str s t
  | .tup xs => ∃ (p : Addr) (o : Obj) (its : Array Value) (n : Nat) (ss : List Str), xs = ss.map .str ∧ u = .ref p ∧ K.lookup p = some o ∧ o.cls = .type "tuple" ∧ o.data = .seq its n ∧ its.size ≤ sizeLine ∧ Vals (ss.map V.str) its.toList
  | _ => False
theorem reps_strs {W : Wd} {c : Cf} : ∀ ns : List Str, Reps W c (ns.map V.str) (ns.map AV.str)
  | [] => .nil
  | n :: ns => .cons (.str n) (reps_strs ns)
theorem CV.ok {W : Wd} {u : Value} {a : AV} (h : CV W.K u a) : ∃ v, RelV v u ∧ ∀ c, Rep W c v a := by
  cases a with
  | non => cases h; exact ⟨.non, rfl, fun _ => .non⟩
  | bl b => cases h; exact ⟨.bl b, rfl, fun _ => .bl b⟩
  | int i => obtain ⟨t, rfl⟩ := h; exact ⟨.int i, ⟨t, rfl⟩, fun _ => .int i⟩
  | str i => obtain ⟨t, rfl⟩ := h; exact ⟨.str i, ⟨t, rfl⟩, fun _ => .str i⟩
  | tup xs =>
    obtain ⟨p, o, its, n, ss, rfl, rfl, h2, h3, h4, h5, h6⟩ := h
    exact ⟨.ref p, rfl, fun _ => .tup (.inr ⟨o, its, n, h2, h3, h4, h5, h6⟩) (reps_strs ss)⟩
  | _ => exact h.elim
inductive CVs (K : PySem.W.Frag) : List Value → List AV → Prop
  | nil : CVs K [] []
  | cons {u : Value} {a : AV} {us : List Value} {as : List AV} : CV K u a → CVs K us as → CVs K (u :: us) (a :: as)
theorem CVs.len {K : PySem.W.Frag} : ∀ {us : List Value} {as : List AV}, CVs K us as → us.length = as.length
  | _, _, .nil => rfl
  | _, _, .cons _ t => by simp [CVs.len t]
theorem CVs.get {K : PySem.W.Frag} : ∀ {us : List Value} {as : List AV} {j : Nat} {a : AV}, CVs K us as → as[j]? = some a → CV K (us.getD j .none) a
  | _, _, 0, a, .cons h _, e => by simp at e; subst e; exact h
  | _, _, j + 1, a, .cons _ t, e => by
    have := CVs.get t (j := j) (a := a) (by simpa using e)
    simpa using this
/-! ### binding -/
def arrU (xs its : List Value) : List AI → List Value
  | [] => []
  | .pl i :: r => xs.getD i .none :: arrU xs its r
  | .dv j _ :: r => its.getD j .none :: arrU xs its r
def WfIx (dfs : List AV) (n : Nat) : List AI → Prop
  | [] => True
  | .pl i :: r => i < n ∧ WfIx dfs n r
  | .dv j a :: r => dfs[j]? = some a ∧ WfIx dfs n r
def fnD (D : DD) (dV kV doc pm : Value) (an : Option Addr) (cdv ct : Value) : FuncData := PySem.W.fnOf D.name D.qual (defArgs D.st) (defBody D.st) (defScope D.st) dV kV doc pm an cdv ct
/-- a form of call binds so -/
structure PatOk (D : DD) (pat : Pat) : Prop where
  wf : D.kwd = [] → WfIx D.dfs (pat.np + pat.ks.length) pat.ix
  len : pat.ix.length = D.ps.length
  b2 : D.kwd ≠ [] → D.dfs = [] ∧ ∃ ms : List (Str × AV), (∀ q ∈ ms, q ∈ D.kwd) ∧ WfIx (ms.map (·.2)) (pat.np + pat.ks.length) pat.ix ∧ ∀ (Da : Addr) (doc pm : Value) (an : Option Addr) (cdv ct : Value) (us mv zs : List Value), us.length = pat.np → mv.length = ms.length → zs.length = pat.ks.length →
    KwChain Da ((ms.map (·.1)).zip mv) (bindArgs (fnD D .none (.ref Da) doc pm an cdv ct) ⟨us, pat.ks.zip zs⟩) (D.ps.zip (arrU (us ++ zs) mv pat.ix))
  b0 : D.kwd = [] → D.dfs = [] → ∀ (kV doc pm : Value) (an : Option Addr) (cdv ct : Value) (us zs : List Value), us.length = pat.np → zs.length = pat.ks.length → bindArgs (fnD D .none kV doc pm an cdv ct) ⟨us, pat.ks.zip zs⟩ = pure (D.ps.zip (arrU (us ++ zs) [] pat.ix))
  b1 : D.kwd = [] → D.dfs ≠ [] → ∀ (T : Addr) (kV doc pm : Value) (an : Option Addr) (cdv ct : Value) (us its zs : List Value), us.length = pat.np → its.length = D.dfs.length → zs.length = pat.ks.length → ∃ k, bindArgs (fnD D (.ref T) kV doc pm an cdv ct) ⟨us, pat.ks.zip zs⟩ = seqItems? (.ref T) >>= k ∧ k (some its.toArray) = pure (D.ps.zip (arrU (us ++ zs) its pat.ix))
structure PosOk (D : DD) : Prop where
  b0 : D.dfs = [] → ∀ (kV doc pm : Value) (an : Option Addr) (cdv ct : Value) (us : List Value), us.length = D.ps.length → bindArgs (fnD D .none kV doc pm an cdv ct) ⟨us, []⟩ = pure (D.ps.zip us)
  b1 : D.dfs ≠ [] → ∀ (T : Addr) (kV doc pm : Value) (an : Option Addr) (cdv ct : Value) (us its : List Value), us.length = D.ps.length → its.length = D.dfs.length → ∃ k, bindArgs (fnD D (.ref T) kV doc pm an cdv ct) ⟨us, []⟩ = seqItems? (.ref T) >>= k ∧ k (some its.toArray) = pure (D.ps.zip us)
structure StarOk (D : DD) : Prop where
  d : D.dfs = []
  b : ∃ ps pv, D.ps = ps ++ [pv] ∧ ∀ (kV doc pm : Value) (an : Option Addr) (cdv ct : Value) (us rest : List Value), us.length = ps.length → bindArgs (fnD D .none kV doc pm an cdv ct) ⟨us ++ rest, []⟩ = (newTuple rest >>= fun t => pure (ps.zip us ++ [(pv, t)]))
/-- the defaults as they stand -/
def DflA (K : PySem.W.Frag) (dV : Value) (dfs : List AV) : Prop := (dfs = [] ∧ dV = .none) ∨ (dfs ≠ [] ∧ ∃ (T : Addr) (o : Obj) (its : List Value) (n : Nat), dV = .ref T ∧ K.lookup T = some o ∧ o.data = .seq its.toArray n ∧ CVs K its dfs)
/-- the defaults of the keyword-only parameters -/
def KwdA (K : PySem.W.Frag) (kV : Value) (kwd : List (Str × AV)) : Prop := kwd = [] ∨ ∃ Da : Addr, kV = .ref Da ∧ ∀ q ∈ kwd, ∃ u, PySem.W.nsIn K Da q.1 = some (some u) ∧ CV K u q.2
theorem kwd_cvs {K : PySem.W.Frag} {Da : Addr} : ∀ {ms : List (Str × AV)}, (∀ q ∈ ms, ∃ u, PySem.W.nsIn K Da q.1 = some (some u) ∧ CV K u q.2) →
    ∃ us : List Value, us.length = ms.length ∧ CVs K us (ms.map (·.2)) ∧ ∀ q ∈ (ms.map (·.1)).zip us, PySem.W.nsIn K Da q.1 = some (some q.2)
  | [], _ => ⟨[], rfl, .nil, fun q hq => by cases hq⟩
  | m :: ms, h => by
    obtain ⟨u, e1, e2⟩ := h m List.mem_cons_self
    obtain ⟨us, l, r, a⟩ := kwd_cvs (ms := ms) fun q hq => h q (List.mem_cons_of_mem _ hq)
    refine ⟨u :: us, congrArg Nat.succ l, .cons e2 r, fun q hq => ?_⟩
    rcases List.mem_cons.mp (show q ∈ (m.1, u) :: (ms.map (·.1)).zip us from hq) with e | hq
    · rw [e]; exact e1
    · exact a q hq
/-- lambdas are made here -/
def LamF (W : Wd) (D : DD) (cdv : Value) : Prop := ∃ cc P : Addr, cdv = .ref cc ∧ LamX.TabB W.base W.mg cc P ∧ (P, D.qual ++ ".<locals>." ++ "<lambda>") ∈ W.tabs ∧ ∀ p ∈ W.tabs, p.1 = P → p.2 = D.qual ++ ".<locals>." ++ "<lambda>"
def ctxD (g : GCtx) (D : DD) : SCtx := ⟨D.N, defScope D.st, (defScope D.st).names, D.lam, D.top, g⟩
structure FnFact (W : Wd) (ct : CT) (g : GCtx) (f : Nat) (fd : FD) (D : DD) : Prop where
  sc : FnScope D.N D.ps (defScope D.st)
  nl : fd.nl = D.N.length
  np : D.ps.length = fd.np + (if fd.star then 1 else 0)
  cmp : ∃ k, cSs k (ctxD g D) (defBody D.st) = some fd.body
  lk : ∃ (oc : Value) (od : Option Addr) (dV kV doc pm : Value) (an : Option Addr) (cdv ctv : Value) (osl : Array (Option Value)),
    W.K.lookup (W.fnA f) = some ⟨oc, od, .func (fnD D dV kV doc pm an cdv ctv), osl⟩ ∧ PySem.W.codeIn W.K cdv D.qual = true ∧ (DflA W.K dV D.dfs ∧ KwdA W.K kV D.kwd) ∧ (D.lam = true → LamF W D cdv)
  bd : if fd.star = true then StarOk D else (D.kwd = [] → PosOk D)
  ko : D.kwd ≠ [] → fd.star = false ∧ ct.ko.contains f = true
  pat : ∀ p, (f, p) ∈ ct.pats → D.top = false ∧ fd.star = false ∧ PatOk D p
  top : D.top = true → ct.ko.contains f = true
theorem DflA.binds {K : PySem.W.Frag} {dV : Value} {D : DD} (h : DflA K dV D.dfs) (B : PosOk D) {kV doc pm : Value} {an : Option Addr} {cdv ctv : Value} {s : Shared} (KX : K.In s.heap) {us : List Value} (hl : us.length = D.ps.length) : BindsTo s (fnD D dV kV doc pm an cdv ctv) ⟨us, []⟩ (D.ps.zip us) := by
  rcases h with ⟨h1, rfl⟩ | ⟨h1, T, o, its, n, rfl, lT, oT, cv⟩
  · exact .of_eq (B.b0 h1 kV doc pm an cdv ctv us hl)
  · obtain ⟨k, e1, e2⟩ := B.b1 h1 T kV doc pm an cdv ctv us its hl cv.len
    refine BindsTo.of_looks fun M => ?_
    rw [e1]
    exact looks_items KX lT oT (.of_pure e2)
theorem DflA.bindsK {K : PySem.W.Frag} {dV kV : Value} {D : DD} {pat : Pat} (h : DflA K dV D.dfs) (hk : KwdA K kV D.kwd) (B : PatOk D pat) : ∃ (its : List Value) (dvs : List AV), CVs K its dvs ∧ WfIx dvs (pat.np + pat.ks.length) pat.ix ∧ ∀ {doc pm : Value} {an : Option Addr} {cdv ctv : Value} {s : Shared} (KX : K.In s.heap) {us zs : List Value}, us.length = pat.np → zs.length = pat.ks.length → BindsTo s (fnD D dV kV doc pm an cdv ctv) ⟨us, pat.ks.zip zs⟩ (D.ps.zip (arrU (us ++ zs) its pat.ix)) := by
  by_cases hkw : D.kwd = []
  case neg =>
    obtain ⟨d0, ms, m1, m2, m3⟩ := B.b2 hkw
    rcases hk with z | ⟨Da, rfl, hq⟩
    · exact absurd z hkw
    · obtain ⟨us0, l0, cv, ns⟩ := kwd_cvs (ms := ms) fun q hm => hq q (m1 q hm)
      have hdV : dV = .none := by
        rcases h with ⟨_, z⟩ | ⟨z, _⟩
        · exact z
        · exact absurd d0 z
      subst hdV
      exact ⟨us0, _, cv, m2, fun {doc pm an cdv ctv s} KX {us zs} l1 l2 => BindsTo.of_looks fun M => KwChain.looks KX ns (m3 Da doc pm an cdv ctv us us0 zs l1 l0 l2)⟩
  rcases h with ⟨h1, rfl⟩ | ⟨h1, T, o, its, n, rfl, lT, oT, cv⟩
  · exact ⟨[], [], .nil, by have := B.wf hkw; rw [h1] at this; exact this, fun {doc pm an cdv ctv s} KX {us zs} l1 l2 => .of_eq (B.b0 hkw h1 kV doc pm an cdv ctv us zs l1 l2)⟩
  · refine ⟨its, _, cv, B.wf hkw, fun {doc pm an cdv ctv s} KX {us zs} l1 l2 => ?_⟩
    obtain ⟨k, e1, e2⟩ := B.b1 hkw h1 T kV doc pm an cdv ctv us its zs l1 cv.len l2
    refine BindsTo.of_looks fun M => ?_
    rw [e1]
    exact looks_items KX lT oT (.of_pure e2)
/-- values in the parameters' order -/
theorem arr_vals {W : Wd} {vs : List V} {us its : List Value} {dfs : List AV} (r : Vals vs us) (cv : CVs W.K its dfs) : ∀ {ix : List AI}, WfIx dfs vs.length ix → ∃ ys, ArrV W vs ix ys ∧ Vals ys (arrU us its ix)
  | [], _ => ⟨[], .nil, .nil⟩
  | .pl i :: r', h => by
    obtain ⟨h1, h2⟩ := h
    obtain ⟨ys, h3, h4⟩ := arr_vals r cv h2
    obtain ⟨u, g1, g2⟩ := r.get (List.getElem?_eq_getElem h1)
    refine ⟨vs[i] :: ys, .pl (List.getElem?_eq_getElem h1) h3, .cons ?_ h4⟩
    simp only [List.getD, g1, Option.getD_some]
    exact g2
  | .dv j a :: r', h => by
    obtain ⟨h1, h2⟩ := h
    obtain ⟨ys, h3, h4⟩ := arr_vals r cv h2
    obtain ⟨v, g1, g2⟩ := (cv.get h1).ok
    exact ⟨v :: ys, .dv g2 h3, .cons g1 h4⟩
theorem arrU_len {xs its : List Value} : ∀ {ix : List AI}, (arrU xs its ix).length = ix.length
  | [] => rfl
  | .pl _ :: r => by simp [arrU, arrU_len (ix := r)]
  | .dv _ _ :: r => by simp [arrU, arrU_len (ix := r)]
theorem Reps.locR {W : Wd} {c : Cf} {vs : List V} {xs : List AV} (r : Reps W c vs xs) (a b : Nat) (h : vs.length + a = xs.length + b) : LocR W c (vs.map some ++ List.replicate a none) (xs.map some ++ List.replicate b none) := by
  refine ⟨by simp; omega, fun i z e => ?_⟩
  by_cases hi : i < xs.length
  · rw [List.getElem?_append_left (by simpa using hi), List.getElem?_map] at e
    cases q : xs[i]? with
    | none => rw [q] at e; cases e
    | some y =>
      rw [q] at e
      cases e
      obtain ⟨v, h1, h2⟩ := r.get q
      refine ⟨v, ?_, h2⟩
      rw [List.getElem?_append_left (by rw [List.length_map, r.length]; exact hi), List.getElem?_map, h1]
      rfl
  · rw [List.getElem?_append_right (by simpa using hi), List.getElem?_replicate] at e
    split at e <;> cases e

def spB (W : Wd) (C : Orc) (body : S) (N ps : List Str) : Sp := fun vs H Q E => ∃ (c : Cf) (σ : Loc), c.H = H ∧ Sim W c ∧ vs.length = ps.length ∧ LocR W c (L2.start N vs) σ ∧ End W (fun cls d _ H => E cls d H) [] c (Rep W) Q (M.bind (xec C body σ) flowV c.h)
theorem body_ok {W : Wd} {g : GCtx} {C : Orc} {n0 : Nat} {fd : FD} {D : DD} {f : Addr} {cdv : Value} (T : TopOk W C.ct g) (O : COk W n0 C) (sc : FnScope D.N D.ps (defScope D.st)) (cmp : ∃ k, cSs k (ctxD g D) (defBody D.st) = some fd.body) (hL : D.lam = true → LamF W D cdv)
    (hT : D.top = true → (∀ (A : Around) (outer : List Env) (s : Shared) (H : Hp) (E : XK), cellsFrom (s.heap.objs.size + 1) (defScope D.st).names [] = W.cells → TopX W (cxOf (L2.CX W.P W.w) W.P W.w W.K W.mg W.base D.N D.qual (defScope D.st) f cdv A outer s H E)) ∧ LamProm W n0 C ∧ ∀ n k ps ox body scope b, LamS2 D.N (defScope D.st) scope ox → LamPs ps ox → cE n (lamCtx (ctxD g D) scope) body = some b → C.lamOk k b = true → W.lamP k ps ox body scope) :
    ∀ (A : Around) (outer : List Env) (s : Shared) (H : Hp) (vs : List V) (Q : VK) (E : XK), (D.top = true → cellsFrom (s.heap.objs.size + 1) (defScope D.st).names [] = W.cells) → Room (n0 + 5) (A.deeper (envOfC D.qual (defScope D.st) s.heap.objs.size f cdv)) → spB W C fd.body D.N D.ps vs H Q E →
      ∃ t, PSs (cxOf (L2.CX W.P W.w) W.P W.w W.K W.mg W.base D.N D.qual (defScope D.st) f cdv A outer s H E) (defBody D.st) t ∧ t { nx := fun _ H' => Q .non H', rt := Q } (L2.start D.N vs) H := by
  rintro A outer s H vs Q E hce hr ⟨c, σ, rfl, sim, hl, l, en⟩
  obtain ⟨mm, hm⟩ := cmp
  have K : CtxOk W (fun cls d _ H => E cls d H) (n0 + 5) (cxOf (L2.CX W.P W.w) W.P W.w W.K W.mg W.base D.N D.qual (defScope D.st) f cdv A outer s c.H E) := ⟨rfl, rfl, rfl, rfl, rfl, rfl, hr, takes_of rfl rfl rfl rfl, sc.nd⟩
  have st : StatOk (cxOf (L2.CX W.P W.w) W.P W.w W.K W.mg W.base D.N D.qual (defScope D.st) f cdv A outer s c.H E) (ctxD g D) := by
    refine ⟨rfl, rfl, fun x h => ⟨?_, .inl rfl⟩⟩
    unfold canSt at h
    show (defScope D.st).names.lookup x = some .local ∨ (defScope D.st).names.lookup x = some .cell
    split at h
    · exact .inl (by assumption)
    · exact .inr (by assumption)
    · cases h
  have hh : Here W C g n0 (ctxD g D) (fun cls d _ H => E cls d H) (cxOf (L2.CX W.P W.w) W.P W.w W.K W.mg W.base D.N D.qual (defScope D.st) f cdv A outer s c.H E) := by
    refine ⟨rfl, st, n0 + 5, by omega, K, fun hlam => ⟨Nat.le_refl _, ?_⟩, fun ht => ?_⟩
    · obtain ⟨cc, P, h1, h2, h3, h4⟩ := hL hlam
      exact ⟨cc, P, h1, h2, h3, h4⟩
    · obtain ⟨t1, t2, t3⟩ := hT ht
      exact ⟨Nat.le_refl _, t1 A outer s c.H E (hce ht), t2, t3⟩
  refine ⟨_, pss_w, ?_⟩
  refine (cS_all (W := W) (C := C) (n0 := n0) T O mm).2 (ctxD g D) _ _ hh (passes_of rfl) (defBody D.st) fd.body hm c (L2.start D.N vs) σ _ sim l ?_
  cases q : xec C fd.body σ c.h with
  | bad => unfold M.bind at en; rw [q] at en; exact en
  | exc k ks xs h' =>
    unfold M.bind at en
    rw [q] at en
    exact fun ρ' H' d fs S' => en ρ' H' d fs
  | ok fl h' =>
    unfold M.bind at en
    rw [q] at en
    cases fl with
    | nx σ' => exact fun ρ' H' S' s' x' l' => en ρ' H' .non s' x' .non
    | rt v => exact en
    | bk σ' => exact en.elim
    | ct σ' => exact en.elim
/-- what a call comes to, by its body -/
theorem run_body {T : Tab} {k f : Nat} {fd : FD} (hf : T.fns[f]? = some fd) {W : Wd} {c : Cf} {args : List AV} {Q : VK} {E : XK} (sim : Sim W c) (en : End W (fun cls d _ H => E cls d H) [] c (Rep W) Q (run T (k + 1) f args c.h)) :
    ∃ σ, startL fd args = some σ ∧ End W (fun cls d _ H => E cls d H) [] c (Rep W) Q (M.bind (xec (orc T k) fd.body σ) flowV c.h) := by
  rw [run_s] at en
  simp only [hf] at en
  cases q : startL fd args with
  | none => rw [q] at en; exact en.elim
  | some σ =>
    rw [q] at en
    refine ⟨σ, rfl, ?_⟩
    cases hz : fd.fz with
    | true =>
      have en : End W (fun cls d _ H => E cls d H) [] c (Rep W) Q (if fd.fz = true then exitO c.h (M.bind (xec (orc T k) fd.body σ) flowV c.h) else M.bind (xec (orc T k) fd.body σ) flowV c.h) := en
      rw [hz, if_pos rfl] at en
      exact End.exit sim en
    | false =>
      have en : End W (fun cls d _ H => E cls d H) [] c (Rep W) Q (if fd.fz = true then exitO c.h (M.bind (xec (orc T k) fd.body σ) flowV c.h) else M.bind (xec (orc T k) fd.body σ) flowV c.h) := en
      rw [hz, if_neg (by decide)] at en
      exact en
theorem start_pos {fd : FD} {args : List AV} {σ : Loc} (hs : fd.star = false) (h : startL fd args = some σ) : args.length = fd.np ∧ σ = args.map some ++ List.replicate (fd.nl - fd.np) none := by
  unfold startL at h
  rw [hs, if_neg (by decide)] at h
  split at h
  · rename_i hl
    cases h
    exact ⟨hl, rfl⟩
  · cases h
theorem ps_le {D : DD} (sc : FnScope D.N D.ps (defScope D.st)) : D.ps.length ≤ D.N.length := by
  have := congrArg List.length sc.pre
  rw [List.length_take] at this
  omega
/-- the def's promise, by its body -/
theorem fn_okG {W : Wd} {T : Tab} {g : GCtx} {k f : Nat} {fd : FD} {D : DD} (top : TopOk W T.ct g) (O : COk W (6 * k) (orc T k)) (hf : T.fns[f]? = some fd) (F : FnFact W T.ct g f fd D) (hs : fd.star = false) {oc : Value} {od : Option Addr} {dV kV doc pm : Value} {an : Option Addr} {cdv ctv : Value} {osl : Array (Option Value)}
    (lk : W.K.lookup (W.fnA f) = some ⟨oc, od, .func (fnD D dV kV doc pm an cdv ctv), osl⟩) (hcd : PySem.W.codeIn W.K cdv D.qual = true) (hL : D.lam = true → LamF W D cdv) (hnt : D.top = false) :
    FnOk W.P W.w W.K W.mg W.base (L2.CX W.P W.w) (6 * (k + 1)) (W.fnA f) (fnD D dV kV doc pm an cdv ctv) D.ps (fun vs H Q E => vs.length = D.ps.length ∧ spI W (orc T (k + 1)) f vs H Q E) := by
  have body := body_ok (n0 := 6 * k) (fd := fd) (D := D) (f := W.fnA f) (cdv := cdv) (C := orc T k) top O F.sc F.cmp hL (fun z => by rw [hnt] at z; cases z)
  have body := fun A outer s H vs Q E => body A outer s H vs Q E (fun z => by rw [hnt] at z; cases z)
  have G : FnOk W.P W.w W.K W.mg W.base (L2.CX W.P W.w) (6 * k + 5 + 1) (W.fnA f) _ D.ps (spB W (orc T k) fd.body D.N D.ps) := fn_of lk hcd F.sc (fun vs H Q E ⟨_, _, _, _, hl, _⟩ => hl) body
  refine (G.mono (show 6 * k + 5 + 1 ≤ 6 * (k + 1) by omega)).imp fun vs H Q E ⟨hvl, c, args, hc, sim, ra, en⟩ => ?_
  obtain ⟨σ, hst, en2⟩ := run_body hf sim en
  obtain ⟨h1, rfl⟩ := start_pos hs hst
  refine ⟨c, _, hc, sim, hvl, ?_, en2⟩
  unfold L2.start
  refine Reps.locR ra _ _ ?_
  have h3 := F.nl
  have h4 := ps_le F.sc
  have h5 := ra.length
  have h6 := F.np
  rw [hs] at h6
  simp at h6
  omega
theorem fn_snd {W : Wd} {T : Tab} {g : GCtx} (top : TopOk W T.ct g) (hct : CTOk W T.ct) (hpt : ∀ f pat, (f, pat) ∈ T.ct.pats → (T.fns[f]?).isSome = true) (facts : ∀ f fd, T.fns[f]? = some fd → ∃ D, FnFact W T.ct g f fd D) : ∀ k, COk W (6 * k) (orc T k)
  | 0 => ⟨fun f _ A outer s H us vs Q E hr e0 r ⟨c, args, _, _, _, en⟩ => en.elim, hct, fun f pat hp A outer s H us zs vs ws Q E l1 l2 hr e0 r rz h => by
      cases hf : T.fns[f]? with
      | none => have := hpt f pat hp; rw [hf] at this; cases this
      | some fd =>
        obtain ⟨D, F⟩ := facts f fd hf
        obtain ⟨oc, od, dV, kV, doc, pm, an, cdv, ctv, osl, lk, hcd, ⟨dfl, kwd⟩, hL⟩ := F.lk
        obtain ⟨_, hs, P⟩ := F.pat pat hp
        obtain ⟨its, dvs, cv, wf, bnd⟩ := dfl.bindsK kwd P
        obtain ⟨ys, a1, a2⟩ := arr_vals (W := W) (r.append rz) cv (ix := pat.ix) (by
          have := wf
          rw [List.length_append, r.length, rz.length, l1, l2]; exact this)
        obtain ⟨c, args, _, _, _, en⟩ := h ys a1
        exact en.elim, rfl, rfl⟩
  | k + 1 => by
    have O := fn_snd top hct hpt facts k
    refine ⟨fun f hko => ?_, hct, fun f pat hp => ?_, rfl, rfl⟩
    · cases hf : T.fns[f]? with
      | none =>
        intro A outer s H us vs Q E hr e0 r ⟨c, args, _, _, _, en⟩
        have z : (orc T (k + 1)).call f args = M.bad := by show run T (k + 1) f args = _; rw [run_s, hf]
        rw [z] at en
        exact en.elim
      | some fd =>
        obtain ⟨D, F⟩ := facts f fd hf
        obtain ⟨oc, od, dV, kV, doc, pm, an, cdv, ctv, osl, lk, hcd, ⟨dfl, kwd⟩, hL⟩ := F.lk
        cases hs : fd.star with
        | false =>
          have hnt : D.top = false := Bool.eq_false_iff.mpr fun z => by
            have q := F.top z
            have hko : T.ct.ko.contains f = false := hko
            rw [hko] at q; cases q
          have G := fn_okG top O hf F hs lk hcd hL hnt
          have bd := F.bd
          rw [hs, if_neg (by decide)] at bd
          have hkw : D.kwd = [] := Classical.byContradiction fun z => by
            have := (F.ko z).2
            have hko : T.ct.ko.contains f = false := hko
            rw [hko] at this; cases this
          have bd := bd hkw
          intro A outer s H us vs Q E hr e0 r sp
          have hvl : vs.length = D.ps.length := by
            obtain ⟨c, args, hc, sim, ra, en⟩ := sp
            obtain ⟨σ, hst, _⟩ := run_body hf sim en
            obtain ⟨h1, _⟩ := start_pos hs hst
            have h6 := F.np
            rw [hs] at h6
            simp at h6
            rw [ra.length, h1, h6]
          exact G.run A outer s H ⟨us, []⟩ us vs Q E hr e0 (dfl.binds bd (e0.mod.kin.keeps fun b o e => (e0.bs b o e).1) (by rw [← r.length]; exact hvl)) r ⟨hvl, sp⟩
        | true =>
          have hnt : D.top = false := Bool.eq_false_iff.mpr fun z => by
            have q := F.top z
            have hko : T.ct.ko.contains f = false := hko
            rw [hko] at q; cases q
          have bd := F.bd
          rw [hs, if_pos rfl] at bd
          obtain ⟨hd, ps, pv, hps, bd⟩ := bd
          have hdV : dV = .none := by
            rcases dfl with ⟨_, z⟩ | ⟨z, _⟩
            · exact z
            · exact absurd hd z
          subst hdV
          have body := body_ok (n0 := 6 * k) (fd := fd) (D := D) (f := W.fnA f) (cdv := cdv) (C := orc T k) top O F.sc F.cmp hL (fun z => by rw [hnt] at z; cases z)
          have body := fun A outer s H vs Q E => body A outer s H vs Q E (fun z => by rw [hnt] at z; cases z)
          have hnp := F.np
          rw [hs, if_pos rfl] at hnp
          have hsc : FnScope D.N (ps ++ [pv]) (defScope D.st) := by rw [← hps]; exact F.sc
          have G := StX.fn_star (sp := spB W (orc T k) fd.body D.N D.ps) lk hcd hsc StX.cxUp (bd kV doc pm an cdv ctv) body
          refine FnR.imp (FnR.mono G (show 6 * k + 5 + 1 ≤ 6 * (k + 1) by omega)) fun vs H Q E ⟨c, args, hc, sim, ra, en⟩ => ?_
          obtain ⟨σ, hst, en2⟩ := run_body hf sim en
          unfold startL at hst
          rw [hs, if_pos rfl] at hst
          split at hst
          · rename_i hl
            cases hst
            have h1 := ra.length
            have hp2 : ps.length = fd.np := by
              have := congrArg List.length hps
              rw [List.length_append, hnp] at this
              simp at this
              omega
            refine ⟨vs.take fd.np, vs.drop fd.np, (List.take_append_drop _ _).symm, by rw [List.length_take, hp2]; omega, by rw [List.length_drop, line_eq]; omega, fun p hp => ?_⟩
            subst hc
            have x : Ext c { c with H := upd c.H p (.tup (vs.drop fd.np)) } := Ext.new sim hp
            refine ⟨{ c with H := upd c.H p (.tup (vs.drop fd.np)) }, _, rfl, sim.new hp, by rw [hps, List.length_append, List.length_append, List.length_take, hp2]; simp; omega, ?_, End.after x en2⟩
            have e1 : (args.take fd.np).map some ++ (some (AV.tup (args.drop fd.np)) :: List.replicate (fd.nl - fd.np - 1) none) = (args.take fd.np ++ [AV.tup (args.drop fd.np)]).map some ++ List.replicate (fd.nl - fd.np - 1) none := by simp
            rw [e1]
            unfold L2.start
            refine Reps.locR (((ra.take fd.np).to x).append (.cons (Rep.newTup sim hp (ra.drop fd.np)) .nil)) _ _ ?_
            have h3 := F.nl
            have h4 := ps_le F.sc
            simp only [List.length_append, List.length_take, List.length_singleton]
            omega
          · cases hst
    · cases hf : T.fns[f]? with
      | none => have := hpt f pat hp; rw [hf] at this; cases this
      | some fd =>
        obtain ⟨D, F⟩ := facts f fd hf
        obtain ⟨oc, od, dV, kV, doc, pm, an, cdv, ctv, osl, lk, hcd, ⟨dfl, kwd⟩, hL⟩ := F.lk
        obtain ⟨hnt, hs, P⟩ := F.pat pat hp
        have G := fn_okG top O hf F hs lk hcd hL hnt
        obtain ⟨its, dvs, cv, wf, bnd⟩ := dfl.bindsK kwd P
        intro A outer s H us zs vs ws Q E l1 l2 hr e0 r rz h
        obtain ⟨ys, a1, a2⟩ := arr_vals (W := W) (r.append rz) cv (ix := pat.ix) (by
          have := wf
          rw [List.length_append, r.length, rz.length, l1, l2]; exact this)
        exact G.run A outer s H ⟨us, pat.ks.zip zs⟩ _ ys Q E hr e0 (bnd (e0.mod.kin.keeps fun b o e => (e0.bs b o e).1) l1 l2) a2 ⟨by rw [a2.length, arrU_len, P.len], h ys a1⟩
/-! ### the def whose lambdas are kept -/
def Wd.at (W : Wd) (cl : List (Str × Addr)) : Wd := { W with cells := cl }
def LPd (T : Tab) (g : GCtx) (D : DD) (k : Nat) (ps : Arguments) (ox : Option Str) (body : Expr) (scope : Scope) : Prop :=
  LamS2 D.N (defScope D.st) scope ox ∧ LamPs ps ox ∧ ∃ n ib, cE n (lamCtx (ctxD g D) scope) body = some ib ∧ T.lams[k]? = some ib
/-- W is made for the def D -/
structure ForD (W : Wd) (T : Tab) (g : GCtx) (D : DD) : Prop where
  N : W.tN = D.N
  sc : W.tsc = defScope D.st
  lq : W.lq = D.qual ++ ".<locals>." ++ "<lambda>"
  lp : W.lamP = LPd T g D
  nd : ∀ n, ((cellsFrom n (defScope D.st).names []).map (·.1)).Nodup
theorem lam_prom {W : Wd} {T : Tab} {g : GCtx} {D : DD} (fd : ForD W T g D) (top : TopOk W T.ct g) (O : ∀ k, COk W (6 * k) (orc T k)) : ∀ k, LamProm W (6 * k) (orc T k)
  | 0 => fun kk ps ox body scope h => by
    rw [fd.lp] at h
    obtain ⟨L, hp, n, ib, h1, h2⟩ := h
    exact ⟨by rw [fd.N, fd.sc]; exact L, hp, fun X TX A outer s H E f c' KL c S σ Q sim l e => e.elim⟩
  | k + 1 => fun kk ps ox body scope h => by
    rw [fd.lp] at h
    obtain ⟨L, hp, n, ib, h1, h2⟩ := h
    refine ⟨by rw [fd.N, fd.sc]; exact L, hp, fun X TX A outer s H E f c' KL c S σ Q sim l e => ?_⟩
    have e : End W (fun cls d _ H => E cls d H) S c (Rep W) Q (lamW T (orc T k) kk σ c.h) := e
    unfold lamW at e
    rw [h2] at e
    refine (comp_snd top (O k) n).e (lamCtx (ctxD g D) scope) (fun cls d _ H => E cls d H) (LamX.lamCx X A outer s H E scope f c') ⟨rfl, ⟨TX.N.trans fd.N, rfl, fun y hy => ?_⟩, 6 * (k + 1), by omega, KL, fun z => (by cases z), fun z => by cases z⟩ body ib h1 c S σ Q sim l e
    simp [canSt, lamCtx] at hy
theorem fn_okL {W : Wd} {T : Tab} {g : GCtx} {k f : Nat} {fd : FD} {D : DD} (FD : ForD W T g D) (top : ∀ cl, TopOk (W.at cl) T.ct g) (O : ∀ cl k, COk (W.at cl) (6 * k) (orc T k)) (hf : T.fns[f]? = some fd) (F : FnFact W T.ct g f fd D) (hs : fd.star = false) {oc : Value} {od : Option Addr} {dV kV doc pm : Value} {an : Option Addr} {cdv ctv : Value} {osl : Array (Option Value)}
    (lk : W.K.lookup (W.fnA f) = some ⟨oc, od, .func (fnD D dV kV doc pm an cdv ctv), osl⟩) (hcd : PySem.W.codeIn W.K cdv D.qual = true) (hL : LamF W D cdv) :
    FnOk W.P W.w W.K W.mg W.base (L2.CX W.P W.w) (6 * (k + 1)) (W.fnA f) (fnD D dV kV doc pm an cdv ctv) D.ps (fun vs H Q E => vs.length = D.ps.length ∧ ∀ cl, spI (W.at cl) (orc T (k + 1)) f vs H Q E) := by
  have body : ∀ (A : Around) (outer : List Env) (s : Shared) (H : Hp) (vs : List V) (Q : VK) (E : XK), Room (6 * k + 5) (A.deeper (envOfC D.qual (defScope D.st) s.heap.objs.size (W.fnA f) cdv)) → (vs.length = D.ps.length ∧ ∀ cl, spB (W.at cl) (orc T k) fd.body D.N D.ps vs H Q E) →
      ∃ t, PSs (cxOf (L2.CX W.P W.w) W.P W.w W.K W.mg W.base D.N D.qual (defScope D.st) (W.fnA f) cdv A outer s H E) (defBody D.st) t ∧ t { nx := fun _ H' => Q .non H', rt := Q } (L2.start D.N vs) H := fun A outer s H vs Q E hr sp => by
    obtain ⟨cl, hcl⟩ : ∃ cl, cl = cellsFrom (s.heap.objs.size + 1) (defScope D.st).names [] := ⟨_, rfl⟩
    have FD' : ForD (W.at cl) T g D := ⟨FD.N, FD.sc, FD.lq, FD.lp, FD.nd⟩
    refine body_ok (W := W.at cl) (n0 := 6 * k) (fd := fd) (D := D) (f := W.fnA f) (cdv := cdv) (C := orc T k) (top cl) (O cl k) F.sc F.cmp (fun _ => hL) (fun _ => ⟨fun A outer s H E hce => ?_, lam_prom FD' (top cl) (O cl) k, fun n kk ps ox body scope b h1 h2 h3 h4 => ?_⟩) A outer s H vs Q E (fun _ => hcl.symm) hr (sp.2 cl)
    · obtain ⟨cc, P, l1, l2, l3, l4⟩ := hL
      exact ⟨hce, FD.N.symm, FD.sc.symm, FD.lq, FD.nd _, ⟨cc, P, l1, l2, l3, l4⟩, fun _ => rfl⟩
    · show W.lamP kk ps ox body scope
      rw [FD.lp]
      exact ⟨h1, h2, n, b, h3, (orc_lamOk T k).mp h4⟩
  have G : FnOk W.P W.w W.K W.mg W.base (L2.CX W.P W.w) (6 * k + 5 + 1) (W.fnA f) _ D.ps (fun vs H Q E => vs.length = D.ps.length ∧ ∀ cl, spB (W.at cl) (orc T k) fd.body D.N D.ps vs H Q E) := fn_of lk hcd F.sc (fun vs H Q E h => h.1) body
  refine (G.mono (show 6 * k + 5 + 1 ≤ 6 * (k + 1) by omega)).imp fun vs H Q E ⟨hvl, h⟩ => ⟨hvl, fun cl => ?_⟩
  obtain ⟨c, args, hc, sim, ra, en⟩ := h cl
  obtain ⟨σ, hst, en2⟩ := run_body hf sim en
  obtain ⟨h1, rfl⟩ := start_pos hs hst
  refine ⟨c, _, hc, sim, hvl, ?_, en2⟩
  unfold L2.start
  refine Reps.locR ra _ _ ?_
  have h3 := F.nl
  have h4 := ps_le F.sc
  have h5 := ra.length
  have h6 := F.np
  rw [hs] at h6
  simp at h6
  omega
end NT
set_option linter.all false
set_option maxRecDepth 100000
set_option autoImplicit false
namespace NT
open PySem PySem.Spec PyProof.Rows L2
/-- a def as it stands behind the top -/
structure DefIn (K : PySem.W.Frag) (D : DD) (f : Addr) : Prop where
  lk : ∃ (oc : Value) (od : Option Addr) (dV kV doc pm : Value) (an : Option Addr) (cdv ct : Value) (osl : Array (Option Value)),
    K.lookup f = some ⟨oc, od, .func (fnD D dV kV doc pm an cdv ct), osl⟩ ∧ PySem.W.codeIn K cdv D.qual = true ∧ (DflA K dV D.dfs ∧ KwdA K kV D.kwd)
  kp : PySem.W.keepIn K (.ref f) = true
/-- what is checked of a def by its text alone -/
structure Stat (ct : CT) (g : GCtx) (f : Nat) (fd : FD) (D : DD) : Prop where
  sc : FnScope D.N D.ps (defScope D.st)
  nl : fd.nl = D.N.length
  np : D.ps.length = fd.np + (if fd.star then 1 else 0)
  cmp : ∃ k, cSs k (ctxD g D) (defBody D.st) = some fd.body
  bd : if fd.star = true then StarOk D else (D.kwd = [] → PosOk D)
  ko : D.kwd ≠ [] → fd.star = false ∧ ct.ko.contains f = true
  pat : ∀ p, (f, p) ∈ ct.pats → D.top = false ∧ fd.star = false ∧ PatOk D p
  top : D.top = true → ct.ko.contains f = true
theorem Stat.fact {W : Wd} {ct : CT} {g : GCtx} {fd : FD} {D : DD} {f : Nat} (s : Stat ct g f fd D) (h : DefIn W.K D (W.fnA f)) (hl : ∀ (oc : Value) (od : Option Addr) (dV kV doc pm : Value) (an : Option Addr) (cdv ct : Value) (osl : Array (Option Value)), W.K.lookup (W.fnA f) = some ⟨oc, od, .func (fnD D dV kV doc pm an cdv ct), osl⟩ → D.lam = true → LamF W D cdv) : FnFact W ct g f fd D := by
  obtain ⟨oc, od, dV, kV, doc, pm, an, cdv, ctv, osl, lk, hcd, dfl⟩ := h.lk
  exact ⟨s.sc, s.nl, s.np, s.cmp, ⟨oc, od, dV, kV, doc, pm, an, cdv, ctv, osl, lk, hcd, dfl, hl _ _ _ _ _ _ _ _ _ _ lk⟩, s.bd, s.ko, s.pat, s.top⟩
theorem Stat.fact0 {W : Wd} {ct : CT} {g : GCtx} {fd : FD} {D : DD} {f : Nat} (s : Stat ct g f fd D) (h : DefIn W.K D (W.fnA f)) (hl : D.lam = false) : FnFact W ct g f fd D := s.fact h fun _ _ _ _ _ _ _ _ _ _ _ z => by rw [hl] at z; cases z
/-- the code object and its table, of a def of the module -/
theorem lam_of {W : Wd} {D : DD} {f : Nat} {c P : Addr} (hn : PySem.W.nsIn W.K mainGlobals D.name = some (some (.ref (W.fnA f)))) (ht : PySem.W.tabIn W.K D.name = some (c, P)) (TB : LamX.TabB W.base W.mg c P) (hm : (P, D.qual ++ ".<locals>." ++ "<lambda>") ∈ W.tabs) (hu : ∀ p ∈ W.tabs, p.1 = P → p.2 = D.qual ++ ".<locals>." ++ "<lambda>")
    (oc : Value) (od : Option Addr) (dV kV doc pm : Value) (an : Option Addr) (cdv ct : Value) (osl : Array (Option Value)) (lk : W.K.lookup (W.fnA f) = some ⟨oc, od, .func (fnD D dV kV doc pm an cdv ct), osl⟩) : LamF W D cdv := by
  refine ⟨c, P, ?_, TB, hm, hu⟩
  unfold PySem.W.tabIn at ht
  rw [hn] at ht
  simp only [lk] at ht
  have hc : (fnD D dV kV doc pm an cdv ct).code = cdv := rfl
  rw [hc] at ht
  split at ht
  · rename_i c2
    split at ht
    · split at ht
      · cases ht; rfl
      · cases ht
    · cases ht
  · cases ht
def spL (K : PySem.W.Frag) : Sp := fun vs H Q _ => ∃ (a : Addr) (ns : List Int), vs = [.ref a] ∧ ns.length ≤ 63 ∧ (∀ z ∈ ns, Builtin.Int.intBits z ≤ 1048576) ∧ SqL K H a (ns.map V.int) ∧ ∀ H', Q (.bl true) H'
theorem reps_ints {W : Wd} {c : Cf} : ∀ ns : List Int, Reps W c (ns.map V.int) (ns.map AV.int)
  | [] => .nil
  | n :: ns => .cons (.int n) (reps_ints ns)
theorem cxF {P : Program} {w : World} {H : Hp} {s : Shared} {e : Value} {s' : Shared} (h : L2.CX P w [] H s (fun _ _ _ => False) e s') : False := by
  obtain ⟨_, _, _, _, _, _, _, _, _, _, _, _, z⟩ := h
  exact z
theorem tabs_start {tb : List (Addr × Addr × Str)} {H : Hp} (h : ∀ q ∈ tb, H q.2.1 = some (.tbl #[])) : LamX.Tabs (tb.map (·.2)) H := fun p hp => by
  obtain ⟨q, h1, rfl⟩ := List.mem_map.mp hp
  exact LamX.TabS.nil (h q h1)
theorem no_live {H : Hp} {p : Addr} : ¬ Live ⟨[], [], H, []⟩ p := fun hp => by
  rcases hp with z | ⟨n, o, z, _⟩
  · cases z
  · simp at z
/-- the tables of the text's defs are empty -/
def TabsOk (q : Program) (K : PySem.W.Frag) (h : Heap) : Prop := ∀ x c P, ((recsOf q).any fun e => e.name == x) = true → PySem.W.tabIn K x = some (c, P) → PySem.W.CodeHd h c P ∧ h.get? P = some { cls := .none, data := .fields #[] }
theorem walk_tabs {l : PySem.W.OpenLaw} {n k : Nat} {q : Program} {loose : List Str} {XP : (Str → Option Value) → Heap → Prop} {YP : World → Heap → Prop} {d : DefRec} {CX : World → CXT} {x : Str}
    (hn : l.most = some n) (hn2 : n ≤ sizeLine) (hdf : d.params.defaults = []) (hr : Room k callerA)
    (F : ∀ (w : World) (mg : Str → Option Value) (fa : Addr) (h : Heap), YP w h → h.Ns mainGlobals mg → mg d.name = some (.ref fa) → (∀ K : PySem.W.Frag, K.In h → TabsOk q K h) → ∃ K : PySem.W.Frag, K.In h ∧ LamX.LawAtS l w K (CX w) k n x mg fa h)
    (hCX : ∀ (w : World) (H : Hp) (s : Shared) (e : Value) (s' : Shared), CX w [] H s (fun _ _ _ => False) e s' → False) :
    PySem.W.WalkO q loose XP YP l.row.toRowW d [] (fun f vs => PySem.call f vs) := by
  refine Att.attach_callB hn hdf fun w s₀ s₁ mg mb fa o pm cd doc a vs ns G Y ho hd hcd hmg hobj hints hlen hbits hg => ?_
  have own : ∀ K : PySem.W.Frag, K.In s₁.heap → TabsOk q K s₁.heap := fun K KX x c P hx ht => by
    cases hfd : (recsOf q).find? (fun e => e.name == x) with
    | none =>
      obtain ⟨dL, hm, hn1⟩ := List.any_eq_true.mp hx
      exact absurd hn1 (List.find?_eq_none.mp hfd dL hm)
    | some dr => exact PySem.W.tab_of G.T KX hfd ht
  obtain ⟨K, KX, fd, cs, sp, hT, nT, C, hb, hsp, hF⟩ := F w mg fa _ Y G.T.g hmg own
  exact LamX.law_callTs KX G.T.g G.T.b G.T.builtins G.T.nolimit hg hT nT C G.T.bmain hobj hints (Nat.le_trans hlen hn2) hr hF hb (fun H hH hS => hsp H a ns hlen hbits hH hS) fun H e s' => hCX w H s₁ e s'
/-- the world of a law whose def is D -/
abbrev wdL (P : Program) (w : World) (K : PySem.W.Frag) (mg : Str → Option Value) (base : Heap) (clsA fnA : Nat → Addr) (nm : Nat → Str) (tabs : List (Addr × Str)) (cl : List (Str × Addr)) (T : Tab) (g : GCtx) (D : DD) : Wd := ⟨P, w, K, mg, base, clsA, fnA, nm, tabs, cl, D.N, defScope D.st, D.qual ++ ".<locals>." ++ "<lambda>", LPd T g D⟩
/-- the cells of a def's frame have different names -/
theorem cells_nd {names : List (Str × NameKind)} (h : (names.map (·.1)).Nodup) : ∀ n, ((cellsFrom n names []).map (·.1)).Nodup := by
  have gen : ∀ (names : List (Str × NameKind)) (n : Nat) (acc : List (Str × Addr)), (names.map (·.1)).Nodup → (acc.map (·.1)).Nodup → (∀ p ∈ acc, p.1 ∉ names.map (·.1)) → ((cellsFrom n names acc).map (·.1)).Nodup := by
    intro names
    induction names with
    | nil => intro n acc _ h2 _; exact h2
    | cons y r ih =>
      intro n acc h1 h2 h3
      simp only [List.map_cons, List.nodup_cons] at h1
      have keep : ∀ p ∈ acc, p.1 ∉ r.map (·.1) := fun p hp z => h3 p hp (by simp [z])
      obtain ⟨x, k⟩ := y
      cases k
      case cell =>
        refine ih _ _ h1.2 ?_ ?_
        · simp only [List.map_cons, List.nodup_cons]
          exact ⟨fun z => by
            obtain ⟨p, hp, e⟩ := List.mem_map.mp z
            exact h3 p hp (by rw [e]; simp), h2⟩
        · intro p hp
          rcases List.mem_cons.mp hp with z | z
          · rw [z]; exact h1.1
          · exact keep p z
      all_goals exact ih _ _ h1.2 h2 keep
  exact fun n => gen names n [] h List.nodup_nil (fun p hp => by cases hp)
theorem law_walk {l : PySem.W.OpenLaw} {q : Program} {loose : List Str} {XP : (Str → Option Value) → Heap → Prop} {YP : World → Heap → Prop} {d : DefRec} {T : Tab} {g : GCtx} {x : Str} {k fl : Nat} {fd : FD} {D : DD}
    (hn : l.most = some 63) (hdf : d.params.defaults = []) (hr : Room (6 * (k + 1)) callerA)
    (hT : T.fns[fl]? = some fd) (hps : D.ps = [x]) (hst : fd.star = false) (hdd : D.dfs = []) (hkd : D.kwd = []) (S : Stat T.ct g fl fd D) (hpt : ∀ f pat, (f, pat) ∈ T.ct.pats → (T.fns[f]?).isSome = true) (hnd : D.top = true → ((defScope D.st).names.map (·.1)).Nodup ∧ D.lam = true)
    (facts : ∀ (w : World) (mg : Str → Option Value) (fa : Addr) (h : Heap), YP w h → h.Ns mainGlobals mg → mg d.name = some (.ref fa) → (∀ K : PySem.W.Frag, K.In h → TabsOk q K h) → ∃ K : PySem.W.Frag, K.In h ∧ ∃ (clsA fnA : Nat → Addr) (nm : Nat → Str) (tb : List (Addr × Addr × Str)), fnA fl = fa ∧ DefIn K D fa ∧
      (∀ p ∈ tb, h.get? p.2.1 = some { cls := .none, data := .fields #[] } ∧ K.lookup p.2.1 = none ∧ PySem.W.CodeHd h p.1 p.2.1) ∧
      ∀ base, (∀ p ∈ tb, LamX.TabB base mg p.1 p.2.1) → ∀ cl, TopOk (wdL l.prog w K mg base clsA fnA nm (tb.map (·.2)) cl T g D) T.ct g ∧ CTOk (wdL l.prog w K mg base clsA fnA nm (tb.map (·.2)) cl T g D) T.ct ∧
        (∀ (oc : Value) (od : Option Addr) (dV kV doc pm : Value) (an : Option Addr) (cdv ct : Value) (osl : Array (Option Value)), K.lookup fa = some ⟨oc, od, .func (fnD D dV kV doc pm an cdv ct), osl⟩ → D.lam = true → LamF (wdL l.prog w K mg base clsA fnA nm (tb.map (·.2)) cl T g D) D cdv) ∧
        ∀ f fd, T.fns[f]? = some fd → ∃ D', FnFact (wdL l.prog w K mg base clsA fnA nm (tb.map (·.2)) cl T g D) T.ct g f fd D')
    (law : ∀ ns : List Int, ns.length ≤ 63 → (∀ z ∈ ns, Builtin.Int.intBits z ≤ 1048576) → ∃ h', run T (k + 1) fl [.lst (ns.map .int)] [] = .ok (.bl true) h') :
    PySem.W.WalkO q loose XP YP l.row.toRowW d [] (fun f vs => PySem.call f vs) := by
  refine walk_tabs (n := 63) (k := 6 * (k + 1)) (x := x) (CX := fun w => L2.CX l.prog w) hn (by decide) hdf hr (fun w mg fa h Y G hmg own => ?_) fun w H s e s' z => cxF z
  obtain ⟨K, KX, clsA, fnA, nm, tb, hfa, hD, htb, hall⟩ := facts w mg fa h Y G hmg own
  refine ⟨K, KX, ?_⟩
  obtain ⟨oc, od, dV, kV, doc, pm, an, cdv, ct, osl, lk, hcd, dfl, _⟩ := hD.lk
  have hdV : dV = .none := by
    rcases dfl with ⟨_, z⟩ | ⟨z, _⟩
    · exact z
    · exact absurd hdd z
  subst hdV
  have mem : ∀ p ∈ tb.map (fun q => (q.1, q.2.1)), ∃ q ∈ tb, p = (q.1, q.2.1) := fun p hp => by
    obtain ⟨q, h1, h2⟩ := List.mem_map.mp hp
    exact ⟨q, h1, h2.symm⟩
  have bd := S.bd
  rw [hst, if_neg (by decide)] at bd
  replace bd := bd hkd
  refine ⟨fnD D .none kV doc pm an cdv ct, tb.map (fun q => (q.1, q.2.1)), fun vs H Q E => spL K vs H Q E ∧ ∀ q ∈ tb, H q.2.1 = some (.tbl #[]), fun p hp => ?_, fun p hp => ?_, fun p hp => ?_, fun s u => .of_eq (by have z := bd.b0 hdd kV doc pm an cdv ct [u] (by rw [hps]; rfl); rw [hps] at z; exact z), fun H a ns hl hb hH hS => ⟨⟨a, ns, rfl, hl, hb, hS, fun _ => rfl⟩, fun q hq => hH (q.1, q.2.1) (List.mem_map.mpr ⟨q, hq, rfl⟩)⟩, fun base hKb hGb hTB => ?_⟩
  · obtain ⟨q, h1, rfl⟩ := mem p hp; exact (htb q h1).1
  · obtain ⟨q, h1, rfl⟩ := mem p hp; exact (htb q h1).2.1
  · obtain ⟨q, h1, rfl⟩ := mem p hp; exact (htb q h1).2.2
  have hall := hall base fun q hq => hTB (q.1, q.2.1) (List.mem_map.mpr ⟨q, hq, rfl⟩)
  subst hfa
  have O : ∀ cl k, COk (wdL l.prog w K mg base clsA fnA nm (tb.map (·.2)) cl T g D) (6 * k) (orc T k) := fun cl k => by
    obtain ⟨top, hct, hlm, fs⟩ := hall cl
    exact fn_snd top hct hpt fs k
  obtain ⟨top, hct, hlm, fs⟩ := hall []
  have F : FnFact (wdL l.prog w K mg base clsA fnA nm (tb.map (·.2)) [] T g D) T.ct g fl fd D := S.fact hD hlm
  -- the run, from any such world
  have go : ∀ cl vs H Q E, (spL K vs H Q E ∧ ∀ q ∈ tb, H q.2.1 = some (.tbl #[])) → spI (wdL l.prog w K mg base clsA fnA nm (tb.map (·.2)) cl T g D) (orc T (k + 1)) fl vs H Q E := fun cl vs H Q E ⟨⟨a, ns, hv, hl, hb, hS, hq⟩, hTB0⟩ => by
    subst hv
    obtain ⟨h', hrun⟩ := law ns hl hb
    refine ⟨⟨[], [], H, []⟩, [.lst (ns.map .int)], rfl, ⟨rfl, fun _ _ _ _ _ h => by simp at h, fun _ _ _ h => by simp at h, (fun _ h => by cases h), tabs_start hTB0, fun p hp => absurd hp no_live⟩, .cons (.lst ?_ (reps_ints ns)) .nil, by
      show End _ _ _ _ _ _ (run T (k + 1) fl _ _)
      rw [hrun]; exact fun ρ' H' v _ _ r => by cases r; exact hq H'⟩
    rcases hS with hS | hS
    · exact .inl ⟨no_live, hS⟩
    · exact .inr hS
  cases htop : D.top with
  | false =>
    have G := fn_okG (W := wdL l.prog w K mg base clsA fnA nm (tb.map (·.2)) [] T g D) top (O [] k) hT F hst lk hcd (hlm _ _ _ _ _ _ _ _ _ _ lk) htop
    rw [hps] at G
    refine G.imp fun vs H Q E h => ?_
    obtain ⟨⟨a, ns, hv, _⟩, _⟩ := id h
    exact ⟨by rw [hv]; rfl, go [] vs H Q E h⟩
  | true =>
    obtain ⟨hn1, hn2⟩ := hnd htop
    have G := fn_okL (W := wdL l.prog w K mg base clsA fnA nm (tb.map fun q : Addr × Addr × Str => q.2) [] T g D) (k := k) ⟨rfl, rfl, rfl, rfl, cells_nd hn1⟩ (fun cl => (hall cl).1) O hT F hst lk hcd (hlm _ _ _ _ _ _ _ _ _ _ lk hn2)
    rw [hps] at G
    refine G.imp fun vs H Q E h => ?_
    obtain ⟨⟨a, ns, hv, _⟩, _⟩ := id h
    exact ⟨by rw [hv]; rfl, fun cl => go cl vs H Q E h⟩

/-! ### the facts of a law's text, by lists -/
def All2 {α : Type} (P : Nat → α → Prop) : Nat → List α → Prop
  | _, [] => True
  | i, a :: r => P i a ∧ All2 P (i + 1) r
theorem All2.get {α : Type} {P : Nat → α → Prop} : ∀ {l : List α} {i k : Nat} {a : α}, All2 P i l → l[k]? = some a → P (i + k) a
  | [], _, _, _, _, e => by simp at e
  | x :: r, i, 0, a, h, e => by simp at e; subst e; exact h.1
  | x :: r, i, k + 1, a, h, e => by
    have := All2.get h.2 (k := k) (a := a) (by simpa using e)
    rw [show i + (k + 1) = i + 1 + k by omega]; exact this
theorem mem_of_lookup' {α : Type} : ∀ {l : List (Str × α)} {x : Str} {a : α}, l.lookup x = some a → (x, a) ∈ l
  | [], _, _, h => by cases h
  | (y, b) :: r, x, a, h => by
    simp only [List.lookup] at h
    split at h
    · rename_i e; cases h; rw [beq_iff_eq.mp e]; exact List.mem_cons_self
    · exact List.mem_cons_of_mem _ (mem_of_lookup' h)
def AllP {α : Type} (P : α → Prop) : List α → Prop
  | [] => True
  | a :: r => P a ∧ AllP P r
theorem AllP.mem {α : Type} {P : α → Prop} : ∀ {l : List α} {a : α}, AllP P l → a ∈ l → P a
  | x :: r, a, h, m => by
    rcases List.mem_cons.mp m with z | z
    · rw [z]; exact h.1
    · exact AllP.mem h.2 z
/-- a constant of the module in the written part -/
def ConIn (K : PySem.W.Frag) (x : Str) (v : AV) : Prop := ∃ u, PySem.W.nsIn K mainGlobals x = some (some u) ∧ CV K u v
theorem cv_tup {K : PySem.W.Frag} {p : Addr} {dd : Option Addr} {its : Array Value} {n : Nat} {sl : Array (Option Value)} (ss : List Str) (h2 : K.lookup p = some ⟨.type "tuple", dd, .seq its n, sl⟩) (h5 : its.size ≤ sizeLine) (h6 : Vals (ss.map V.str) its.toList) : CV K (.ref p) (.tup (ss.map .str)) := ⟨p, _, its, n, ss, rfl, rfl, h2, rfl, rfl, h5, h6⟩
theorem con_tup {K : PySem.W.Frag} {x : Str} {p : Addr} {dd : Option Addr} {its : Array Value} {n : Nat} {sl : Array (Option Value)} (ss : List Str) (h1 : PySem.W.nsIn K mainGlobals x = some (some (.ref p))) (h2 : K.lookup p = some ⟨.type "tuple", dd, .seq its n, sl⟩) (h5 : its.size ≤ sizeLine) (h6 : Vals (ss.map V.str) its.toList) :
    ConIn K x (.tup (ss.map .str)) := ⟨_, h1, cv_tup ss h2 h5 h6⟩
theorem con_str {K : PySem.W.Frag} {x s : Str} {t : Tok} (h : PySem.W.nsIn K mainGlobals x = some (some (.str s t))) : ConIn K x (.str s) := ⟨_, h, t, rfl⟩
theorem con_int {K : PySem.W.Frag} {x : Str} {s : Int} {t : Tok} (h : PySem.W.nsIn K mainGlobals x = some (some (.int s t))) : ConIn K x (.int s) := ⟨_, h, t, rfl⟩
theorem ConIn.ok {W : Wd} {h : Heap} (KX : W.K.In h) (G : h.Ns mainGlobals W.mg) {x : Str} {v : AV} (c : ConIn W.K x v) : ∃ u vv, W.mg x = some u ∧ RelV vv u ∧ ∀ c, Rep W c vv v := by
  obtain ⟨u, h1, h2⟩ := c
  obtain ⟨vv, h3, h4⟩ := h2.ok
  exact ⟨u, vv, PySem.W.mg_of KX G h1, h3, h4⟩
/-! ### names by number, no two alike -/
theorem nd_inj {α : Type} : ∀ {l : List α} {i j : Nat} (hi : i < l.length) (hj : j < l.length), l.Nodup → l[i] = l[j] → i = j
  | a :: l, 0, 0, _, _, _, _ => rfl
  | a :: l, 0, j + 1, _, hj, nd, e => by
    simp at e hj
    have := (List.nodup_cons.mp nd).1
    exact absurd (by rw [e]; exact List.getElem_mem _) this
  | a :: l, i + 1, 0, hi, _, nd, e => by
    simp at e hi
    have := (List.nodup_cons.mp nd).1
    exact absurd (by rw [← e]; exact List.getElem_mem _) this
  | a :: l, i + 1, j + 1, hi, hj, nd, e => by
    simp at e hi hj
    rw [nd_inj hi hj (List.nodup_cons.mp nd).2 e]
def nmOf (ns : List Str) (i : Nat) : Str := if i < ns.length then ns.getD i "" else ⟨Array.replicate (i + 100000) 33⟩
theorem nmOf_inj {ns : List Str} (nd : ns.Nodup) (hl : ∀ x ∈ ns, x.length < 100000) (i j : Nat) (h : nmOf ns i = nmOf ns j) : i = j := by
  have len : ∀ k, ¬ k < ns.length → (nmOf ns k).length = k + 100000 := fun k hk => by
    unfold nmOf; rw [if_neg hk]; show (Array.replicate _ _).size = _; simp
  have sm : ∀ k, k < ns.length → (nmOf ns k).length < 100000 := fun k hk => by
    unfold nmOf; rw [if_pos hk]
    have : ns.getD k "" ∈ ns := by simp [List.getD, List.getElem?_eq_getElem hk]
    exact hl _ this
  by_cases hi : i < ns.length
  · by_cases hj : j < ns.length
    · unfold nmOf at h
      rw [if_pos hi, if_pos hj] at h
      simp [List.getD, List.getElem?_eq_getElem hi, List.getElem?_eq_getElem hj] at h
      exact nd_inj hi hj nd h
    · have h1 := sm i hi
      have h2 := len j hj
      rw [h] at h1; omega
  · by_cases hj : j < ns.length
    · have h1 := sm j hj
      have h2 := len i hi
      rw [← h] at h1; omega
    · have h1 := len i hi
      have h2 := len j hj
      rw [h] at h1; omega
theorem nmOf_get {ns : List Str} {i : Nat} {x : Str} (h : ns[i]? = some x) : nmOf ns i = x := by
  have hi : i < ns.length := (List.getElem?_eq_some_iff.mp h).1
  unfold nmOf
  rw [if_pos hi]
  simp [List.getD, h]
/-! ### tables, from lists of facts -/
theorem lookup_mem {α : Type} : ∀ {l : List (Nat × α)} {x : Nat} {a : α}, l.lookup x = some a → (x, a) ∈ l
  | [], _, _, h => by cases h
  | (y, b) :: r, x, a, h => by
    simp only [List.lookup] at h
    split at h
    · rename_i e; cases h; rw [beq_iff_eq.mp e]; exact List.mem_cons_self
    · exact List.mem_cons_of_mem _ (lookup_mem h)
/-- the attributes' facts -/
def AttrAll (W : Wd) (l : List (Nat × List (Nat × AK))) : Prop := AllP (fun p => AllP (fun q : Nat × AK => Cls W.K (W.clsA q.1) ∧ AkOk W p.1 q.1 q.2) p.2) l
def MethAll (W : Wd) (l : List (Nat × List (Nat × Nat))) : Prop := AllP (fun p => AllP (fun q : Nat × Nat => Cls W.K (W.clsA q.1) ∧ Meth W.K (W.clsA q.1) (W.nm p.1) (W.fnA q.2)) p.2) l
theorem attr_all {W : Wd} {ct : CT} (h : AttrAll W ct.attr) : ∀ f c k, ct.attrOf f c = some k → Cls W.K (W.clsA c) ∧ AkOk W f c k := fun f c k e => by
  unfold CT.attrOf at e
  simp only [Option.bind_eq_some_iff] at e
  obtain ⟨l, h1, h2⟩ := e
  exact (h.mem (lookup_mem h1)).mem (lookup_mem h2)
theorem meth_all {W : Wd} {ct : CT} (h : MethAll W ct.meth) : ∀ m c g, ct.methOf m c = some g → Cls W.K (W.clsA c) ∧ Meth W.K (W.clsA c) (W.nm m) (W.fnA g) := fun f c k e => by
  unfold CT.methOf at e
  simp only [Option.bind_eq_some_iff] at e
  obtain ⟨l, h1, h2⟩ := e
  exact (h.mem (lookup_mem h1)).mem (lookup_mem h2)
end NT
set_option linter.all false
set_option maxRecDepth 100000
set_option autoImplicit false
namespace NT
open PySem
/-! ### running -/
def Out.bnd {α β : Type} (o : Out α) (f : α → M β) : Out β := match o with
  | .ok a h => f a h
  | .exc c ks vs h => .exc c ks vs h
  | .bad => .bad
theorem Out.bnd_congr {α β : Type} {o o' : Out α} {f : α → M β} (h : o = o') : Out.bnd o f = Out.bnd o' f := by rw [h]
section
variable {α β : Type}
theorem bind_app (m : M α) (f : α → M β) (h : AHeap) : M.bind m f h = Out.bnd (m h) f := by
  unfold M.bind Out.bnd; cases m h <;> rfl
theorem bnd_ok (a : α) (h : AHeap) (f : α → M β) : Out.bnd (.ok a h) f = f a h := rfl
theorem bnd_exc (c : Nat) (ks : List Nat) (vs : List AV) (h : AHeap) (f : α → M β) : Out.bnd (.exc c ks vs h) f = .exc c ks vs h := rfl
theorem pure_app (a : α) (h : AHeap) : M.pure a h = .ok a h := rfl
theorem of_some (a : α) (h : AHeap) : M.of (some a) h = .ok a h := rfl
theorem ok1_true (a : α) (h : AHeap) : ok1 true a h = .ok a h := rfl
theorem guard_true (h : AHeap) : M.guard true h = .ok () h := rfl
theorem ok1_of {k : Bool} (hk : k = true) (a : α) (h : AHeap) : ok1 k a h = .ok a h := by rw [hk]; rfl
theorem ite_app {c : Prop} [Decidable c] (m m' : M α) (h : AHeap) : (if c then m else m') h = if c then m h else m' h := by split <;> rfl
end
section
variable (C : Orc) (σ : Loc) (h : AHeap) (a b c es t : E)
theorem ev_cst (v : AV) : ev C σ (.cst v) h = .ok v h := rfl
theorem ev_var (i : Nat) : ev C σ (.var i) h = M.of (σ[i]?.getD none) h := rfl
theorem ev_bin (op : Operator) : ev C σ (.bin op a b) h = Out.bnd (ev C σ a h) fun x => M.bind (ev C σ b) fun y => binV op x y := bind_app _ _ _
theorem ev_neg : ev C σ (.neg a) h = Out.bnd (ev C σ a h) negV := bind_app _ _ _
theorem ev_cmp (op : CmpOp) : ev C σ (.cmp op a b) h = Out.bnd (ev C σ a h) fun x => M.bind (ev C σ b) fun y => cmpO C op x y := bind_app _ _ _
theorem ev_chn (op op' : CmpOp) : ev C σ (.chn op op' a b c) h = Out.bnd (ev C σ a h) fun x => M.bind (ev C σ b) fun y => M.bind (cmpO C op x y) fun r => M.bind (asB r) fun k =>
      if k = true then M.bind (ev C σ c) fun z => cmpO C op' y z else M.pure (.bl false) := bind_app _ _ _
theorem ev_and : ev C σ (.and a b) h = Out.bnd (ev C σ a h) fun x => M.bind (asB x) fun k => if k = true then ev C σ b else M.pure (.bl false) := bind_app _ _ _
theorem ev_or : ev C σ (.or a b) h = Out.bnd (ev C σ a h) fun x => M.bind (asB x) fun k => if k = true then M.pure (.bl true) else ev C σ b := bind_app _ _ _
theorem ev_notv : ev C σ (.notv a) h = Out.bnd (ev C σ a h) fun x => M.bind (asB x) fun k => M.pure (.bl (!k)) := bind_app _ _ _
theorem ev_ifx : ev C σ (.ifx t a b) h = Out.bnd (evT C σ t h) fun k => if k = true then ev C σ a else ev C σ b := bind_app _ _ _
theorem ev_tup : ev C σ (.tup es) h = Out.bnd (evs C σ es h) fun xs => ok1 (decide (xs.length ≤ line)) (.tup xs) := bind_app _ _ _
theorem ev_lst : ev C σ (.lst es) h = Out.bnd (evs C σ es h) fun xs => ok1 (decide (xs.length ≤ line)) (.lst xs) := bind_app _ _ _
theorem ev_mlst : ev C σ (.mlst es) h = Out.bnd (evs C σ es h) fun xs => if xs.length ≤ line then fun h => .ok (.ref h.length) (h ++ [.lst xs]) else M.bad := bind_app _ _ _
theorem ev_sub : ev C σ (.sub a b) h = Out.bnd (ev C σ a h) fun x => M.bind (ev C σ b) fun y => subV x y := bind_app _ _ _
theorem ev_slc : ev C σ (.slc a b c) h = Out.bnd (ev C σ a h) fun x => M.bind (ev C σ b) fun l => M.bind (asI l) fun l => M.bind (ev C σ c) fun u => M.bind (asI u) fun u => slcV x (some l) (some u) := bind_app _ _ _
theorem ev_slcL : ev C σ (.slcL a b) h = Out.bnd (ev C σ a h) fun x => M.bind (ev C σ b) fun l => M.bind (asI l) fun l => slcV x (some l) none := bind_app _ _ _
theorem ev_slcH : ev C σ (.slcH a b) h = Out.bnd (ev C σ a h) fun x => M.bind (ev C σ b) fun u => M.bind (asI u) fun u => slcV x none (some u) := bind_app _ _ _
theorem ev_call (f : Nat) : ev C σ (.call f es) h = Out.bnd (evs C σ es h) fun xs => C.call f xs := bind_app _ _ _
theorem ev_blt (bb : B) : ev C σ (.blt bb es) h = Out.bnd (evs C σ es h) fun xs => bltO C bb xs := bind_app _ _ _
theorem ev_attr (f : Nat) : ev C σ (.attr a f) h = Out.bnd (ev C σ a h) fun x => attrV C f x := bind_app _ _ _
theorem ev_meth (m : Nat) : ev C σ (.meth a m es) h = Out.bnd (ev C σ a h) fun x => M.bind (methV C m x) fun g => M.bind (evs C σ es) fun xs => C.call g (x :: xs) := bind_app _ _ _
theorem ev_new (k : Nat) : ev C σ (.new k es) h = Out.bnd (evs C σ es h) fun xs => newV C k xs := bind_app _ _ _
theorem ev_fst : ev C σ (.fst es) h = Out.bnd (evJ C σ es Str.empty h) fun z => M.pure (.str z) := bind_app _ _ _
theorem ev_fmt : ev C σ (.fmt a) h = Out.bnd (ev C σ a h) fun x => M.of ((txtV x).map .str) := bind_app _ _ _
theorem evJ_nil (z : Str) : evJ C σ .nil z h = .ok z h := rfl
theorem evJ_cons (z : Str) : evJ C σ (.cons a b) z h = Out.bnd (ev C σ a h) fun x => (match x with
    | .str y => if (z ++ y).length ≤ line then evJ C σ b (z ++ y) else M.bad
    | _ => M.bad) := bind_app _ _ _
theorem evs_arr (ix : List AI) : evs C σ (.arr ix a b) h = Out.bnd (evs C σ a h) fun xs => M.bind (evs C σ b) fun ys => M.of (arrL (xs ++ ys) ix) := bind_app _ _ _
theorem ev_got (cat : List Nat) : ev C σ (.got cat a) h = gotO cat (ev C σ a h) := by
  show (match ev C σ a h with | .ok v h' => _ | .exc c ks vs h' => _ | .bad => _) = _
  cases ev C σ a h <;> rfl
theorem gotO_ok (cat : List Nat) (v : AV) (h : AHeap) : gotO cat (.ok v h) = .ok (.tup [.str "", v]) h := rfl
theorem gotO_exc (cat : List Nat) (c : Nat) (ks : List Nat) (vs : List AV) (h : AHeap) : gotO cat (.exc c ks vs h) = M.of (gotV cat c ks vs) h := rfl
theorem ev_bm (m : BM) : ev C σ (.bm m a es) h = Out.bnd (ev C σ a h) fun x => M.bind (bmG m x) fun _ => M.bind (evs C σ es) fun xs => bmV m x xs := bind_app _ _ _
/-- one turn of a comprehension -/
noncomputable def turn (is vs : List Nat) (cond elt : E) (x : AV) : M (Option AV) := noexc (M.bind (bindT is x (wipeL σ vs)) fun σ2 => M.bind (evT C σ2 cond) fun k => if k = true then M.bind (ev C σ2 elt) fun y => M.pure (some y) else M.pure none)
theorem ev_lc (is vs : List Nat) : ev C σ (.lc is vs t a b) h = Out.bnd (evI C σ t h) fun xs => M.bind (lcL (turn C σ is vs a b) xs) fun ys => ok1 (decide (ys.length ≤ line)) (.lst ys) := bind_app _ _ _
theorem evT_and : evT C σ (.and a b) h = Out.bnd (evT C σ a h) fun k => if k = true then evT C σ b else M.pure false := bind_app _ _ _
theorem evT_or : evT C σ (.or a b) h = Out.bnd (evT C σ a h) fun k => if k = true then M.pure true else evT C σ b := bind_app _ _ _
theorem evT_not : evT C σ (.not a) h = Out.bnd (evT C σ a h) fun k => M.pure (!k) := bind_app _ _ _
theorem evT_cmp (op : CmpOp) : evT C σ (.cmp op a b) h = Out.bnd (ev C σ a h) fun x => M.bind (ev C σ b) fun y => M.bind (cmpO C op x y) asB := bind_app _ _ _
theorem evT_chn (op op' : CmpOp) : evT C σ (.chn op op' a b c) h = Out.bnd (ev C σ a h) fun x => M.bind (ev C σ b) fun y => M.bind (cmpO C op x y) fun r => M.bind (asB r) fun k =>
      if k = true then M.bind (ev C σ c) fun z => M.bind (cmpO C op' y z) asB else M.pure false := bind_app _ _ _
theorem evT_tv : evT C σ (.tv a) h = Out.bnd (ev C σ a h) truV := bind_app _ _ _
theorem evs_nil : evs C σ .nil h = .ok [] h := rfl
theorem evs_cons : evs C σ (.cons a b) h = Out.bnd (ev C σ a h) fun x => M.bind (evs C σ b) fun xs => M.pure (x :: xs) := bind_app _ _ _
theorem evs_starL : evs C σ (.star a b) h = Out.bnd (ev C σ a h) fun x => (match x with
    | .lst ys => M.bind (evs C σ b) fun xs => M.pure (ys ++ xs)
    | .tup ys => M.bind (evs C σ b) fun xs => M.pure (ys ++ xs)
    | _ => M.bad) := bind_app _ _ _
theorem evI_rng : evI C σ (.rng a b) h = Out.bnd (ev C σ a h) fun x => M.bind (ev C σ b) fun y => (match x, y with
    | .int i, .int j => ok1 (rngOk i j) (rngL i j)
    | _, _ => M.bad) := bind_app _ _ _
theorem evI_zip : evI C σ (.zip a b) h = Out.bnd (ev C σ a h) fun x => M.bind (ev C σ b) fun y => M.of (zipV x y) := bind_app _ _ _
theorem evI_itv : evI C σ (.itv a) h = Out.bnd (ev C σ a h) fun x => M.of (items x) := bind_app _ _ _
variable (s s' : S)
noncomputable def seqF (C : Orc) (b : S) : Flow → M Flow
  | .nx σ' => xec C b σ'
  | .rt v => M.pure (.rt v)
  | .bk σ' => M.pure (.bk σ')
  | .ct σ' => M.pure (.ct σ')
theorem xec_skip : xec C .skip σ h = .ok (.nx σ) h := rfl
theorem xec_seq : xec C (.seq s s') σ h = Out.bnd (xec C s σ h) (seqF C s') := by
  show M.bind _ _ _ = _
  rw [bind_app]
  unfold Out.bnd
  cases xec C s σ h with
  | ok f h' => cases f <;> rfl
  | exc _ _ _ _ => rfl
  | bad => rfl
theorem seqF_nx (σ' : Loc) : seqF C s' (.nx σ') h = xec C s' σ' h := rfl
theorem seqF_rt (v : AV) : seqF C s' (.rt v) h = .ok (.rt v) h := rfl
theorem seqF_bk (σ' : Loc) : seqF C s' (.bk σ') h = .ok (.bk σ') h := rfl
theorem seqF_ct (σ' : Loc) : seqF C s' (.ct σ') h = .ok (.ct σ') h := rfl
theorem xec_expr : xec C (.expr a) σ h = Out.bnd (ev C σ a h) fun _ => M.pure (.nx σ) := bind_app _ _ _
theorem xec_ret : xec C (.ret a) σ h = Out.bnd (ev C σ a h) fun v => M.pure (.rt v) := bind_app _ _ _
theorem xec_asg (i : Nat) : xec C (.asg i a) σ h = Out.bnd (ev C σ a h) fun v => M.pure (.nx (σ.set i (some v))) := bind_app _ _ _
theorem xec_unp (is : List Nat) : xec C (.unp is a) σ h = Out.bnd (ev C σ a h) fun v => M.bind (bindT is v σ) fun σ' => M.pure (.nx σ') := bind_app _ _ _
theorem xec_par (is : List Nat) : xec C (.par is es) σ h = Out.bnd (evs C σ es h) fun xs => M.bind (M.of (setAll is xs σ)) fun σ' => M.pure (.nx σ') := bind_app _ _ _
theorem xec_setFld (f : Nat) : xec C (.setFld a f c) σ h = Out.bnd (ev C σ c h) fun x => M.bind (ev C σ a) fun y => M.bind (setFldV C f y x) fun _ => M.pure (.nx σ) := bind_app _ _ _
theorem xec_raise (k np : Nat) (ks : List Nat) (txt : Str) (ix : List Nat) : xec C (.raise k np ks txt ix es) σ h = Out.bnd (evs C σ es h) fun xs h => if xs.length = np then .exc k ks (.str txt :: ix.map fun i => xs.getD i .non) h else .bad := bind_app _ _ _
theorem xec_setSub : xec C (.setSub a b c) σ h = Out.bnd (ev C σ c h) fun x => M.bind (ev C σ a) fun y => M.bind (ev C σ b) fun z => M.bind (setSubV y z x) fun _ => M.pure (.nx σ) := bind_app _ _ _
theorem xec_aug (i : Nat) (op : Operator) : xec C (.aug i op a) σ h = Out.bnd (lget σ i h) fun x => M.bind (ev C σ a) fun y => M.bind (augV op x y) fun z => M.pure (.nx (σ.set i (some z))) := bind_app _ _ _
theorem xec_ife : xec C (.ife t s s') σ h = Out.bnd (evT C σ t h) fun k => if k = true then xec C s σ else xec C s' σ := bind_app _ _ _
/-- one turn of a for -/
noncomputable def forB (C : Orc) (ts : List Nat) (b : S) (x : AV) (σ' : Loc) : M Flow := M.bind (bindT ts x σ') fun σ2 => xec C b σ2
theorem forB_app (ts : List Nat) (b : S) (x : AV) (σ' : Loc) : forB C ts b x σ' h = Out.bnd (bindT ts x σ' h) fun σ2 => xec C b σ2 := bind_app _ _ _
theorem xec_for (ts : List Nat) : xec C (.for_ ts a s) σ h = Out.bnd (evI C σ a h) fun xs => forL (forB C ts s) xs σ := bind_app _ _ _
theorem xec_whlC : xec C (.whl t s) σ h = C.whl (fun σ' => evT C σ' t) (fun σ' => xec C s σ') σ h := rfl
theorem xec_whl (T : Tab) (n : Nat) : xec (orc T n) (.whl t s) σ h = whl (fun σ' => evT (orc T n) σ' t) (fun σ' => xec (orc T n) s σ') σ h := rfl
theorem xec_brk : xec C .brk σ h = .ok (.bk σ) h := rfl
theorem xec_cnt : xec C .cnt σ h = .ok (.ct σ) h := rfl
end
theorem orc_call (T : Tab) (n : Nat) : (orc T n).call = run T n := rfl
theorem orc_ct (T : Tab) (n : Nat) : (orc T n).ct = T.ct := rfl
/-- what the body of a def comes to -/
noncomputable def bodyO (T : Tab) (n : Nat) (fd : FD) (σ : Loc) (h : AHeap) : Out AV := Out.bnd (xec (orc T n) fd.body σ h) flowV
theorem run_succ {T : Tab} {f : Nat} {fd : FD} (hf : T.fns[f]? = some fd) (n : Nat) (args : List AV) (h : AHeap) {σ : Loc} (hs : startL fd args = some σ) : run T (n + 1) f args h = if fd.fz = true then exitO h (bodyO T n fd σ h) else bodyO T n fd σ h := by
  rw [run_s]
  simp only [hf, hs]
  unfold bodyO
  rw [← bind_app]
theorem exit_ok (h h' : AHeap) (v : AV) (hl : h'.length = h.length) : exitO h (.ok v h') = .ok v h' := by
  unfold exitO exitV; simp only [hl, if_true]
theorem exit_exc (h h' : AHeap) (c : Nat) (ks : List Nat) (vs : List AV) (hl : h'.length = h.length) : exitO h (.exc c ks vs h') = .exc c ks vs h' := by
  unfold exitO exitV; simp only [hl, if_true]
theorem run_eq {T : Tab} {f : Nat} {fd : FD} (hf : T.fns[f]? = some fd) {n : Nat} {args : List AV} {h h' : AHeap} {v : AV} {σ : Loc} (hs : startL fd args = some σ) (e : bodyO T n fd σ h = .ok v h') (hl : h'.length = h.length) : run T (n + 1) f args h = .ok v h' := by
  rw [run_succ hf n args h hs, e, exit_ok h h' v hl]; split <;> rfl
theorem run_exq {T : Tab} {f : Nat} {fd : FD} (hf : T.fns[f]? = some fd) {n : Nat} {args : List AV} {h h' : AHeap} {c : Nat} {ks : List Nat} {vs : List AV} {σ : Loc} (hs : startL fd args = some σ) (e : bodyO T n fd σ h = .exc c ks vs h') (hl : h'.length = h.length) : run T (n + 1) f args h = .exc c ks vs h' := by
  rw [run_succ hf n args h hs, e, exit_exc h h' c ks vs hl]; split <;> rfl
theorem flowV_nx (σ : Loc) (h : AHeap) : flowV (.nx σ) h = .ok .non h := rfl
theorem flowV_rt (v : AV) (h : AHeap) : flowV (.rt v) h = .ok v h := rfl
theorem bindT_one (i : Nat) (x : AV) (σ : Loc) (h : AHeap) : bindT [i] x σ h = .ok (σ.set i (some x)) h := rfl
theorem bindT_two (i j : Nat) (x y : AV) (σ : Loc) (h : AHeap) : bindT [i, j] (.tup [x, y]) σ h = .ok ((σ.set i (some x)).set j (some y)) h := rfl
/-! ### promises -/
def Rn {α : Type} (o : Out α) (Q : α → AHeap → Prop) : Prop := match o with
  | .ok a h => Q a h
  | _ => False
section
variable {α β : Type} {o : Out α} {f : α → M β} {Q : β → AHeap → Prop} {P P' : α → AHeap → Prop}
theorem Rn.bnd (h : Rn o fun a h' => Rn (f a h') Q) : Rn (Out.bnd o f) Q := by
  cases o <;> first | exact h | exact h.elim
theorem Rn.mono (h : Rn o P) (k : ∀ a h', P a h' → P' a h') : Rn o P' := by
  cases o with
  | ok a h' => exact k a h' h
  | exc _ _ _ _ => exact h
  | bad => exact h
theorem Rn.ok {a : α} {h : AHeap} (q : P a h) : Rn (.ok a h) P := q
theorem Rn.get (h : Rn o P) : ∃ a h', o = .ok a h' ∧ P a h' := by
  cases o with
  | ok a h' => exact ⟨a, h', rfl, h⟩
  | exc _ _ _ _ => exact h.elim
  | bad => exact h.elim
theorem Rn.step (h : Rn o P) (k : ∀ a h', P a h' → Rn (f a h') Q) : Rn (Out.bnd o f) Q := Rn.bnd (h.mono k)
theorem Rn.eq {a : α} {h : AHeap} (e : o = .ok a h) (q : P a h) : Rn o P := by rw [e]; exact q
end
theorem run_rn {T : Tab} {f : Nat} {fd : FD} (hf : T.fns[f]? = some fd) {n : Nat} {args : List AV} {h : AHeap} {σ : Loc} {Q : AV → AHeap → Prop} (hs : startL fd args = some σ) (e : Rn (bodyO T n fd σ h) Q) (hl : ∀ v h', Q v h' → h'.length = h.length) : Rn (run T (n + 1) f args h) Q := by
  obtain ⟨v, h', e1, q⟩ := e.get
  exact Rn.eq (run_eq hf hs e1 (hl v h' q)) q
theorem run_rn0 {T : Tab} {f : Nat} {fd : FD} (hf : T.fns[f]? = some fd) (hz : fd.fz = false) {n : Nat} {args : List AV} {h : AHeap} {σ : Loc} {Q : AV → AHeap → Prop} (hs : startL fd args = some σ) (e : Rn (bodyO T n fd σ h) Q) : Rn (run T (n + 1) f args h) Q := by
  rw [run_succ hf n args h hs, hz]; exact e
/-- a for by an invariant; what leaves it early is Q -/
theorem rn_for {body : AV → Loc → M Flow} {Q : Flow → AHeap → Prop} (Pv : Nat → Loc → AHeap → Prop) (xs : List AV) (hs : ∀ i x σ h, xs[i]? = some x → Pv i σ h → Rn (body x σ h) fun f h' => match f with
      | .nx σ' => Pv (i + 1) σ' h'
      | .ct σ' => Pv (i + 1) σ' h'
      | .bk σ' => Q (.nx σ') h'
      | .rt v => Q (.rt v) h') (hd : ∀ σ h, Pv xs.length σ h → Q (.nx σ) h) : ∀ σ h, Pv 0 σ h → Rn (forL body xs σ h) Q := by
  have gen : ∀ (k i : Nat) σ h, i + k = xs.length → Pv i σ h → Rn (forL body (xs.drop i) σ h) Q := by
    intro k
    induction k with
    | zero =>
      intro i σ h e p
      have e' : i = xs.length := by omega
      subst e'
      rw [List.drop_length]
      exact hd σ h p
    | succ k ih =>
      intro i σ h e p
      have hi : i < xs.length := by omega
      rw [List.drop_eq_getElem_cons hi]
      show Rn (M.bind _ _ h) Q
      rw [bind_app]
      refine Rn.step (hs i xs[i] σ h (by simp [hi]) p) fun f h' q => ?_
      cases f with
      | nx σ' => exact ih (i + 1) σ' h' (by omega) q
      | ct σ' => exact ih (i + 1) σ' h' (by omega) q
      | bk σ' => exact q
      | rt v => exact q
  intro σ h p
  have := gen xs.length 0 σ h (by omega) p
  rwa [List.drop_zero] at this
/-- a while by a word and a number that falls -/
theorem rn_whl {t : Loc → M Bool} {body : Loc → M Flow} {Q : Flow → AHeap → Prop} (Pv : Loc → AHeap → Prop) (μ : Loc → AHeap → Nat)
    (hs : ∀ σ h, Pv σ h → Rn (t σ h) fun k h1 => if k = true then Rn (body σ h1) fun f h' => (match f with
      | .nx σ' => Pv σ' h' ∧ μ σ' h' < μ σ h
      | .ct σ' => Pv σ' h' ∧ μ σ' h' < μ σ h
      | .bk σ' => Q (.nx σ') h'
      | .rt v => Q (.rt v) h') else Q (.nx σ) h1) : ∀ σ h, Pv σ h → Rn (whl t body σ h) Q := by
  have gen : ∀ (m : Nat) σ h, μ σ h < m → Pv σ h → ∃ n r, whlN t body n σ h = some r ∧ Rn r Q := by
    intro m
    induction m with
    | zero => intro σ h e; omega
    | succ m ih =>
      intro σ h e p
      obtain ⟨k, h1, e1, q⟩ := (hs σ h p).get
      cases k with
      | false =>
        rw [if_neg (by decide)] at q
        exact ⟨1, .ok (.nx σ) h1, by unfold whlN; rw [e1], q⟩
      | true =>
        rw [if_pos rfl] at q
        obtain ⟨f, h2, e2, q2⟩ := q.get
        cases f with
        | nx σ' =>
          obtain ⟨n, r, hn, hr⟩ := ih σ' h2 (by have := q2.2; omega) q2.1
          exact ⟨n + 1, r, by unfold whlN; rw [e1]; simp only [e2]; exact hn, hr⟩
        | ct σ' =>
          obtain ⟨n, r, hn, hr⟩ := ih σ' h2 (by have := q2.2; omega) q2.1
          exact ⟨n + 1, r, by unfold whlN; rw [e1]; simp only [e2]; exact hn, hr⟩
        | bk σ' => exact ⟨1, .ok (.nx σ') h2, by unfold whlN; rw [e1]; simp only [e2], q2⟩
        | rt v => exact ⟨1, .ok (.rt v) h2, by unfold whlN; rw [e1]; simp only [e2], q2⟩
  intro σ h p
  obtain ⟨n, r, hn, hr⟩ := gen (μ σ h + 1) σ h (by omega) p
  rw [whl_of hn]; exact hr
/-- a comprehension by an invariant -/
theorem rn_lc {F : AV → M (Option AV)} {Q : List AV → AHeap → Prop} (Pv : Nat → List AV → AHeap → Prop) (xs : List AV) (hs : ∀ i x acc h, xs[i]? = some x → Pv i acc h → Rn (F x h) fun o h' => Pv (i + 1) (acc ++ consO o []) h')
    (hd : ∀ acc h, Pv xs.length acc h → Q acc h) : ∀ h, Pv 0 [] h → Rn (lcL F xs h) Q := by
  have gen : ∀ (k i : Nat) (acc : List AV) h, i + k = xs.length → Pv i acc h → Rn (lcL F (xs.drop i) h) fun r h' => Q (acc ++ r) h' := by
    intro k
    induction k with
    | zero =>
      intro i acc h e p
      have e' : i = xs.length := by omega
      subst e'
      rw [List.drop_length]
      show Q (acc ++ []) h
      rw [List.append_nil]
      exact hd acc h p
    | succ k ih =>
      intro i acc h e p
      have hi : i < xs.length := by omega
      rw [List.drop_eq_getElem_cons hi]
      show Rn (M.bind _ _ h) _
      rw [bind_app]
      refine Rn.step (hs i xs[i] acc h (by simp [hi]) p) fun o h' q => ?_
      rw [bind_app]
      refine Rn.step (ih (i + 1) _ h' (by omega) q) fun r h2 q2 => ?_
      show Q (acc ++ consO o r) h2
      have z : acc ++ consO o [] ++ r = acc ++ consO o r := by cases o <;> simp [consO]
      rw [← z]; exact q2
  intro h p
  have := gen xs.length 0 [] h (by omega) p
  rwa [List.drop_zero] at this
theorem noexc_rn {α : Type} {m : M α} {h : AHeap} {Q : α → AHeap → Prop} (r : Rn (m h) Q) : Rn (noexc m h) Q := by
  unfold noexc
  cases q : m h with
  | ok a h' => rw [q] at r; exact r
  | exc _ _ _ _ => rw [q] at r; exact r.elim
  | bad => rw [q] at r; exact r
theorem noexc_eq {α : Type} {m : M α} {h h' : AHeap} {a : α} (e : m h = .ok a h') : noexc m h = .ok a h' := by unfold noexc; rw [e]
/-- a comprehension whose turns are told, the heap as it was -/
theorem lcL_map {F : AV → M (Option AV)} {g : AV → AV} {h : AHeap} : ∀ {xs : List AV}, (∀ x ∈ xs, F x h = .ok (some (g x)) h) → lcL F xs h = .ok (xs.map g) h
  | [], _ => rfl
  | x :: xs, hf => by
    show M.bind _ _ h = _
    rw [bind_app, hf x List.mem_cons_self, bnd_ok, bind_app, lcL_map fun y hy => hf y (List.mem_cons_of_mem _ hy)]
    rfl
theorem lcL_filter {F : AV → M (Option AV)} {p : AV → Bool} {g : AV → AV} {h : AHeap} : ∀ {xs : List AV}, (∀ x ∈ xs, F x h = .ok (if p x then some (g x) else none) h) → lcL F xs h = .ok ((xs.filter p).map g) h
  | [], _ => rfl
  | x :: xs, hf => by
    show M.bind _ _ h = _
    rw [bind_app, hf x List.mem_cons_self, bnd_ok, bind_app, lcL_filter fun y hy => hf y (List.mem_cons_of_mem _ hy)]
    cases hp : p x <;> simp [hp, bnd_ok, pure_app, consO]
theorem turn_app (C : Orc) (σ : Loc) (is vs : List Nat) (cond elt : E) (x : AV) (h : AHeap) {o : Option AV} {h' : AHeap}
    (e : (Out.bnd (bindT is x (wipeL σ vs) h) fun σ2 => M.bind (evT C σ2 cond) fun k => if k = true then M.bind (ev C σ2 elt) fun y => M.pure (some y) else M.pure none) = .ok o h') : turn C σ is vs cond elt x h = .ok o h' := by
  unfold turn
  refine noexc_eq ?_
  rw [bind_app]; exact e
theorem turn_rn (C : Orc) (σ : Loc) (is vs : List Nat) (cond elt : E) (x : AV) (h : AHeap) {Q : Option AV → AHeap → Prop}
    (e : Rn (Out.bnd (bindT is x (wipeL σ vs) h) fun σ2 => M.bind (evT C σ2 cond) fun k => if k = true then M.bind (ev C σ2 elt) fun y => M.pure (some y) else M.pure none) Q) : Rn (turn C σ is vs cond elt x h) Q := by
  unfold turn
  refine noexc_rn ?_
  rw [bind_app]; exact e
end NT
set_option linter.all false
set_option maxRecDepth 100000
set_option autoImplicit false
namespace NT
open PySem
/-! ### values: what is told of them when they stand there -/
section
variable (C : Orc) (h : AHeap) (i j : Int)
theorem lget_app (σ : Loc) (n : Nat) : lget σ n h = M.of (σ[n]?.getD none) h := rfl
theorem cmp_eqI : cmpO C .Eq (.int i) (.int j) h = .ok (.bl (decide (i = j))) h := rfl
theorem cmp_neI : cmpO C .NotEq (.int i) (.int j) h = .ok (.bl (!decide (i = j))) h := rfl
theorem cmp_ltI : cmpO C .Lt (.int i) (.int j) h = .ok (.bl (decide (i < j))) h := rfl
theorem cmp_leI : cmpO C .LtE (.int i) (.int j) h = .ok (.bl (decide (i ≤ j))) h := rfl
theorem cmp_gtI : cmpO C .Gt (.int i) (.int j) h = .ok (.bl (decide (j < i))) h := rfl
theorem cmp_geI : cmpO C .GtE (.int i) (.int j) h = .ok (.bl (decide (j ≤ i))) h := rfl
theorem cmp_eqB (a b : Bool) : cmpO C .Eq (.bl a) (.bl b) h = .ok (.bl (a == b)) h := rfl
theorem cmp_eqS (a b : Str) : cmpO C .Eq (.str a) (.str b) h = .ok (.bl (a == b)) h := rfl
theorem cmp_isN (a : AV) : cmpO C .Is a .non h = .ok (.bl (match a with | .non => true | _ => false)) h := by cases a <;> rfl
theorem cmp_notN (a : AV) : cmpO C .IsNot a .non h = .ok (.bl (match a with | .non => false | _ => true)) h := by cases a <;> rfl
theorem bin_addI : binV .Add (.int i) (.int j) h = .ok (.int (i + j)) h := rfl
theorem bin_subI : binV .Sub (.int i) (.int j) h = .ok (.int (i - j)) h := rfl
theorem bin_mulI : binV .Mult (.int i) (.int j) h = ok1 (mulOk i j) (.int (i * j)) h := rfl
theorem bin_divI : binV .FloorDiv (.int i) (.int j) h = ok1 (divOk j) (.int (i.fdiv j)) h := rfl
theorem bin_modI : binV .Mod (.int i) (.int j) h = ok1 (decide (j ≠ 0)) (.int (i.fmod j)) h := rfl
theorem bin_powI : binV .Pow (.int i) (.int j) h = ok1 (powOk i j) (.int (i ^ j.toNat)) h := rfl
theorem asB_app (b : Bool) : asB (.bl b) h = .ok b h := rfl
theorem asI_app : asI (.int i) h = .ok i h := rfl
theorem tru_bl (b : Bool) : truV (.bl b) h = .ok b h := rfl
theorem blt_abs : bltO C .abs [.int i] h = .ok (.int (if i < 0 then -i else i)) h := rfl
theorem blt_int : bltO C .int [.int i] h = .ok (.int i) h := rfl
theorem blt_lenL (xs : List AV) : bltO C .len [.lst xs] h = .ok (.int xs.length) h := rfl
theorem blt_lenT (xs : List AV) : bltO C .len [.tup xs] h = .ok (.int xs.length) h := rfl
theorem blt_lenS (s : Str) : bltO C .len [.str s] h = ok1 (decide (s.length ≤ line)) (.int s.length) h := rfl
theorem blt_list (xs : List AV) : bltO C .list [.lst xs] h = .ok (.lst xs) h := rfl
theorem blt_listT (xs : List AV) : bltO C .list [.tup xs] h = .ok (.lst xs) h := rfl
theorem blt_isinst (a : AV) (T : String) : bltO C .isinstance [a, .ty T] h = M.of ((isi1 C a (.ty T)).map .bl) h := rfl
theorem blt_all (xs : List AV) : bltO C .all [.lst xs] h = M.of ((allB xs).map fun bs => .bl (bs.all id)) h := rfl
theorem blt_any (xs : List AV) : bltO C .any [.lst xs] h = M.of ((allB xs).map fun bs => .bl (bs.any id)) h := rfl
theorem sub_L (xs : List AV) : subV (.lst xs) (.int i) h = M.of (L2.atI xs i) h := rfl
theorem sub_T (xs : List AV) : subV (.tup xs) (.int i) h = M.of (L2.atI xs i) h := rfl
end
theorem mulOk_l {i j : Int} (h : i.natAbs < 18446744073709551616) : mulOk i j = true := by simp [mulOk, h]
theorem mulOk_r {i j : Int} (h : j.natAbs < 18446744073709551616) : mulOk i j = true := by simp [mulOk, h]
theorem divOk_s {j : Int} (h : 0 < j) (h2 : j < 1073741824) : divOk j = true := by
  simp only [divOk, Bool.and_eq_true, Bool.or_eq_true, decide_eq_true_eq]; omega
theorem fmod_nn {a b : Int} (h : 0 < b) : 0 ≤ a.fmod b := Int.fmod_nonneg_of_pos a h
theorem fmod_lt {a b : Int} (h : 0 < b) : a.fmod b < b := Int.fmod_lt_of_pos a h
theorem fdiv_nn {a b : Int} (ha : 0 ≤ a) (h : 0 < b) : 0 ≤ a.fdiv b := by
  rw [Int.fdiv_eq_ediv_of_nonneg a (by omega)]; exact Int.ediv_nonneg ha (by omega)

/-! ### the bag -/
structure Bag where
  cs : List Int
  i : Nat
  r : Int
  x : Int
def Bag.Ok (b : Bag) : Prop := 0 ≤ b.r ∧ 0 ≤ b.x ∧ b.x < 2147483648
def bagO (b : Bag) : AObj := .lst [.lst (b.cs.map .int), .int b.i, .int b.r, .int b.x]
section
variable (b : Bag) (hs : AHeap) (v : Int)
theorem bag0 : subV (.ref 0) (.int 0) (bagO b :: hs) = .ok (.lst (b.cs.map .int)) (bagO b :: hs) := rfl
theorem bag1 : subV (.ref 0) (.int 1) (bagO b :: hs) = .ok (.int b.i) (bagO b :: hs) := rfl
theorem bag2 : subV (.ref 0) (.int 2) (bagO b :: hs) = .ok (.int b.r) (bagO b :: hs) := rfl
theorem bag3 : subV (.ref 0) (.int 3) (bagO b :: hs) = .ok (.int b.x) (bagO b :: hs) := rfl
theorem bagS1 (n : Nat) : setSubV (.ref 0) (.int 1) (.int ((n : Int) + 1)) (bagO b :: hs) = .ok () (bagO { b with i := n + 1 } :: hs) := rfl
theorem bagS2 : setSubV (.ref 0) (.int 2) (.int v) (bagO b :: hs) = .ok () (bagO { b with r := v } :: hs) := rfl
theorem bagS3 : setSubV (.ref 0) (.int 3) (.int v) (bagO b :: hs) = .ok () (bagO { b with x := v } :: hs) := rfl
end
structure DP where
  k1 : Int
  m0 : Int
  k2 : Int
  k3 : Int
  m1 : Int
  k4 : Int
  k5 : Int
  m2 : Int
  dv : Int
def DP.Ok (p : DP) : Prop := 0 < p.m0 ∧ p.m0 < 2147483648 ∧ 0 < p.m1 ∧ p.m1 < 2147483648 ∧ 0 < p.m2 ∧ p.m2 < 2147483648 ∧ 0 < p.dv ∧ p.dv < 1073741824
instance (p : DP) : Decidable p.Ok := inferInstanceAs (Decidable (_ ∧ _))
def irDraw (p : DP) : S :=
    .seq (.ife (.and (.cmp .Eq (.sub (.var 0) (.cst (.int 2))) (.cst (.int 0))) (.cmp .Lt (.sub (.var 0) (.cst (.int 1))) (.blt .len (.cons (.sub (.var 0) (.cst (.int 0))) (.nil))))) (.seq (.asg 2 (.sub (.sub (.var 0) (.cst (.int 0))) (.sub (.var 0) (.cst (.int 1)))))
    (.seq (.setSub (.var 0) (.cst (.int 1)) (.bin .Add (.sub (.var 0) (.cst (.int 1))) (.cst (.int 1))))
    (.seq (.ife (.cmp .GtE (.blt .abs (.cons (.var 2) (.nil))) (.bin .Pow (.cst (.int 10)) (.cst (.int 18)))) (.seq (.setSub (.var 0) (.cst (.int 2)) (.blt .abs (.cons (.var 2) (.nil))))
    (.skip)) (.seq (.setSub (.var 0) (.cst (.int 3)) (.bin .Mod (.blt .int (.cons (.bin .Add (.bin .Add (.bin .Mult (.sub (.var 0) (.cst (.int 3))) (.cst (.int p.k1))) (.bin .Mult (.bin .Mod (.blt .int (.cons (.var 2) (.nil))) (.cst (.int p.m0))) (.cst (.int p.k2)))) (.cst (.int p.k3))) (.nil))) (.cst (.int p.m1))))
    (.skip)))
    (.skip)))) (.skip))
    (.seq (.ife (.cmp .Gt (.sub (.var 0) (.cst (.int 2))) (.cst (.int 0))) (.seq (.asg 3 (.bin .Mod (.blt .int (.cons (.sub (.var 0) (.cst (.int 2))) (.nil))) (.var 1)))
    (.seq (.setSub (.var 0) (.cst (.int 2)) (.bin .FloorDiv (.sub (.var 0) (.cst (.int 2))) (.var 1)))
    (.seq (.ret (.var 3))
    (.skip)))) (.skip))
    (.seq (.setSub (.var 0) (.cst (.int 3)) (.bin .Mod (.blt .int (.cons (.bin .Add (.bin .Add (.bin .Mult (.bin .Mult (.sub (.var 0) (.cst (.int 3))) (.sub (.var 0) (.cst (.int 3)))) (.cst (.int 3))) (.bin .Mult (.sub (.var 0) (.cst (.int 3))) (.cst (.int p.k4)))) (.cst (.int p.k5))) (.nil))) (.cst (.int p.m2))))
    (.seq (.ret (.bin .Mod (.blt .int (.cons (.bin .FloorDiv (.sub (.var 0) (.cst (.int 3))) (.cst (.int p.dv))) (.nil))) (.var 1)))
    (.skip))))
theorem atI_map (cs : List Int) (i : Nat) (hi : i < cs.length) : L2.atI (cs.map AV.int) (i : Int) = some (.int (cs[i])) := by
  unfold L2.atI L2.ixN
  simp [hi]
theorem ty_non_int (C : Orc) : isi1 C .non (.ty "int") = some false := rfl
theorem ty_non_bool (C : Orc) : isi1 C .non (.ty "bool") = some false := rfl
theorem ty_non_str (C : Orc) : isi1 C .non (.ty "str") = some false := rfl
theorem ty_non_list (C : Orc) : isi1 C .non (.ty "list") = some false := rfl
theorem ty_non_tuple (C : Orc) : isi1 C .non (.ty "tuple") = some false := rfl
theorem ty_bl_int (C : Orc) (b : Bool) : isi1 C (.bl b) (.ty "int") = some true := rfl
theorem ty_bl_bool (C : Orc) (b : Bool) : isi1 C (.bl b) (.ty "bool") = some true := rfl
theorem ty_bl_str (C : Orc) (b : Bool) : isi1 C (.bl b) (.ty "str") = some false := rfl
theorem ty_bl_list (C : Orc) (b : Bool) : isi1 C (.bl b) (.ty "list") = some false := rfl
theorem ty_bl_tuple (C : Orc) (b : Bool) : isi1 C (.bl b) (.ty "tuple") = some false := rfl
theorem ty_int_int (C : Orc) (i : Int) : isi1 C (.int i) (.ty "int") = some true := rfl
theorem ty_int_bool (C : Orc) (i : Int) : isi1 C (.int i) (.ty "bool") = some false := rfl
theorem ty_int_str (C : Orc) (i : Int) : isi1 C (.int i) (.ty "str") = some false := rfl
theorem ty_int_list (C : Orc) (i : Int) : isi1 C (.int i) (.ty "list") = some false := rfl
theorem ty_int_tuple (C : Orc) (i : Int) : isi1 C (.int i) (.ty "tuple") = some false := rfl
theorem ty_str_int (C : Orc) (s : Str) : isi1 C (.str s) (.ty "int") = some false := rfl
theorem ty_str_bool (C : Orc) (s : Str) : isi1 C (.str s) (.ty "bool") = some false := rfl
theorem ty_str_str (C : Orc) (s : Str) : isi1 C (.str s) (.ty "str") = some true := rfl
theorem ty_str_list (C : Orc) (s : Str) : isi1 C (.str s) (.ty "list") = some false := rfl
theorem ty_str_tuple (C : Orc) (s : Str) : isi1 C (.str s) (.ty "tuple") = some false := rfl
theorem ty_tup_int (C : Orc) (xs : List AV) : isi1 C (.tup xs) (.ty "int") = some false := rfl
theorem ty_tup_bool (C : Orc) (xs : List AV) : isi1 C (.tup xs) (.ty "bool") = some false := rfl
theorem ty_tup_str (C : Orc) (xs : List AV) : isi1 C (.tup xs) (.ty "str") = some false := rfl
theorem ty_tup_list (C : Orc) (xs : List AV) : isi1 C (.tup xs) (.ty "list") = some false := rfl
theorem ty_tup_tuple (C : Orc) (xs : List AV) : isi1 C (.tup xs) (.ty "tuple") = some true := rfl
theorem ty_lst_int (C : Orc) (xs : List AV) : isi1 C (.lst xs) (.ty "int") = some false := rfl
theorem ty_lst_bool (C : Orc) (xs : List AV) : isi1 C (.lst xs) (.ty "bool") = some false := rfl
theorem ty_lst_str (C : Orc) (xs : List AV) : isi1 C (.lst xs) (.ty "str") = some false := rfl
theorem ty_lst_list (C : Orc) (xs : List AV) : isi1 C (.lst xs) (.ty "list") = some true := rfl
theorem ty_lst_tuple (C : Orc) (xs : List AV) : isi1 C (.lst xs) (.ty "tuple") = some false := rfl
theorem ln_0 : (0 ≤ line) = True := by simp [line]
theorem ln_1 : (1 ≤ line) = True := by simp [line]
theorem ln_2 : (2 ≤ line) = True := by simp [line]
theorem ln_3 : (3 ≤ line) = True := by simp [line]
theorem ln_4 : (4 ≤ line) = True := by simp [line]
theorem ln_5 : (5 ≤ line) = True := by simp [line]
theorem ln_6 : (6 ≤ line) = True := by simp [line]
theorem ln_7 : (7 ≤ line) = True := by simp [line]
theorem ln_8 : (8 ≤ line) = True := by simp [line]
theorem ln_9 : (9 ≤ line) = True := by simp [line]
theorem ln_10 : (10 ≤ line) = True := by simp [line]
theorem ln_11 : (11 ≤ line) = True := by simp [line]
theorem ln_12 : (12 ≤ line) = True := by simp [line]
theorem ln_13 : (13 ≤ line) = True := by simp [line]
theorem ln_14 : (14 ≤ line) = True := by simp [line]
theorem ln_15 : (15 ≤ line) = True := by simp [line]
theorem ln_16 : (16 ≤ line) = True := by simp [line]
theorem ln_17 : (17 ≤ line) = True := by simp [line]
theorem ln_18 : (18 ≤ line) = True := by simp [line]
theorem ln_19 : (19 ≤ line) = True := by simp [line]
theorem ln_20 : (20 ≤ line) = True := by simp [line]
theorem ln_21 : (21 ≤ line) = True := by simp [line]
theorem ln_22 : (22 ≤ line) = True := by simp [line]
theorem ln_23 : (23 ≤ line) = True := by simp [line]
theorem ln_24 : (24 ≤ line) = True := by simp [line]
theorem ln_25 : (25 ≤ line) = True := by simp [line]
theorem ln_26 : (26 ≤ line) = True := by simp [line]
theorem ln_27 : (27 ≤ line) = True := by simp [line]
theorem ln_28 : (28 ≤ line) = True := by simp [line]
theorem ln_29 : (29 ≤ line) = True := by simp [line]
theorem ln_30 : (30 ≤ line) = True := by simp [line]
theorem ln_31 : (31 ≤ line) = True := by simp [line]
theorem ln_32 : (32 ≤ line) = True := by simp [line]
theorem ln_33 : (33 ≤ line) = True := by simp [line]
theorem ln_34 : (34 ≤ line) = True := by simp [line]
theorem ln_35 : (35 ≤ line) = True := by simp [line]
theorem ln_36 : (36 ≤ line) = True := by simp [line]
theorem ln_37 : (37 ≤ line) = True := by simp [line]
theorem ln_38 : (38 ≤ line) = True := by simp [line]
theorem ln_39 : (39 ≤ line) = True := by simp [line]
theorem ln_40 : (40 ≤ line) = True := by simp [line]
theorem bmTy_join (s : Str) (h : AHeap) : bmG .join (.str s) h = .ok () h := rfl
theorem bmV_join (s : Str) (xs : List AV) (h : AHeap) : bmV .join (.str s) [.lst xs] h = joinV s (allS xs) h := rfl
theorem slc_S (s : Str) (l u : Option Int) (h : AHeap) : slcV (.str s) l u h = ok1 (decide (s.length ≤ line)) (.str (L2.cutS s l u)) h := rfl
theorem bin_addS (x y : Str) (h : AHeap) : binV .Add (.str x) (.str y) h = ok1 (decide (x.length + y.length ≤ line)) (.str (x ++ y)) h := rfl
theorem neg_I (i : Int) (h : AHeap) : negV (.int i) h = .ok (.int (-i)) h := rfl
theorem asS_app (s : Str) (h : AHeap) : asS (.str s) h = .ok s h := rfl
theorem cmp_neS (C : Orc) (a b : Str) (h : AHeap) : cmpO C .NotEq (.str a) (.str b) h = .ok (.bl (!(a == b))) h := rfl
theorem bindT_three (i j k : Nat) (x y z : AV) (σ : Loc) (h : AHeap) : bindT [i, j, k] (.tup [x, y, z]) σ h = .ok (((σ.set i (some x)).set j (some y)).set k (some z)) h := rfl
theorem bindT_four (i j k l : Nat) (x y z w : AV) (σ : Loc) (h : AHeap) (hn : (i == j) = false) : bindT [i, j, k, l] (.tup [x, y, z, w]) σ h = .ok ((((σ.set i (some x)).set j (some y)).set k (some z)).set l (some w)) h := by
  unfold bindT setN
  rw [show nestB [i, j, k, l] = false from hn]
  rfl
theorem bindT_L2 (i j : Nat) (x y : AV) (σ : Loc) (h : AHeap) : bindT [i, j] (.lst [x, y]) σ h = .ok ((σ.set i (some x)).set j (some y)) h := rfl
theorem bindT_L3 (i j k : Nat) (x y z : AV) (σ : Loc) (h : AHeap) : bindT [i, j, k] (.lst [x, y, z]) σ h = .ok (((σ.set i (some x)).set j (some y)).set k (some z)) h := rfl
theorem blt_tuple (C : Orc) (xs : List AV) (h : AHeap) : bltO C .tuple [.lst xs] h = .ok (.tup xs) h := rfl
theorem blt_isinsC (C : Orc) (a : AV) (c : Nat) (h : AHeap) : bltO C .isinstance [a, .cls c] h = M.of ((isi1 C a (.cls c)).map .bl) h := rfl
theorem blt_isinsT (C : Orc) (a : AV) (ts : List AV) (h : AHeap) : bltO C .isinstance [a, .tup ts] h = if ts.isEmpty = true then .bad else M.of ((isiA C a ts).map .bl) h := rfl
theorem blt_sum (C : Orc) (xs : List AV) (h : AHeap) : bltO C .sum [.lst xs] h = M.of ((allI xs).map fun ns => .int ns.sum) h := rfl
theorem blt_str (C : Orc) (i : Int) (h : AHeap) : bltO C .str [.int i] h = ok1 (decide (i.natAbs.log2 < 1920)) (.str (Str.ofString (toString i))) h := rfl
theorem blt_max (C : Orc) (i j : Int) (h : AHeap) : bltO C .max [.int i, .int j] h = .ok (.int (if j > i then j else i)) h := rfl
theorem isiA_nil (C : Orc) (x : AV) : isiA C x [] = some false := rfl
theorem isiA_cons (C : Orc) (x t : AV) (ts : List AV) : isiA C x (t :: ts) = match isi1 C x t with
    | some true => some true
    | some false => isiA C x ts
    | none => none := rfl
theorem slc_L (xs : List AV) (l u : Option Int) (h : AHeap) : slcV (.lst xs) l u h = .ok (.lst (cut xs l u)) h := rfl
theorem slc_T (xs : List AV) (l u : Option Int) (h : AHeap) : slcV (.tup xs) l u h = .ok (.tup (cut xs l u)) h := rfl
theorem bin_addL (xs ys : List AV) (h : AHeap) : binV .Add (.lst xs) (.lst ys) h = ok1 (decide (xs.length + ys.length ≤ line)) (.lst (xs ++ ys)) h := rfl
-- MAC
local macro_rules | `(tactic| walk_at "exe") => `(tactic| simp only [bnd_ok, bnd_exc, bind_app, pure_app, of_some, ok1_true, guard_true, ite_app, ev_cst, ev_var, ev_bin, ev_neg, ev_cmp, ev_chn, ev_and, ev_or, ev_notv, ev_ifx, ev_tup, ev_lst, ev_mlst, ev_sub, ev_slc, ev_slcL, ev_slcH, ev_call, ev_blt, ev_attr, ev_meth, ev_new, ev_fst, ev_fmt, evJ_nil, evJ_cons, evs_arr, ev_got, gotO_ok, gotO_exc, ev_bm, ev_lc, evT_and, evT_or, evT_not, evT_cmp, evT_chn, evT_tv, evs_nil, evs_cons, evI_rng, evI_zip, evI_itv, xec_skip, xec_seq, seqF_nx, seqF_rt, seqF_bk, seqF_ct, xec_expr, xec_ret, xec_asg, xec_unp, xec_par, xec_setFld, xec_raise, xec_setSub, xec_aug, xec_ife, xec_for, xec_brk, xec_cnt, flowV_nx, flowV_rt, bindT_one, bindT_two, bindT_three, bindT_four, bindT_L2, bindT_L3, lget_app, orc_call, cmp_eqI, cmp_neI, cmp_ltI, cmp_leI, cmp_gtI, cmp_geI, cmp_eqB, cmp_eqS, cmp_neS, cmp_isN, cmp_notN, bin_addI, bin_subI, bin_mulI, bin_divI, bin_modI, bin_powI, neg_I, asB_app, asI_app, asS_app, tru_bl, blt_abs, blt_int, blt_lenL, blt_lenT, blt_lenS, blt_list, blt_listT, blt_tuple, blt_isinst, blt_isinsC, blt_isinsT, blt_all, blt_any, blt_sum, blt_str, blt_max, isiA_nil, isiA_cons, sub_L, sub_T, setAll, bmTy_join, bmV_join, slc_S, slc_L, slc_T, bin_addS, bin_addL, arrL, ln_0, ln_1, ln_2, ln_3, ln_4, ln_5, ln_6, ln_7, ln_8, ln_9, ln_10, ln_11, ln_12, ln_13, ln_14, ln_15, ln_16, ln_17, ln_18, ln_19, ln_20, ln_21, ln_22, ln_23, ln_24, ln_25, ln_26, ln_27, ln_28, ln_29, ln_30, ln_31, ln_32, ln_33, ln_34, ln_35, ln_36, ln_37, ln_38, ln_39, ln_40, ty_non_int, ty_non_bool, ty_non_str, ty_non_list, ty_non_tuple, ty_bl_int, ty_bl_bool, ty_bl_str, ty_bl_list, ty_bl_tuple, ty_int_int, ty_int_bool, ty_int_str, ty_int_list, ty_int_tuple, ty_str_int, ty_str_bool, ty_str_str, ty_str_list, ty_str_tuple, ty_tup_int, ty_tup_bool, ty_tup_str, ty_tup_list, ty_tup_tuple, ty_lst_int, ty_lst_bool, ty_lst_str, ty_lst_list, ty_lst_tuple, bag0, bag1, bag2, bag3, bagS1, bagS2, bagS3, List.cons_append, List.nil_append, List.append_nil, List.getElem?_cons_zero, List.getElem?_cons_succ, List.getElem?_nil, Option.getD_some, Option.getD_none, List.getD_cons_zero, List.getD_cons_succ, List.set_cons_zero, List.set_cons_succ, List.length_cons, List.length_nil, List.map_cons, List.map_nil, Option.map_some, decide_eq_true_eq, Bool.and_true, Bool.true_and, Bool.and_false, Bool.false_and, Bool.or_true, Bool.true_or, Bool.or_false, Bool.false_or, Bool.not_true, Bool.not_false, if_true, if_false, ite_true, ite_false, Bool.false_eq_true, reduceIte, decide_true, decide_false, List.isEmpty_cons, Nat.reduceAdd, Int.cast_ofNat_Int, Int.reduceEq, Int.reduceLT, Int.reduceLE, Int.reduceAdd, Int.reduceSub, Int.reduceMul, Int.reduceNeg, Nat.zero_add])
local macro_rules | `(tactic| walk_at "exh") => `(tactic| simp only [bnd_ok, bnd_exc, bind_app, pure_app, of_some, ok1_true, guard_true, ite_app, ev_cst, ev_var, ev_bin, ev_neg, ev_cmp, ev_chn, ev_and, ev_or, ev_notv, ev_ifx, ev_tup, ev_lst, ev_mlst, ev_sub, ev_slc, ev_slcL, ev_slcH, ev_call, ev_blt, ev_attr, ev_meth, ev_new, ev_fst, ev_fmt, evJ_nil, evJ_cons, evs_arr, ev_got, gotO_ok, gotO_exc, ev_bm, ev_lc, evT_and, evT_or, evT_not, evT_cmp, evT_chn, evT_tv, evs_nil, evs_cons, evI_rng, evI_zip, evI_itv, xec_skip, xec_seq, seqF_nx, seqF_rt, seqF_bk, seqF_ct, xec_expr, xec_ret, xec_asg, xec_unp, xec_par, xec_setFld, xec_raise, xec_setSub, xec_aug, xec_ife, xec_for, xec_brk, xec_cnt, flowV_nx, flowV_rt, bindT_one, bindT_two, bindT_three, bindT_four, bindT_L2, bindT_L3, lget_app, orc_call, cmp_eqI, cmp_neI, cmp_ltI, cmp_leI, cmp_gtI, cmp_geI, cmp_eqB, cmp_eqS, cmp_neS, cmp_isN, cmp_notN, bin_addI, bin_subI, bin_mulI, bin_divI, bin_modI, bin_powI, neg_I, asB_app, asI_app, asS_app, tru_bl, blt_abs, blt_int, blt_lenL, blt_lenT, blt_lenS, blt_list, blt_listT, blt_tuple, blt_isinst, blt_isinsC, blt_isinsT, blt_all, blt_any, blt_sum, blt_str, blt_max, isiA_nil, isiA_cons, sub_L, sub_T, setAll, bmTy_join, bmV_join, slc_S, slc_L, slc_T, bin_addS, bin_addL, arrL, ln_0, ln_1, ln_2, ln_3, ln_4, ln_5, ln_6, ln_7, ln_8, ln_9, ln_10, ln_11, ln_12, ln_13, ln_14, ln_15, ln_16, ln_17, ln_18, ln_19, ln_20, ln_21, ln_22, ln_23, ln_24, ln_25, ln_26, ln_27, ln_28, ln_29, ln_30, ln_31, ln_32, ln_33, ln_34, ln_35, ln_36, ln_37, ln_38, ln_39, ln_40, ty_non_int, ty_non_bool, ty_non_str, ty_non_list, ty_non_tuple, ty_bl_int, ty_bl_bool, ty_bl_str, ty_bl_list, ty_bl_tuple, ty_int_int, ty_int_bool, ty_int_str, ty_int_list, ty_int_tuple, ty_str_int, ty_str_bool, ty_str_str, ty_str_list, ty_str_tuple, ty_tup_int, ty_tup_bool, ty_tup_str, ty_tup_list, ty_tup_tuple, ty_lst_int, ty_lst_bool, ty_lst_str, ty_lst_list, ty_lst_tuple, bag0, bag1, bag2, bag3, bagS1, bagS2, bagS3, List.cons_append, List.nil_append, List.append_nil, List.getElem?_cons_zero, List.getElem?_cons_succ, List.getElem?_nil, Option.getD_some, Option.getD_none, List.getD_cons_zero, List.getD_cons_succ, List.set_cons_zero, List.set_cons_succ, List.length_cons, List.length_nil, List.map_cons, List.map_nil, Option.map_some, decide_eq_true_eq, Bool.and_true, Bool.true_and, Bool.and_false, Bool.false_and, Bool.or_true, Bool.true_or, Bool.or_false, Bool.false_or, Bool.not_true, Bool.not_false, if_true, if_false, ite_true, ite_false, Bool.false_eq_true, reduceIte, decide_true, decide_false, List.isEmpty_cons, Nat.reduceAdd, Int.cast_ofNat_Int, Int.reduceEq, Int.reduceLT, Int.reduceLE, Int.reduceAdd, Int.reduceSub, Int.reduceMul, Int.reduceNeg, Nat.zero_add, *])
/-- what a draw promises -/
def Drawn (m : Int) (hs : AHeap) (v : AV) (h' : AHeap) : Prop := ∃ d b', v = .int d ∧ 0 ≤ d ∧ d < m ∧ Bag.Ok b' ∧ h' = bagO b' :: hs
theorem pow18 : (10 : Int) ^ ((18 : Int).toNat) = 1000000000000000000 := by decide
theorem abs_nn (i : Int) : 0 ≤ (if i < 0 then -i else i) := by split <;> omega
/-- the first half of a draw -/
theorem draw_in (C : Orc) (p : DP) (hp : p.Ok) (b : Bag) (hb : b.Ok) (hs : AHeap) (m : Int) (s : S) :
    ∃ b' σ2, b'.Ok ∧ xec C (.seq (.ife (.and (.cmp .Eq (.sub (.var 0) (.cst (.int 2))) (.cst (.int 0))) (.cmp .Lt (.sub (.var 0) (.cst (.int 1))) (.blt .len (.cons (.sub (.var 0) (.cst (.int 0))) (.nil))))) (.seq (.asg 2 (.sub (.sub (.var 0) (.cst (.int 0))) (.sub (.var 0) (.cst (.int 1)))))
    (.seq (.setSub (.var 0) (.cst (.int 1)) (.bin .Add (.sub (.var 0) (.cst (.int 1))) (.cst (.int 1))))
    (.seq (.ife (.cmp .GtE (.blt .abs (.cons (.var 2) (.nil))) (.bin .Pow (.cst (.int 10)) (.cst (.int 18)))) (.seq (.setSub (.var 0) (.cst (.int 2)) (.blt .abs (.cons (.var 2) (.nil))))
    (.skip)) (.seq (.setSub (.var 0) (.cst (.int 3)) (.bin .Mod (.blt .int (.cons (.bin .Add (.bin .Add (.bin .Mult (.sub (.var 0) (.cst (.int 3))) (.cst (.int p.k1))) (.bin .Mult (.bin .Mod (.blt .int (.cons (.var 2) (.nil))) (.cst (.int p.m0))) (.cst (.int p.k2)))) (.cst (.int p.k3))) (.nil))) (.cst (.int p.m1))))
    (.skip)))
    (.skip)))) (.skip)) s) [some (.ref 0), some (.int m), none, none] (bagO b :: hs) = xec C s [some (.ref 0), some (.int m), σ2, none] (bagO b' :: hs) := by
  obtain ⟨h0, h1, h2, h3, h4, h5, h6, h7⟩ := hp
  obtain ⟨q0, q1, q2⟩ := hb
  have w18 : powOk 10 18 = true := by decide
  have w19 := pow18
  by_cases e0 : b.r = 0
  · by_cases e1 : b.i < b.cs.length
    · have e1' : ((b.i : Int) < ((b.cs.map AV.int).length : Int)) := by rw [List.length_map]; omega
      have ea := atI_map b.cs b.i e1
      by_cases e2 : (1000000000000000000 : Int) ≤ (if b.cs[b.i] < 0 then -b.cs[b.i] else b.cs[b.i])
      · refine ⟨{ b with i := b.i + 1, r := if b.cs[b.i] < 0 then -b.cs[b.i] else b.cs[b.i] }, some (.int (b.cs[b.i])), ⟨abs_nn _, q1, q2⟩, ?_⟩
        walk_at "exh"
      · refine ⟨{ b with i := b.i + 1, x := (b.x * p.k1 + (b.cs[b.i]).fmod p.m0 * p.k2 + p.k3).fmod p.m1 }, some (.int (b.cs[b.i])), ⟨q0, fmod_nn h2, Int.lt_trans (fmod_lt h2) h3⟩, ?_⟩
        have g1 : mulOk b.x p.k1 = true := mulOk_l (by omega)
        have g2 : mulOk ((b.cs[b.i]).fmod p.m0) p.k2 = true := mulOk_l (by have := fmod_nn (a := b.cs[b.i]) h0; have := fmod_lt (a := b.cs[b.i]) h0; omega)
        have g3 : decide (p.m0 ≠ 0) = true := by simp; omega
        have g4 : decide (p.m1 ≠ 0) = true := by simp; omega
        walk_at "exh"
    · have e1' : ¬ ((b.i : Int) < ((b.cs.map AV.int).length : Int)) := by rw [List.length_map]; omega
      refine ⟨b, none, ⟨q0, q1, q2⟩, ?_⟩
      walk_at "exe"
      simp only [e0, e1']
      walk_at "exe"
  · refine ⟨b, none, ⟨q0, q1, q2⟩, ?_⟩
    walk_at "exe"
    simp only [e0]
    walk_at "exe"
theorem rn_draw (C : Orc) (p : DP) (hp : p.Ok) (b : Bag) (hb : b.Ok) (hs : AHeap) (m : Int) (hm : 0 < m) (hd : divOk m = true) :
    Rn (Out.bnd (xec C (irDraw p) [some (.ref 0), some (.int m), none, none] (bagO b :: hs)) flowV) (Drawn m hs) := by
  obtain ⟨b', σ2, hb', e⟩ := draw_in C p hp b hb hs m _
  unfold irDraw
  rw [e]
  obtain ⟨h0, h1, h2, h3, h4, h5, h6, h7⟩ := hp
  obtain ⟨q0, q1, q2⟩ := hb'
  have g0 : decide (m ≠ 0) = true := by simp; omega
  by_cases e0 : 0 < b'.r
  · walk_at "exe"
    simp only [e0]
    walk_at "exe"
    simp only [g0, hd]
    walk_at "exe"
    simp only [g0, hd]
    walk_at "exe"
    exact ⟨_, { b' with r := b'.r.fdiv m }, rfl, fmod_nn hm, fmod_lt hm, ⟨fdiv_nn q0 hm, q1, q2⟩, rfl⟩
  · have g1 : mulOk b'.x b'.x = true := mulOk_l (by omega)
    have g2 : mulOk (b'.x * b'.x) 3 = true := mulOk_r (by decide)
    have g3 : mulOk b'.x p.k4 = true := mulOk_l (by omega)
    have g4 : decide (p.m2 ≠ 0) = true := by simp; omega
    have g5 : divOk p.dv = true := divOk_s h6 h7
    walk_at "exe"
    walk_at "exh"
    exact ⟨_, { b' with x := (b'.x * b'.x * 3 + b'.x * p.k4 + p.k5).fmod p.m2 }, rfl, fmod_nn hm, fmod_lt hm, ⟨q0, fmod_nn h4, Int.lt_trans (fmod_lt h4) h5⟩, rfl⟩

section
variable {T : Tab} {f : Nat}
theorem run_draw {p : DP} (hf : T.fns[f]? = some ⟨2, false, 4, irDraw p, true⟩) (hp : p.Ok) (n : Nat) {b : Bag} (hb : b.Ok) (hs : AHeap) {m : Int} (hm : 0 < m) (hd : divOk m = true) :
    Rn (run T (n + 1) f [.ref 0, .int m] (bagO b :: hs)) (Drawn m hs) := by
  refine run_rn hf (σ := [some (.ref 0), some (.int m), none, none]) rfl (rn_draw _ p hp b hb hs m hm hd) ?_
  rintro v h' ⟨d, b', _, _, _, _, rfl⟩
  rfl
/-- what a pick promises -/
def Picked (xs : List AV) (hs : AHeap) (v : AV) (h' : AHeap) : Prop := ∃ b', v ∈ xs ∧ Bag.Ok b' ∧ h' = bagO b' :: hs
def irPick (fd : Nat) : S := .seq (.ret (.sub (.var 1) (.call fd (.cons (.var 0) (.cons (.blt .len (.cons (.var 1) (.nil))) (.nil)))))) (.skip)
theorem atI_get {α : Type} (xs : List α) (d : Int) (h0 : 0 ≤ d) (h1 : d < xs.length) : ∃ v, v ∈ xs ∧ L2.atI xs d = some v := by
  obtain ⟨k, rfl⟩ : ∃ k : Nat, d = k := ⟨d.toNat, by omega⟩
  have hk : k < xs.length := by omega
  refine ⟨xs[k], List.getElem_mem hk, ?_⟩
  unfold L2.atI L2.ixN
  simp [hk]
theorem run_pick {fd : Nat} {p : DP} (hf : T.fns[f]? = some ⟨2, false, 2, irPick fd, true⟩) (hfd : T.fns[fd]? = some ⟨2, false, 4, irDraw p, true⟩) (hp : p.Ok) (n : Nat) {b : Bag} (hb : b.Ok) (hs : AHeap) (xs : List AV) (h1 : 0 < xs.length) (h2 : xs.length < 1073741824) :
    Rn (run T (n + 2) f [.ref 0, .lst xs] (bagO b :: hs)) (Picked xs hs) := by
  refine run_rn hf (σ := [some (.ref 0), some (.lst xs)]) rfl ?_ (by rintro v h' ⟨b', _, _, rfl⟩; rfl)
  unfold bodyO irPick
  walk_at "exe"
  obtain ⟨v, h', e, d, b', rfl, q0, q1, hb', rfl⟩ := (run_draw hfd hp n hb hs (m := (xs.length : Int)) (by omega) (divOk_s (by omega) (by omega))).get
  obtain ⟨v, hv, ev⟩ := atI_get xs d q0 q1
  walk_at "exh"
  exact ⟨b', hv, hb', rfl⟩
theorem run_pickS {fd : Nat} {p : DP} (hf : T.fns[f]? = some ⟨2, false, 2, irPick fd, true⟩) (hfd : T.fns[fd]? = some ⟨2, false, 4, irDraw p, true⟩) (hp : p.Ok) (n : Nat) {b : Bag} (hb : b.Ok) (hs : AHeap) (s : Str) (h1 : 0 < s.length) (h2 : s.length < 16777216) :
    Rn (run T (n + 2) f [.ref 0, .str s] (bagO b :: hs)) (Picked (s.cps.toList.map chr1) hs) := by
  refine run_rn hf (σ := [some (.ref 0), some (.str s)]) rfl ?_ (by rintro v h' ⟨b', _, _, rfl⟩; rfl)
  unfold bodyO irPick
  walk_at "exe"
  have hl : s.length ≤ line := by unfold line; omega
  obtain ⟨v, h', e, d, b', rfl, q0, q1, hb', rfl⟩ := (run_draw hfd hp n hb hs (m := (s.length : Int)) (by omega) (divOk_s (by omega) (by omega))).get
  obtain ⟨v, hv, ev⟩ := atI_get s.cps.toList d q0 (by have : s.cps.toList.length = s.length := Array.length_toList; omega)
  have hl' : decide (s.length ≤ line) = true := by simpa using hl
  have es : subV (.str s) (.int d) (bagO b' :: hs) = .ok (chr1 v) (bagO b' :: hs) := by
    unfold subV; simp only [hl, if_true, ev]; rfl
  walk_at "exh"
  exact ⟨b', List.mem_map.2 ⟨v, hv, rfl⟩, hb', rfl⟩
def irBag (c0 c1 : Int) : S :=
    .seq (.asg 1 (.blt .list (.cons (.slcH (.var 0) (.cst (.int 63))) (.nil))))
    (.seq (.ret (.mlst (.cons (.var 1) (.cons (.cst (.int 0)) (.cons (.cst (.int 0)) (.cons (.bin .Add (.cst (.int c0)) (.bin .Mult (.cst (.int c1)) (.blt .len (.cons (.var 1) (.nil))))) (.nil)))))))
    (.skip))
theorem cut63 (ns : List Int) (h : ns.length ≤ 63) : cut (ns.map AV.int) none (some 63) = ns.map AV.int := by
  unfold cut HT.sIx
  simp only [List.length_map, List.drop_zero, Nat.sub_zero]
  apply List.take_of_length_le
  rw [List.length_map, if_neg (by decide)]
  have : (Int.toNat 63) = 63 := rfl
  omega
theorem run_bag {c0 c1 : Int} (hf : T.fns[f]? = some ⟨1, false, 2, irBag c0 c1, false⟩) (h0 : 0 ≤ c0 ∧ c0 < 1000000000 ∧ 0 ≤ c1 ∧ c1 < 10000000) (n : Nat) (ns : List Int) (hn : ns.length ≤ 63) :
    Rn (run T (n + 1) f [.lst (ns.map .int)] []) fun v h' => v = .ref 0 ∧ ∃ b, Bag.Ok b ∧ h' = [bagO b] := by
  refine run_rn0 hf rfl (σ := [some (.lst (ns.map .int)), none]) rfl ?_
  unfold bodyO irBag
  have g1 : mulOk c1 ((ns.map AV.int).length : Int) = true := mulOk_l (by omega)
  have g2 : slcV (.lst (ns.map .int)) none (some 63) [] = .ok (.lst (ns.map .int)) [] := by
    show Out.ok _ _ = _
    rw [cut63 ns hn]
  walk_at "exh"
  refine ⟨rfl, ⟨ns, 0, 0, c0 + c1 * (ns.length : Int)⟩, ⟨Int.le_refl 0, ?_, ?_⟩, ?_⟩
  · have : 0 ≤ c1 * (ns.length : Int) := Int.mul_nonneg h0.2.2.1 (by omega)
    show 0 ≤ c0 + c1 * (ns.length : Int); omega
  · have : c1 * (ns.length : Int) ≤ 10000000 * 63 := Int.mul_le_mul (by omega) (by omega) (by omega) (by decide)
    show c0 + c1 * (ns.length : Int) < _; omega
  · simp [bagO]

/-! ### _law_same -/
mutual
def same (a : AV) : AV → Bool
  | .lst ys => (match a with | .lst xs => sames xs ys | _ => false)
  | .tup ys => (match a with | .tup xs => sames xs ys | _ => false)
  | .non => (match a with | .non => true | _ => false)
  | .bl b => (match a with | .bl a => a == b | _ => false)
  | .int j => (match a with | .int i => decide (i = j) | _ => false)
  | .str t => (match a with | .str s => s == t | _ => false)
  | _ => false
def sames (xs : List AV) : List AV → Bool
  | [] => xs.isEmpty
  | y :: ys => match xs with
    | x :: xs => same x y && sames xs ys
    | [] => false
end
/-- data of depth d -/
def fine : Nat → AV → Bool
  | 0, v => flat v
  | d + 1, v => match v with
    | .lst xs => decide (xs.length ≤ line) && xs.all (fine d)
    | .tup xs => decide (xs.length ≤ line) && xs.all (fine d)
    | v => flat v
def irSame (f : Nat) : S :=
    .seq (.ife (.tv (.blt .isinstance (.cons (.var 1) (.cons (.cst (.ty "list")) (.nil))))) (.seq (.ret (.and (.blt .isinstance (.cons (.var 0) (.cons (.cst (.ty "list")) (.nil)))) (.and (.cmp .Eq (.blt .len (.cons (.var 0) (.nil))) (.blt .len (.cons (.var 1) (.nil)))) (.blt .all (.cons (.lc [2, 3] [2, 3] (.zip (.var 0) (.var 1)) (.tv (.cst (.bl true))) (.call f (.cons (.var 2) (.cons (.var 3) (.nil))))) (.nil))))))
    (.skip)) (.skip))
    (.seq (.ife (.tv (.blt .isinstance (.cons (.var 1) (.cons (.cst (.ty "tuple")) (.nil))))) (.seq (.ret (.and (.blt .isinstance (.cons (.var 0) (.cons (.cst (.ty "tuple")) (.nil)))) (.and (.cmp .Eq (.blt .len (.cons (.var 0) (.nil))) (.blt .len (.cons (.var 1) (.nil)))) (.blt .all (.cons (.lc [2, 3] [2, 3] (.zip (.var 0) (.var 1)) (.tv (.cst (.bl true))) (.call f (.cons (.var 2) (.cons (.var 3) (.nil))))) (.nil))))))
    (.skip)) (.skip))
    (.seq (.ife (.or (.cmp .Is (.var 1) (.cst .non)) (.cmp .Is (.var 0) (.cst .non))) (.seq (.ret (.and (.cmp .Is (.var 1) (.cst .non)) (.cmp .Is (.var 0) (.cst .non))))
    (.skip)) (.skip))
    (.seq (.ife (.or (.tv (.blt .isinstance (.cons (.var 1) (.cons (.cst (.ty "bool")) (.nil))))) (.tv (.blt .isinstance (.cons (.var 0) (.cons (.cst (.ty "bool")) (.nil)))))) (.seq (.ret (.and (.blt .isinstance (.cons (.var 1) (.cons (.cst (.ty "bool")) (.nil)))) (.and (.blt .isinstance (.cons (.var 0) (.cons (.cst (.ty "bool")) (.nil)))) (.cmp .Eq (.var 0) (.var 1)))))
    (.skip)) (.skip))
    (.seq (.ife (.tv (.blt .isinstance (.cons (.var 1) (.cons (.cst (.ty "int")) (.nil))))) (.seq (.ret (.and (.blt .isinstance (.cons (.var 0) (.cons (.cst (.ty "int")) (.nil)))) (.cmp .Eq (.var 0) (.var 1))))
    (.skip)) (.skip))
    (.seq (.ret (.and (.blt .isinstance (.cons (.var 0) (.cons (.cst (.ty "str")) (.nil)))) (.and (.blt .isinstance (.cons (.var 1) (.cons (.cst (.ty "str")) (.nil)))) (.cmp .Eq (.var 0) (.var 1)))))
    (.skip))))))
theorem isTy_of {a : AV} {n : String} (h : tyN a = some n) (T : String) : isTy a T = if T = "int" ∨ T = "bool" ∨ T = "str" ∨ T = "list" ∨ T = "tuple" then some (decide (n = T) || (decide (n = "bool") && decide (T = "int"))) else none := by
  unfold isTy; rw [h]
def kd : AV → Nat
  | .non => 0 | .bl _ => 1 | .int _ => 2 | .str _ => 3 | .tup _ => 4 | .lst _ => 5 | _ => 6
theorem ty_list (a : AV) (h : kd a < 6) : isTy a "list" = some (decide (kd a = 5)) := by cases a <;> first | rfl | simp [kd] at h
theorem ty_tuple (a : AV) (h : kd a < 6) : isTy a "tuple" = some (decide (kd a = 4)) := by cases a <;> first | rfl | simp [kd] at h
theorem ty_str (a : AV) (h : kd a < 6) : isTy a "str" = some (decide (kd a = 3)) := by cases a <;> first | rfl | simp [kd] at h
theorem ty_bool (a : AV) (h : kd a < 6) : isTy a "bool" = some (decide (kd a = 1)) := by cases a <;> first | rfl | simp [kd] at h
theorem ty_int (a : AV) (h : kd a < 6) : isTy a "int" = some (decide (kd a = 2 ∨ kd a = 1)) := by cases a <;> first | rfl | simp [kd] at h
theorem isN (a : AV) : (match a with | .non => true | _ => false) = decide (kd a = 0) := by cases a <;> rfl
theorem fine_kd : ∀ (d : Nat) {v : AV}, fine d v = true → kd v < 6
  | 0, v, h => by cases v <;> simp_all [fine, flat, kd]
  | d + 1, v, h => by cases v <;> simp_all [fine, flat, kd]
theorem same_nf {a b : AV} (hb : kd b < 6) (h : kd a ≠ kd b) : same a b = false := by
  cases b <;> cases a <;> first | rfl | (exact absurd rfl h) | (exact absurd hb (by decide)) | simp [same]
theorem allB_bl : ∀ (bs : List Bool), allB (bs.map .bl) = some bs
  | [] => rfl
  | b :: bs => by simp [allB, allB_bl bs]
theorem sames_all : ∀ (xs ys : List AV), xs.length = ys.length → ((List.zipWith (fun x y => same x y) xs ys).all id) = sames xs ys
  | [], [], _ => by simp [sames]
  | x :: xs, y :: ys, h => by simp [sames, sames_all xs ys (by simpa using h)]
  | [], _ :: _, h => by cases h
  | _ :: _, [], h => by cases h
theorem sames_ne : ∀ (xs ys : List AV), xs.length ≠ ys.length → sames xs ys = false
  | [], [], h => absurd rfl h
  | x :: xs, y :: ys, h => by simp [sames, sames_ne xs ys (by simpa using h)]
  | [], _ :: _, h => by simp [sames]
  | _ :: _, [], h => by simp [sames]
theorem lcL_zip {F : AV → M (Option AV)} {g : AV → AV → AV} {h : AHeap} : ∀ {xs ys : List AV}, (∀ x ∈ xs, ∀ y ∈ ys, F (.tup [x, y]) h = .ok (some (g x y)) h) → lcL F (List.zipWith (fun x y => AV.tup [x, y]) xs ys) h = .ok (List.zipWith g xs ys) h
  | [], ys, _ => by simp [lcL, M.pure]
  | x :: xs, [], _ => by simp [lcL, M.pure]
  | x :: xs, y :: ys, hf => by
    show M.bind _ _ h = _
    rw [bind_app, hf x List.mem_cons_self y List.mem_cons_self, bnd_ok, bind_app]
    have ih := lcL_zip (F := F) (g := g) (h := h) (xs := xs) (ys := ys) fun x hx y hy => hf x (List.mem_cons_of_mem _ hx) y (List.mem_cons_of_mem _ hy)
    show Out.bnd (lcL F (List.zipWith (fun x y => AV.tup [x, y]) xs ys) h) _ = _
    rw [ih]
    rfl
theorem same_lists (C : Orc) (xs ys : List AV) (h : AHeap) (hl : ys.length ≤ line) (a b : AV)
    (hC : ∀ x ∈ xs, ∀ y ∈ ys, C.call f [x, y] h = .ok (.bl (same x y)) h) (e : xs.length = ys.length) :
    lcL (turn C [some a, some b, none, none] [2, 3] [2, 3] (.tv (.cst (.bl true))) (.call f (.cons (.var 2) (.cons (.var 3) (.nil))))) (List.zipWith (fun x y => AV.tup [x, y]) xs ys) h = .ok (List.zipWith (fun x y => AV.bl (same x y)) xs ys) h
    ∧ (List.zipWith (fun x y => AV.bl (same x y)) xs ys).length ≤ line ∧ allB (List.zipWith (fun x y => AV.bl (same x y)) xs ys) = some (List.zipWith (fun x y => same x y) xs ys) ∧ ((List.zipWith (fun x y => same x y) xs ys).all id) = sames xs ys := by
  refine ⟨?_, ?_, ?_, sames_all xs ys e⟩
  · refine lcL_zip (g := fun x y => .bl (same x y)) ?_
    intro x hx y hy
    apply turn_app
    have := hC x hx y hy
    simp only [wipeL]
    walk_at "exh"
  · rw [List.length_zipWith]; omega
  · rw [← allB_bl, List.map_zipWith]
theorem run_same (hf : T.fns[f]? = some ⟨2, false, 4, irSame f, true⟩) : ∀ (d n : Nat) (a b : AV) (h : AHeap), fine d a = true → fine d b = true → run T (n + d + 1) f [a, b] h = .ok (.bl (same a b)) h := by
  have flatC : ∀ (d n : Nat) (a b : AV) (h : AHeap), fine d a = true → flat b = true → run T (n + 1) f [a, b] h = .ok (.bl (same a b)) h := by
    intro d n a b h ha hb
    have ha := fine_kd d ha
    refine run_eq hf (σ := [some a, some b, none, none]) rfl ?_ rfl
    unfold bodyO irSame
    cases b <;> first | (simp [flat] at hb; done) | skip
    all_goals (cases a <;> first | (simp [kd] at ha; done) | skip)
    all_goals (walk_at "exe"; try simp [same])
  intro d
  induction d with
  | zero => exact fun n a b h ha hb => flatC 0 n a b h ha hb
  | succ d ih =>
    intro n a b h ha hb
    by_cases hfl : flat b = true
    · exact flatC (d + 1) _ a b h ha hfl
    · have ka := fine_kd _ ha
      have eN : n + (d + 1) + 1 = (n + d + 1) + 1 := by omega
      rw [eN]
      refine run_eq hf (σ := [some a, some b, none, none]) rfl ?_ rfl
      unfold bodyO
      cases b with
      | lst ys =>
        simp only [fine, Bool.and_eq_true, decide_eq_true_eq, List.all_eq_true] at hb
        cases a with
        | lst xs =>
          simp only [fine, Bool.and_eq_true, decide_eq_true_eq, List.all_eq_true] at ha
          unfold irSame
          by_cases e : xs.length = ys.length
          · obtain ⟨q1, q2, q3, q4⟩ := same_lists (f := f) (orc T (n + d + 1)) xs ys h hb.1 (.lst xs) (.lst ys) (fun x hx y hy => ih n x y h (ha.2 x hx) (hb.2 y hy)) e
            have e' : ((xs.length : Int) = (ys.length : Int)) := by omega
            have q5 : zipV (.lst xs) (.lst ys) = some (List.zipWith (fun x y => AV.tup [x, y]) xs ys) := rfl
            clear ih flatC eN hf
            walk_at "exe"
            simp only [e', q5, eq_self, if_true]
            walk_at "exh"
            simp [same]
          · have e' : ¬ ((xs.length : Int) = (ys.length : Int)) := by omega
            have q := sames_ne xs ys e
            walk_at "exe"
            simp only [e']
            walk_at "exe"
            simp [same, q]
        | _ => first | (simp [kd] at ka; done) | (unfold irSame; walk_at "exe"; simp [same])
      | tup ys =>
        simp only [fine, Bool.and_eq_true, decide_eq_true_eq, List.all_eq_true] at hb
        cases a with
        | tup xs =>
          simp only [fine, Bool.and_eq_true, decide_eq_true_eq, List.all_eq_true] at ha
          unfold irSame
          by_cases e : xs.length = ys.length
          · obtain ⟨q1, q2, q3, q4⟩ := same_lists (f := f) (orc T (n + d + 1)) xs ys h hb.1 (.tup xs) (.tup ys) (fun x hx y hy => ih n x y h (ha.2 x hx) (hb.2 y hy)) e
            have e' : ((xs.length : Int) = (ys.length : Int)) := by omega
            have q5 : zipV (.tup xs) (.tup ys) = some (List.zipWith (fun x y => AV.tup [x, y]) xs ys) := rfl
            clear ih flatC eN hf
            walk_at "exe"
            simp only [e', q5, eq_self, if_true]
            walk_at "exh"
            simp [same]
          · have e' : ¬ ((xs.length : Int) = (ys.length : Int)) := by omega
            have q := sames_ne xs ys e
            walk_at "exe"
            simp only [e']
            walk_at "exe"
            simp [same, q]
        | _ => first | (simp [kd] at ka; done) | (unfold irSame; walk_at "exe"; simp [same])
      | _ => first | (simp [flat] at hfl; done) | (simp [fine, flat] at hb; done)

/-! ### gcd -/
def irGcd : S :=
    .seq (.par [2, 3] (.cons (.blt .abs (.cons (.var 0) (.nil))) (.cons (.blt .abs (.cons (.var 1) (.nil))) (.nil))))
    (.seq (.whl (.cmp .Gt (.var 3) (.cst (.int 0))) (.seq (.par [2, 3] (.cons (.var 3) (.cons (.bin .Mod (.blt .int (.cons (.var 2) (.nil))) (.var 3)) (.nil))))
    (.skip)))
    (.seq (.ret (.var 2))
    (.skip)))
theorem whl_gcd (T : Tab) (m : Nat) (a b : AV) (h : AHeap) (l r : Nat) :
    xec (orc T m) (.whl (.cmp .Gt (.var 3) (.cst (.int 0))) (.seq (.par [2, 3] (.cons (.var 3) (.cons (.bin .Mod (.blt .int (.cons (.var 2) (.nil))) (.var 3)) (.nil)))) (.skip))) [some a, some b, some (.int l), some (.int r)] h
      = .ok (.nx [some a, some b, some (.int (Nat.gcd l r : Nat)), some (.int 0)]) h := by
  rw [xec_whl]
  have key := rn_whl (t := fun σ' => evT (orc T m) σ' (.cmp .Gt (.var 3) (.cst (.int 0)))) (body := fun σ' => xec (orc T m) (.seq (.par [2, 3] (.cons (.var 3) (.cons (.bin .Mod (.blt .int (.cons (.var 2) (.nil))) (.var 3)) (.nil)))) (.skip)) σ')
    (Q := fun f h' => f = .nx [some a, some b, some (.int (Nat.gcd l r : Nat)), some (.int 0)] ∧ h' = h)
    (fun σ h' => h' = h ∧ ∃ l' r' : Nat, σ = [some a, some b, some (.int l'), some (.int r')] ∧ Nat.gcd l' r' = Nat.gcd l r)
    (fun σ _ => match σ with | [_, _, _, some (.int r)] => r.toNat | _ => 0) (by
      rintro σ _ ⟨rfl, l', r', rfl, hg⟩
      by_cases e : 0 < r'
      · have e' : (0 : Int) < (r' : Int) := by omega
        have e2 : decide ((r' : Int) ≠ 0) = true := by simp; omega
        walk_at "exe"
        simp only [e', e2]
        show Rn _ _
        walk_at "exe"
        show Rn _ _
        have hm : (Int.fmod (l' : Int) (r' : Int)) = ((l' % r' : Nat) : Int) := by
          rw [Int.fmod_eq_emod_of_nonneg _ (by omega)]; rfl
        simp only [Rn, if_true]
        refine ⟨⟨trivial, r', l' % r', ?_, ?_⟩, ?_⟩
        · rw [hm]
        · rw [← hg, Nat.gcd_comm r' (l' % r'), ← Nat.gcd_rec, Nat.gcd_comm]
        · simp only [hm]
          show (((l' % r' : Nat) : Int)).toNat < ((r' : Int)).toNat
          have := Nat.mod_lt l' e
          omega
      · have e0 : r' = 0 := by omega
        subst e0
        walk_at "exe"
        simp only [Nat.gcd_zero_right] at hg
        refine ⟨?_, rfl⟩
        rw [hg] <;> rfl)
  obtain ⟨f, h', e, rfl, rfl⟩ := (key [some a, some b, some (.int l), some (.int r)] h ⟨rfl, l, r, rfl, rfl⟩).get
  exact e
theorem abs_nat (i : Int) : (if i < 0 then -i else i) = (i.natAbs : Int) := by split <;> omega
theorem run_gcd (hf : T.fns[f]? = some ⟨2, false, 4, irGcd, true⟩) (n : Nat) (a b : Int) (h : AHeap) : run T (n + 1) f [.int a, .int b] h = .ok (.int (Int.gcd a b : Nat)) h := by
  refine run_eq hf (σ := [some (.int a), some (.int b), none, none]) rfl ?_ rfl
  unfold bodyO irGcd
  walk_at "exe"
  simp only [abs_nat, whl_gcd]
  walk_at "exe"
  rfl

/-! ### words out of picked letters -/
theorem allS_chr : ∀ cs : List Nat, allS (cs.map chr1) = some (cs.map fun c => (⟨#[c]⟩ : Str))
  | [] => rfl
  | c :: cs => by
    show (allS (cs.map chr1)).map _ = _
    rw [allS_chr cs]; rfl
theorem joinL_one : ∀ cs : List Nat, TL.joinL [] (cs.map fun c => [c]) = cs
  | [] => rfl
  | [c] => rfl
  | c :: d :: r => by
    show [c] ++ ([] ++ TL.joinL [] ((d :: r).map fun c => [c])) = _
    rw [joinL_one (d :: r)]; rfl
theorem join_chr (cs : List Nat) (hl : cs.length ≤ line) (h : AHeap) : joinV "" (allS (cs.map chr1)) h = .ok (.str (SX.S cs)) h := by
  rw [allS_chr]
  have e : Txt.join "" (cs.map fun c => (⟨#[c]⟩ : Str)) = SX.S cs := by
    have := SX.join_S [] (cs.map fun c => [c])
    rw [joinL_one, List.map_map] at this
    exact this
  have l : ∀ cs : List Nat, ((cs.map fun c => (⟨#[c]⟩ : Str)).map (·.length)).sum = cs.length := by
    intro cs
    induction cs with
    | nil => rfl
    | cons c r ih => rw [List.map_cons, List.map_cons, List.sum_cons, ih, List.length_cons, Nat.add_comm]; rfl
  show ok1 _ _ h = _
  rw [e]
  apply ok1_of
  rw [l]
  have : (("" : Str)).length = 0 := rfl
  rw [this]
  simpa using hl
end
end NT
set_option linter.all false
set_option maxRecDepth 100000
set_option autoImplicit false
namespace NT
open PySem
theorem same_refl : ∀ (d : Nat) (v : AV), fine d v = true → same v v = true
  | 0, v, h => by cases v <;> simp_all [fine, flat, same]
  | d + 1, v, h => by
    have L : ∀ xs : List AV, (∀ x ∈ xs, fine d x = true) → sames xs xs = true := fun xs => by
      induction xs with
      | nil => intro _; simp [sames]
      | cons x r ih => intro hx; simp [sames, same_refl d x (hx x List.mem_cons_self), ih fun y hy => hx y (List.mem_cons_of_mem _ hy)]
    cases v with
    | lst xs =>
      simp only [fine, Bool.and_eq_true] at h
      simp only [same]
      exact L xs (List.all_eq_true.mp h.2)
    | tup xs =>
      simp only [fine, Bool.and_eq_true] at h
      simp only [same]
      exact L xs (List.all_eq_true.mp h.2)
    | _ => simp_all [fine, flat, same]
section
variable {T : Tab} {f : Nat}
/-- the same value twice -/
theorem run_sameR (hf : T.fns[f]? = some ⟨2, false, 4, irSame f, true⟩) (d n : Nat) (a : AV) (h : AHeap) (ha : fine d a = true) : run T (n + d + 1) f [a, a] h = .ok (.bl true) h := by
  rw [run_same hf d n a a h ha ha, same_refl d a ha]
end
theorem divOk_b {j : Int} (h : 0 < j) (h2 : j < 18446744073709551616) : divOk j = true := by
  have : j.natAbs.log2 < 9000 := by
    have h3 : j.natAbs < 2 ^ 64 := by omega
    have : j.natAbs.log2 < 64 := (Nat.log2_lt (by omega)).2 h3
    omega
  simp only [divOk, Bool.and_eq_true, Bool.or_eq_true, decide_eq_true_eq]
  exact ⟨by omega, .inr ⟨h, this⟩⟩
theorem fine_tup {d : Nat} {xs : List AV} (hl : xs.length ≤ line) (h : xs.all (fine d) = true) : fine (d + 1) (.tup xs) = true := by
  simp only [fine, Bool.and_eq_true, decide_eq_true_eq]; exact ⟨hl, h⟩
theorem fine_lst {d : Nat} {xs : List AV} (hl : xs.length ≤ line) (h : xs.all (fine d) = true) : fine (d + 1) (.lst xs) = true := by
  simp only [fine, Bool.and_eq_true, decide_eq_true_eq]; exact ⟨hl, h⟩
/-- the end of a law: a bool out of an empty heap -/
theorem exit_law (h' : AHeap) (k : Bool) : ∃ h2, exitO [] (.ok (.bl k) h') = .ok (.bl k) h2 := by
  unfold exitO exitV
  by_cases hl : h'.length = ([] : AHeap).length
  · simp only [hl, if_true]; exact ⟨_, rfl⟩
  · have o : OkOld [] h' := by simp [OkOld]
    simp only [if_neg hl, if_pos o]
    exact ⟨[], rfl⟩
/-- a law by its body -/
theorem law_end {T : Tab} {f : Nat} {fd : FD} {n : Nat} {args : List AV} {σ : Loc} {h' : AHeap} (hf : T.fns[f]? = some fd) (hs : startL fd args = some σ) (e : bodyO T n fd σ [] = .ok (.bl true) h') : ∃ h2, run T (n + 1) f args [] = .ok (.bl true) h2 := by
  rw [run_succ hf n args [] hs, e]
  split
  · exact exit_law h' true
  · exact ⟨_, rfl⟩
/-- a def of a star alone starts so -/
theorem start_star {nl : Nat} {body : S} {fz : Bool} {xs : List AV} (h : xs.length ≤ line) : startL ⟨0, true, nl, body, fz⟩ xs = some (some (.tup xs) :: List.replicate (nl - 1) none) := by
  unfold startL
  rw [if_pos rfl, if_pos ⟨Nat.zero_le _, by simpa using h⟩]
  rfl
/-- |a // gcd * b| is the least common multiple -/
theorem lcm_of (a b : Int) : ((a.fdiv (Int.gcd a b : Nat)) * b).natAbs = Int.lcm a b := by
  by_cases hg : Int.gcd a b = 0
  · obtain ⟨rfl, rfl⟩ := Int.gcd_eq_zero_iff.1 hg
    rfl
  · have hp : (0 : Int) ≤ (Int.gcd a b : Nat) := by omega
    rw [Int.fdiv_eq_ediv_of_nonneg _ hp, Int.natAbs_mul, Int.natAbs_ediv_of_dvd (Int.gcd_dvd_left a b)]
    unfold Int.lcm Nat.lcm
    show a.natAbs / Int.gcd a b * b.natAbs = _
    unfold Int.gcd
    rw [Nat.div_mul_right_comm (Nat.gcd_dvd_left _ _)]
/-! ### loops, turn by turn -/
theorem whl_none {t : Loc → M Bool} {body : Loc → M Flow} {σ : Loc} {h : AHeap} (e : ¬ ∃ n, (whlN t body n σ h).isSome = true) : whl t body σ h = .bad := by unfold whl; rw [dif_neg e]
theorem whl_more {t : Loc → M Bool} {body : Loc → M Flow} {σ σ' : Loc} {h h1 h2 : AHeap} (e1 : t σ h = .ok true h1) (e2 : body σ h1 = .ok (.nx σ') h2) : whl t body σ h = whl t body σ' h2 := by
  have st : ∀ n, whlN t body (n + 1) σ h = whlN t body n σ' h2 := fun n => by
    rw [whlN, e1]; simp only [e2]
  by_cases ex : ∃ n, (whlN t body n σ' h2).isSome = true
  · obtain ⟨n, hn⟩ := ex
    cases q : whlN t body n σ' h2 with
    | none => rw [q] at hn; cases hn
    | some r => rw [whl_of q, whl_of ((st n).trans q)]
  · rw [whl_none ex, whl_none]
    rintro ⟨n, hn⟩
    cases n with
    | zero => cases hn
    | succ n => rw [st n] at hn; exact ex ⟨n, hn⟩
theorem whl_done {t : Loc → M Bool} {body : Loc → M Flow} {σ : Loc} {h h1 : AHeap} (e1 : t σ h = .ok false h1) : whl t body σ h = .ok (.nx σ) h1 := by
  refine whl_of (n := 1) ?_
  rw [whlN, e1]
/-! ### lists of whole numbers compared -/
theorem toDs_int : ∀ xs : List Int, toDs (xs.map AV.int) = some (xs.map PyData.int)
  | [] => rfl
  | x :: xs => by simp [toDs, toD, toDs_int xs]
theorem lay_int : ∀ xs : List Int, PyData.canLayAll0 (xs.map PyData.int) = true
  | [] => rfl
  | x :: xs => by simp [PyData.canLayAll0, PyData.canLay0, lay_int xs]
theorem dep_int : ∀ xs : List Int, PyData.depthAll (xs.map PyData.int) = 0
  | [] => rfl
  | x :: xs => by simp [PyData.depthAll, PyData.depth, dep_int xs]
theorem cmp_empty (C : Orc) (xs : List Int) (h : AHeap) : cmpO C .Eq (.lst (xs.map .int)) (.lst []) h = .ok (.bl xs.isEmpty) h := by
  have s1 : SeqAt.shaped (.list (xs.map PyData.int)) = true := by simp [SeqAt.shaped, PyData.canLay0, lay_int, PyData.depth, dep_int]
  have e : eqA (.lst (xs.map .int)) (.lst []) = some xs.isEmpty := by
    unfold eqA
    have t1 : toD (.lst (xs.map .int)) = some (.list (xs.map PyData.int)) := by simp [toD, toDs_int]
    have t2 : toD (.lst []) = some (.list []) := rfl
    have s2 : SeqAt.shaped (.list []) = true := rfl
    rw [if_neg (by simp [flat]), t1, t2]
    simp only [s1, s2, Bool.and_true, if_true]
    cases xs <;> rfl
  show M.of ((eqA _ _).map AV.bl) h = _
  rw [e]; rfl
end NT
set_option linter.all false
set_option maxRecDepth 100000
set_option autoImplicit false
namespace NT
open PySem
def irIsInt : S :=
    .seq (.ret (.and (.blt .isinstance (.cons (.var 0) (.cons (.cst (.ty "int")) (.nil)))) (.notv (.blt .isinstance (.cons (.var 0) (.cons (.cst (.ty "bool")) (.nil)))))))
    (.skip)
def irInBounds (fi : Nat) : S :=
    .seq (.ret (.and (.call fi (.cons (.var 0) (.nil))) (.chn .LtE .LtE (.var 1) (.var 0) (.var 2))))
    (.skip)
def irRadical (fb c : Nat) : S :=
    .seq (.ife (.not (.tv (.call fb (.cons (.var 0) (.cons (.cst (.int 1)) (.cons (.cst (.int 1000000)) (.nil))))))) (.seq (.raise c 1 [0, 1] "InvalidNumber" [0] (.cons (.var 0) (.nil)))
    (.skip)) (.skip))
    (.seq (.par [1, 2, 3] (.cons (.cst (.int 1)) (.cons (.var 0) (.cons (.cst (.int 2)) (.nil)))))
    (.seq (.whl (.cmp .LtE (.bin .Mult (.var 3) (.var 3)) (.var 2)) (.seq (.ife (.cmp .Eq (.bin .Mod (.blt .int (.cons (.var 2) (.nil))) (.var 3)) (.cst (.int 0))) (.seq (.asg 1 (.bin .Mult (.var 1) (.var 3)))
    (.seq (.whl (.cmp .Eq (.bin .Mod (.blt .int (.cons (.var 2) (.nil))) (.var 3)) (.cst (.int 0))) (.seq (.asg 2 (.bin .FloorDiv (.var 2) (.var 3)))
    (.skip)))
    (.skip))) (.skip))
    (.seq (.asg 3 (.bin .Add (.var 3) (.cst (.int 1))))
    (.skip))))
    (.seq (.ret (.bin .Mult (.var 1) (.var 2)))
    (.skip))))
def irStripped (fg : Nat) : S :=
    .seq (.ife (.cmp .Eq (.var 0) (.cst (.int 0))) (.seq (.ret (.cst (.int 0)))
    (.skip)) (.skip))
    (.seq (.par [2, 3] (.cons (.var 0) (.cons (.call fg (.cons (.var 0) (.cons (.var 1) (.nil)))) (.nil))))
    (.seq (.whl (.cmp .Gt (.var 3) (.cst (.int 1))) (.seq (.asg 2 (.bin .FloorDiv (.var 2) (.var 3)))
    (.seq (.asg 3 (.call fg (.cons (.var 2) (.cons (.var 1) (.nil)))))
    (.skip))))
    (.seq (.ret (.var 2))
    (.skip))))
def irStrip (fg : Nat) : S :=
    .seq (.asg 2 (.var 0))
    (.seq (.whl (.and (.cmp .NotEq (.var 2) (.cst (.int 0))) (.cmp .Gt (.call fg (.cons (.var 2) (.cons (.var 1) (.nil)))) (.cst (.int 1)))) (.seq (.asg 2 (.bin .FloorDiv (.var 2) (.call fg (.cons (.var 2) (.cons (.var 1) (.nil))))))
    (.skip)))
    (.seq (.ret (.var 2))
    (.skip)))
def irLRad (fp : Nat) : S :=
    .seq (.ret (.call fp (.cons (.lc [1] [1] (.rng (.cst (.int 2)) (.bin .Add (.var 0) (.cst (.int 1)))) (.and (.cmp .Eq (.bin .Mod (.blt .int (.cons (.var 0) (.nil))) (.var 1)) (.cst (.int 0))) (.cmp .Eq (.lc [2] [2] (.rng (.cst (.int 2)) (.var 1)) (.and (.cmp .LtE (.bin .Mult (.var 2) (.var 2)) (.var 1)) (.cmp .Eq (.bin .Mod (.blt .int (.cons (.var 1) (.nil))) (.var 2)) (.cst (.int 0)))) (.var 2)) (.lst (.nil)))) (.var 1)) (.nil))))
    (.skip)
def irProd : S :=
    .seq (.asg 1 (.cst (.int 1)))
    (.seq (.for_ [2] (.itv (.var 0)) (.seq (.asg 1 (.bin .Mult (.var 1) (.var 2)))
    (.skip)))
    (.seq (.ret (.var 1))
    (.skip)))
-- MAC abs_nat xec_whl
local macro_rules | `(tactic| walk_at "exe") => `(tactic| simp only [bnd_ok, bnd_exc, bind_app, pure_app, of_some, ok1_true, guard_true, ite_app, ev_cst, ev_var, ev_bin, ev_neg, ev_cmp, ev_chn, ev_and, ev_or, ev_notv, ev_ifx, ev_tup, ev_lst, ev_mlst, ev_sub, ev_slc, ev_slcL, ev_slcH, ev_call, ev_blt, ev_attr, ev_meth, ev_new, ev_fst, ev_fmt, evJ_nil, evJ_cons, evs_arr, ev_got, gotO_ok, gotO_exc, ev_bm, ev_lc, evT_and, evT_or, evT_not, evT_cmp, evT_chn, evT_tv, evs_nil, evs_cons, evI_rng, evI_zip, evI_itv, xec_skip, xec_seq, seqF_nx, seqF_rt, seqF_bk, seqF_ct, xec_expr, xec_ret, xec_asg, xec_unp, xec_par, xec_setFld, xec_raise, xec_setSub, xec_aug, xec_ife, xec_for, xec_brk, xec_cnt, flowV_nx, flowV_rt, bindT_one, bindT_two, bindT_three, bindT_four, bindT_L2, bindT_L3, lget_app, orc_call, cmp_eqI, cmp_neI, cmp_ltI, cmp_leI, cmp_gtI, cmp_geI, cmp_eqB, cmp_eqS, cmp_neS, cmp_isN, cmp_notN, bin_addI, bin_subI, bin_mulI, bin_divI, bin_modI, bin_powI, neg_I, asB_app, asI_app, asS_app, tru_bl, blt_abs, blt_int, blt_lenL, blt_lenT, blt_lenS, blt_list, blt_listT, blt_tuple, blt_isinst, blt_isinsC, blt_isinsT, blt_all, blt_any, blt_sum, blt_str, blt_max, isiA_nil, isiA_cons, sub_L, sub_T, setAll, bmTy_join, bmV_join, slc_S, slc_L, slc_T, bin_addS, bin_addL, arrL, ln_0, ln_1, ln_2, ln_3, ln_4, ln_5, ln_6, ln_7, ln_8, ln_9, ln_10, ln_11, ln_12, ln_13, ln_14, ln_15, ln_16, ln_17, ln_18, ln_19, ln_20, ln_21, ln_22, ln_23, ln_24, ln_25, ln_26, ln_27, ln_28, ln_29, ln_30, ln_31, ln_32, ln_33, ln_34, ln_35, ln_36, ln_37, ln_38, ln_39, ln_40, ty_non_int, ty_non_bool, ty_non_str, ty_non_list, ty_non_tuple, ty_bl_int, ty_bl_bool, ty_bl_str, ty_bl_list, ty_bl_tuple, ty_int_int, ty_int_bool, ty_int_str, ty_int_list, ty_int_tuple, ty_str_int, ty_str_bool, ty_str_str, ty_str_list, ty_str_tuple, ty_tup_int, ty_tup_bool, ty_tup_str, ty_tup_list, ty_tup_tuple, ty_lst_int, ty_lst_bool, ty_lst_str, ty_lst_list, ty_lst_tuple, bag0, bag1, bag2, bag3, bagS1, bagS2, bagS3, List.cons_append, List.nil_append, List.append_nil, List.getElem?_cons_zero, List.getElem?_cons_succ, List.getElem?_nil, Option.getD_some, Option.getD_none, List.getD_cons_zero, List.getD_cons_succ, List.set_cons_zero, List.set_cons_succ, List.length_cons, List.length_nil, List.map_cons, List.map_nil, Option.map_some, decide_eq_true_eq, Bool.and_true, Bool.true_and, Bool.and_false, Bool.false_and, Bool.or_true, Bool.true_or, Bool.or_false, Bool.false_or, Bool.not_true, Bool.not_false, if_true, if_false, ite_true, ite_false, Bool.false_eq_true, reduceIte, decide_true, decide_false, List.isEmpty_cons, Nat.reduceAdd, Int.cast_ofNat_Int, Int.reduceEq, Int.reduceLT, Int.reduceLE, Int.reduceAdd, Int.reduceSub, Int.reduceMul, Int.reduceNeg, Nat.zero_add, abs_nat, xec_whl])
local macro_rules | `(tactic| walk_at "exh") => `(tactic| simp only [bnd_ok, bnd_exc, bind_app, pure_app, of_some, ok1_true, guard_true, ite_app, ev_cst, ev_var, ev_bin, ev_neg, ev_cmp, ev_chn, ev_and, ev_or, ev_notv, ev_ifx, ev_tup, ev_lst, ev_mlst, ev_sub, ev_slc, ev_slcL, ev_slcH, ev_call, ev_blt, ev_attr, ev_meth, ev_new, ev_fst, ev_fmt, evJ_nil, evJ_cons, evs_arr, ev_got, gotO_ok, gotO_exc, ev_bm, ev_lc, evT_and, evT_or, evT_not, evT_cmp, evT_chn, evT_tv, evs_nil, evs_cons, evI_rng, evI_zip, evI_itv, xec_skip, xec_seq, seqF_nx, seqF_rt, seqF_bk, seqF_ct, xec_expr, xec_ret, xec_asg, xec_unp, xec_par, xec_setFld, xec_raise, xec_setSub, xec_aug, xec_ife, xec_for, xec_brk, xec_cnt, flowV_nx, flowV_rt, bindT_one, bindT_two, bindT_three, bindT_four, bindT_L2, bindT_L3, lget_app, orc_call, cmp_eqI, cmp_neI, cmp_ltI, cmp_leI, cmp_gtI, cmp_geI, cmp_eqB, cmp_eqS, cmp_neS, cmp_isN, cmp_notN, bin_addI, bin_subI, bin_mulI, bin_divI, bin_modI, bin_powI, neg_I, asB_app, asI_app, asS_app, tru_bl, blt_abs, blt_int, blt_lenL, blt_lenT, blt_lenS, blt_list, blt_listT, blt_tuple, blt_isinst, blt_isinsC, blt_isinsT, blt_all, blt_any, blt_sum, blt_str, blt_max, isiA_nil, isiA_cons, sub_L, sub_T, setAll, bmTy_join, bmV_join, slc_S, slc_L, slc_T, bin_addS, bin_addL, arrL, ln_0, ln_1, ln_2, ln_3, ln_4, ln_5, ln_6, ln_7, ln_8, ln_9, ln_10, ln_11, ln_12, ln_13, ln_14, ln_15, ln_16, ln_17, ln_18, ln_19, ln_20, ln_21, ln_22, ln_23, ln_24, ln_25, ln_26, ln_27, ln_28, ln_29, ln_30, ln_31, ln_32, ln_33, ln_34, ln_35, ln_36, ln_37, ln_38, ln_39, ln_40, ty_non_int, ty_non_bool, ty_non_str, ty_non_list, ty_non_tuple, ty_bl_int, ty_bl_bool, ty_bl_str, ty_bl_list, ty_bl_tuple, ty_int_int, ty_int_bool, ty_int_str, ty_int_list, ty_int_tuple, ty_str_int, ty_str_bool, ty_str_str, ty_str_list, ty_str_tuple, ty_tup_int, ty_tup_bool, ty_tup_str, ty_tup_list, ty_tup_tuple, ty_lst_int, ty_lst_bool, ty_lst_str, ty_lst_list, ty_lst_tuple, bag0, bag1, bag2, bag3, bagS1, bagS2, bagS3, List.cons_append, List.nil_append, List.append_nil, List.getElem?_cons_zero, List.getElem?_cons_succ, List.getElem?_nil, Option.getD_some, Option.getD_none, List.getD_cons_zero, List.getD_cons_succ, List.set_cons_zero, List.set_cons_succ, List.length_cons, List.length_nil, List.map_cons, List.map_nil, Option.map_some, decide_eq_true_eq, Bool.and_true, Bool.true_and, Bool.and_false, Bool.false_and, Bool.or_true, Bool.true_or, Bool.or_false, Bool.false_or, Bool.not_true, Bool.not_false, if_true, if_false, ite_true, ite_false, Bool.false_eq_true, reduceIte, decide_true, decide_false, List.isEmpty_cons, Nat.reduceAdd, Int.cast_ofNat_Int, Int.reduceEq, Int.reduceLT, Int.reduceLE, Int.reduceAdd, Int.reduceSub, Int.reduceMul, Int.reduceNeg, Nat.zero_add, abs_nat, xec_whl, *])
theorem run_int {T : Tab} {fi : Nat} (Hi : T.fns[fi]? = some ⟨1, false, 1, irIsInt, true⟩) (n : Nat) (v : AV) (hv : kd v < 6) (h : AHeap) : run T (n + 1) fi [v] h = .ok (.bl (decide (kd v = 2))) h := by
  refine run_eq Hi (σ := [some v]) rfl ?_ rfl
  show Out.bnd (xec _ (irIsInt) _ _) _ = _
  unfold irIsInt
  cases v <;> first | (simp [kd] at hv; done) | (walk_at "exe"; rfl)
theorem run_inI {T : Tab} {fi fb : Nat} (Hi : T.fns[fi]? = some ⟨1, false, 1, irIsInt, true⟩) (Hb : T.fns[fb]? = some ⟨3, false, 3, irInBounds fi, true⟩) (n : Nat) (i a b : Int) (h : AHeap) : run T (n + 2) fb [.int i, .int a, .int b] h = .ok (.bl (decide (a ≤ i) && decide (i ≤ b))) h := by
  refine run_eq Hb (σ := [some (.int i), some (.int a), some (.int b)]) rfl ?_ rfl
  show Out.bnd (xec _ (irInBounds fi) _ _) _ = _
  unfold irInBounds
  have r := run_int Hi n (.int i) (by simp [kd]) h
  have kk : decide (kd (.int i) = 2) = true := by simp [kd]
  rw [kk] at r
  by_cases q : a ≤ i <;> walk_at "exh"
theorem run_inN {T : Tab} {fi fb : Nat} (Hi : T.fns[fi]? = some ⟨1, false, 1, irIsInt, true⟩) (Hb : T.fns[fb]? = some ⟨3, false, 3, irInBounds fi, true⟩) (n : Nat) (v : AV) (a b : Int) (hv : kd v < 6) (hk : kd v ≠ 2) (h : AHeap) : run T (n + 2) fb [v, .int a, .int b] h = .ok (.bl false) h := by
  refine run_eq Hb (σ := [some v, some (.int a), some (.int b)]) rfl ?_ rfl
  show Out.bnd (xec _ (irInBounds fi) _ _) _ = _
  unfold irInBounds
  have r := run_int Hi n v hv h
  have kk : decide (kd v = 2) = false := by simpa using hk
  rw [kk] at r
  walk_at "exh"
/-! ### the radical -/
def inn : Nat → Nat → Nat → Nat
  | 0, _, r => r
  | k + 1, p, r => if r % p = 0 then inn k p (r / p) else r
theorem inn_pos (p : Nat) (hp : 2 ≤ p) : ∀ (k r : Nat), 1 ≤ r → 1 ≤ inn k p r ∧ inn k p r ≤ r
  | 0, r, h => ⟨h, Nat.le_refl _⟩
  | k + 1, r, h => by
    unfold inn
    split
    · rename_i hd
      have h1 : 1 ≤ r / p := Nat.div_pos (Nat.le_of_dvd h (Nat.dvd_of_mod_eq_zero hd)) (by omega)
      have := inn_pos p hp k (r / p) h1
      have : r / p ≤ r := Nat.div_le_self r p
      omega
    · exact ⟨h, Nat.le_refl _⟩
theorem inn_le (p : Nat) : ∀ (k r : Nat), inn k p r ≤ r
  | 0, r => Nat.le_refl _
  | k + 1, r => by
    unfold inn
    split
    · exact Nat.le_trans (inn_le p k (r / p)) (Nat.div_le_self r p)
    · exact Nat.le_refl _
theorem fm_nat (a b : Nat) : (a : Int).fmod (b : Int) = ((a % b : Nat) : Int) := by
  rw [Int.fmod_eq_emod_of_nonneg _ (by omega)]; rfl
theorem fd_nat (a b : Nat) : (a : Int).fdiv (b : Int) = ((a / b : Nat) : Int) := by
  rw [Int.fdiv_eq_ediv_of_nonneg _ (by omega)]; rfl
theorem whl_inn (C : Orc) (v f : Option AV) (h : AHeap) (p : Nat) (hp : 2 ≤ p) (hp2 : p ≤ 2000) : ∀ (k r : Nat), 1 ≤ r → r ≤ k →
    whl (fun σ' => evT C σ' (.cmp .Eq (.bin .Mod (.blt .int (.cons (.var 2) (.nil))) (.var 3)) (.cst (.int 0)))) (fun σ' => xec C (.seq (.asg 2 (.bin .FloorDiv (.var 2) (.var 3))) (.skip)) σ') [v, f, some (.int (r : Nat)), some (.int (p : Nat))] h = .ok (.nx [v, f, some (.int (inn k p r : Nat)), some (.int (p : Nat))]) h
  | 0, r, h1, h2 => by omega
  | k + 1, r, h1, h2 => by
    have p0 : decide ((p : Int) ≠ 0) = true := by simp; omega
    have d0 : divOk (p : Int) = true := divOk_s (by omega) (by omega)
    have q1 := fm_nat r p
    have q2 := fd_nat r p
    unfold inn
    by_cases hd : r % p = 0
    · have h3 : 1 ≤ r / p := Nat.div_pos (Nat.le_of_dvd h1 (Nat.dvd_of_mod_eq_zero hd)) (by omega)
      have h4 : r / p < r := Nat.div_lt_self h1 hp
      rw [if_pos hd, ← whl_inn C v f h p hp hp2 k (r / p) h3 (by omega)]
      refine whl_more (h1 := h) ?_ ?_
      · rw [hd] at q1
        walk_at "exh"
      · walk_at "exh"
    · rw [if_neg hd]
      refine whl_done ?_
      have : ¬ ((r % p : Nat) : Int) = 0 := by omega
      walk_at "exh"
def out : Nat → Nat → Nat → Nat → Nat
  | 0, f, r, _ => f * r
  | k + 1, f, r, p => if p * p ≤ r then (if r % p = 0 then out k (f * p) (inn r p r) (p + 1) else out k f r (p + 1)) else f * r
theorem whl_out (T : Tab) (m : Nat) (v : Option AV) (h : AHeap) : ∀ (k f r p : Nat), 1 ≤ r → r ≤ 1000000 → 2 ≤ p → p ≤ 1500 → 1001 ≤ p + k → ∃ f' r' p' : Nat, r' ≤ 1000000 ∧ f' * r' = out k f r p ∧
    whl (fun σ' => evT (orc T m) σ' (.cmp .LtE (.bin .Mult (.var 3) (.var 3)) (.var 2))) (fun σ' => xec (orc T m) (.seq (.ife (.cmp .Eq (.bin .Mod (.blt .int (.cons (.var 2) (.nil))) (.var 3)) (.cst (.int 0))) (.seq (.asg 1 (.bin .Mult (.var 1) (.var 3)))
    (.seq (.whl (.cmp .Eq (.bin .Mod (.blt .int (.cons (.var 2) (.nil))) (.var 3)) (.cst (.int 0))) (.seq (.asg 2 (.bin .FloorDiv (.var 2) (.var 3)))
    (.skip)))
    (.skip))) (.skip))
    (.seq (.asg 3 (.bin .Add (.var 3) (.cst (.int 1))))
    (.skip))) σ') [v, some (.int (f : Nat)), some (.int (r : Nat)), some (.int (p : Nat))] h = .ok (.nx [v, some (.int (f' : Nat)), some (.int (r' : Nat)), some (.int (p' : Nat))]) h
  | k, f, r, p, h1, h2, h3, h4, h5 => by
    have m1 : mulOk (p : Int) (p : Int) = true := mulOk_l (by omega)
    have m2 : mulOk (f : Int) (p : Int) = true := mulOk_r (by omega)
    by_cases hq : p * p ≤ r
    · have hp : p < 1001 := by
        rcases Nat.lt_or_ge p 1001 with q | q
        · exact q
        · have := Nat.mul_le_mul q q; omega
      cases k with
      | zero => omega
      | succ k =>
        have q0 : ((p : Int) * (p : Int) ≤ (r : Int)) := by exact_mod_cast hq
        have q1 := fm_nat r p
        have p0 : decide ((p : Int) ≠ 0) = true := by simp; omega
        unfold out
        rw [if_pos hq]
        by_cases hd : r % p = 0
        · rw [if_pos hd]
          have I := inn_pos p h3 r r h1
          obtain ⟨f', r', p', e1, e2, e3⟩ := whl_out T m v h k (f * p) (inn r p r) (p + 1) I.1 (by omega) (by omega) (by omega) (by omega)
          refine ⟨f', r', p', e1, e2, ?_⟩
          rw [← e3]
          refine whl_more (h1 := h) ?_ ?_
          · walk_at "exh"
          · rw [hd] at q1
            have w := whl_inn (orc T m) v (some (.int ((f : Int) * (p : Int)))) h p h3 (by omega) r r h1 (Nat.le_refl _)
            have c1 : ((f * p : Nat) : Int) = (f : Int) * (p : Int) := by push_cast; rfl
            have c2 : ((p + 1 : Nat) : Int) = (p : Int) + 1 := by push_cast; rfl
            have c3 : ((0 : Nat) : Int) = 0 := rfl
            rw [c1, c2]
            clear e3
            walk_at "exh"
        · rw [if_neg hd]
          obtain ⟨f', r', p', e1, e2, e3⟩ := whl_out T m v h k f r (p + 1) h1 (by omega) (by omega) (by omega) (by omega)
          refine ⟨f', r', p', e1, e2, ?_⟩
          rw [← e3]
          refine whl_more (h1 := h) ?_ ?_
          · walk_at "exh"
          · have z : ¬ ((r % p : Nat) : Int) = 0 := by omega
            have c2 : ((p + 1 : Nat) : Int) = (p : Int) + 1 := by push_cast; rfl
            rw [c2]
            clear e3
            walk_at "exh"
    · refine ⟨f, r, p, h2, ?_, ?_⟩
      · cases k with
        | zero => rfl
        | succ k => unfold out; rw [if_neg hq]
      · refine whl_done ?_
        have q0 : ¬ ((p : Int) * (p : Int) ≤ (r : Int)) := by intro z; exact hq (by exact_mod_cast z)
        walk_at "exh"
theorem run_rad {T : Tab} {fi fb fr c : Nat} (Hi : T.fns[fi]? = some ⟨1, false, 1, irIsInt, true⟩) (Hb : T.fns[fb]? = some ⟨3, false, 3, irInBounds fi, true⟩) (Hr : T.fns[fr]? = some ⟨1, false, 4, irRadical fb c, true⟩) (n : Nat) (r : Nat) (h1 : 1 ≤ r) (h2 : r ≤ 1000000) (h : AHeap) : run T (n + 3) fr [.int (r : Nat)] h = .ok (.int (out 999 1 r 2 : Nat)) h := by
  refine run_eq Hr (σ := [some (.int (r : Nat)), none, none, none]) rfl ?_ rfl
  show Out.bnd (xec _ (irRadical fb c) _ _) _ = _
  unfold irRadical
  have b := run_inI Hi Hb n (r : Nat) 1 1000000 h
  have b1 : decide ((1 : Int) ≤ (r : Nat)) = true := by simp; omega
  have b2 : decide (((r : Nat) : Int) ≤ 1000000) = true := by simp; omega
  rw [b1, b2] at b
  obtain ⟨f', r', p', e1, e2, e3⟩ := whl_out T (n + 2) (some (.int (r : Nat))) h 999 1 r 2 h1 h2 (by omega) (by omega) (by omega)
  have m1 : mulOk (f' : Int) (r' : Int) = true := mulOk_r (by omega)
  have c1 : ((1 : Nat) : Int) = 1 := rfl
  have c2 : ((2 : Nat) : Int) = 2 := rfl
  rw [c1, c2] at e3
  walk_at "exh"
  rw [← e2]; push_cast; rfl
def Odd (v : AV) : Prop := kd v < 6 ∧ (kd v = 2 → ∃ i, v = .int i ∧ (i < 1 ∨ 1000000 < i))
theorem run_radX {T : Tab} {fi fb fr c : Nat} (Hi : T.fns[fi]? = some ⟨1, false, 1, irIsInt, true⟩) (Hb : T.fns[fb]? = some ⟨3, false, 3, irInBounds fi, true⟩) (Hr : T.fns[fr]? = some ⟨1, false, 4, irRadical fb c, true⟩) (n : Nat) (v : AV) (hv : Odd v) (h : AHeap) : run T (n + 3) fr [v] h = .exc c [0, 1] [.str "InvalidNumber", v] h := by
  refine run_exq Hr (σ := [some v, none, none, none]) rfl ?_ rfl
  show Out.bnd (xec _ (irRadical fb c) _ _) _ = _
  unfold irRadical
  by_cases k : kd v = 2
  · obtain ⟨j, rfl, hj⟩ := hv.2 k
    have b := run_inI Hi Hb n j 1 1000000 h
    have b1 : (decide ((1 : Int) ≤ j) && decide (j ≤ 1000000)) = false := by
      rcases hj with q | q
      · have : ¬ 1 ≤ j := by omega
        simp [this]
      · have : ¬ j ≤ 1000000 := by omega
        simp [this]
    rw [b1] at b
    walk_at "exh"
  · have b := run_inN Hi Hb n v 1 1000000 hv.1 k h
    walk_at "exh"
/-! ### the radical as the law has it -/
def noDiv (k : Nat) : List Nat := ((List.range (k - 2)).map (2 + ·)).filter fun j => decide (j * j ≤ k) && decide (k % j = 0)
def prs (n : Nat) : List Nat := ((List.range (n + 1 - 2)).map (2 + ·)).filter fun k => decide (n % k = 0) && (noDiv k).isEmpty
def prod (xs : List Nat) : Nat := xs.foldl (· * ·) 1
def nat (k : Nat) : AV := .int (k : Nat)
theorem lcL_nat {F : AV → M (Option AV)} {p : Nat → Bool} {h : AHeap} : ∀ {ks : List Nat}, (∀ k ∈ ks, F (.int (k : Nat)) h = .ok (if p k then some (.int (k : Nat)) else none) h) → lcL F (ks.map nat) h = .ok ((ks.filter p).map nat) h
  | [], _ => rfl
  | x :: xs, hf => by
    show M.bind (F (.int (x : Nat))) _ h = _
    rw [bind_app, hf x List.mem_cons_self, bnd_ok, bind_app, lcL_nat fun y hy => hf y (List.mem_cons_of_mem _ hy)]
    cases hp : p x <;> simp [hp, bnd_ok, pure_app, consO, nat]
theorem rng_nat (m : Nat) : rngL 2 (m : Nat) = ((List.range (m - 2)).map (2 + ·)).map nat := by
  unfold rngL
  have : ((m : Int) - 2).toNat = m - 2 := by omega
  rw [this, List.map_map]
  refine List.map_congr_left fun i _ => ?_
  show AV.int (2 + (i : Nat)) = AV.int ((2 + i : Nat) : Int)
  congr 1
theorem map_nat (ks : List Nat) : ks.map nat = (ks.map fun k : Nat => (k : Int)).map AV.int := by rw [List.map_map]; rfl
theorem rn2 (m : Nat) (hm : m ≤ 2000) : rngOk 2 (m : Nat) = true := by simp [rngOk]; omega
theorem rn2' (m : Nat) (hm : m ≤ 2000) : rngOk 2 ((m : Nat) + 1) = true := by simp [rngOk]; omega
theorem len_filter (m : Nat) (p : Nat → Bool) (hm : m ≤ 2000) : ((((List.range (m - 2)).map (2 + ·)).filter p).map nat).length ≤ line := by
  rw [List.length_map]
  have := List.length_filter_le p ((List.range (m - 2)).map (2 + ·))
  rw [List.length_map, List.length_range] at this
  unfold line; omega
theorem in_lc (C : Orc) (h : AHeap) (n : Option AV) (w : Option AV) (k : Nat) (hk : 2 ≤ k) (hk2 : k ≤ 1500) :
    lcL (turn C [n, some (.int (k : Nat)), w] [2] [2] (.and (.cmp .LtE (.bin .Mult (.var 2) (.var 2)) (.var 1)) (.cmp .Eq (.bin .Mod (.blt .int (.cons (.var 1) (.nil))) (.var 2)) (.cst (.int 0)))) (.var 2)) (rngL 2 (k : Nat)) h = .ok ((noDiv k).map nat) h := by
  rw [rng_nat]
  refine lcL_nat fun j hj => ?_
  obtain ⟨i, hi, rfl⟩ := List.mem_map.1 hj
  have hi := List.mem_range.1 hi
  generalize e : 2 + i = j
  have h2 : 2 ≤ j ∧ j < 2000 := by omega
  apply turn_app
  simp only [wipeL]
  have q1 := fm_nat k j
  have p0 : decide ((j : Int) ≠ 0) = true := by simp; omega
  have m1 : mulOk (j : Int) (j : Int) = true := mulOk_l (by omega)
  by_cases c1 : j * j ≤ k
  · have c1' : (j : Int) * (j : Int) ≤ (k : Int) := by exact_mod_cast c1
    by_cases c2 : k % j = 0
    · rw [c2] at q1
      walk_at "exh"
    · have c2' : ¬ ((k % j : Nat) : Int) = 0 := by omega
      walk_at "exh"
  · have c1' : ¬ (j : Int) * (j : Int) ≤ (k : Int) := by intro z; exact c1 (by exact_mod_cast z)
    walk_at "exh"
theorem loop_prod (C : Orc) (t : Option AV) (h : AHeap) : ∀ (xs : List Nat) (acc : Nat) (v : Option AV), (∀ x ∈ xs, x ≤ 2000) → ∃ w,
    forL (forB C [2] (.seq (.asg 1 (.bin .Mult (.var 1) (.var 2))) (.skip))) (xs.map nat) [t, some (.int (acc : Nat)), v] h = .ok (.nx [t, some (.int ((xs.foldl (· * ·) acc : Nat) : Int)), w]) h
  | [], acc, v, _ => ⟨v, rfl⟩
  | x :: xs, acc, v, hx => by
    obtain ⟨w, e⟩ := loop_prod C t h xs (acc * x) (some (.int (x : Nat))) fun y hy => hx y (List.mem_cons_of_mem _ hy)
    refine ⟨w, ?_⟩
    have m : mulOk (acc : Int) (x : Int) = true := mulOk_r (by have := hx x List.mem_cons_self; omega)
    have c : ((acc * x : Nat) : Int) = (acc : Int) * (x : Int) := by push_cast; rfl
    rw [c] at e
    show M.bind (forB _ _ _ (.int (x : Nat)) _) _ h = _
    rw [bind_app, forB_app]
    walk_at "exh"
    rfl
theorem run_prod {T : Tab} {fp : Nat} (Hp : T.fns[fp]? = some ⟨1, false, 3, irProd, true⟩) (n : Nat) (xs : List Nat) (hx : ∀ x ∈ xs, x ≤ 2000) (h : AHeap) : run T (n + 1) fp [.lst (xs.map nat)] h = .ok (.int (prod xs : Nat)) h := by
  refine run_eq Hp (σ := [some (.lst (xs.map nat)), none, none]) rfl ?_ rfl
  show Out.bnd (xec _ (irProd) _ _) _ = _
  unfold irProd prod
  obtain ⟨w, e⟩ := loop_prod (orc T n) (some (.lst (xs.map nat))) h xs 1 none hx
  have c1 : ((1 : Nat) : Int) = 1 := rfl
  rw [c1] at e
  have i : items (.lst (xs.map nat)) = some (xs.map nat) := rfl
  walk_at "exh"
theorem ea (C : Orc) (r j : Nat) (h : AHeap) (hj : 2 ≤ j) : evT C [some (.int (r : Nat)), some (.int (j : Nat)), none] (.cmp .Eq (.bin .Mod (.blt .int (.cons (.var 0) (.nil))) (.var 1)) (.cst (.int 0))) h = .ok (decide (r % j = 0)) h := by
  have q1 := fm_nat r j
  have p0 : decide ((j : Int) ≠ 0) = true := by simp; omega
  by_cases c2 : r % j = 0
  · rw [c2] at q1
    walk_at "exh"
  · have c2' : ¬ ((r % j : Nat) : Int) = 0 := by omega
    walk_at "exh"
/-- told with a number that does not reduce -/
theorem el (C : Orc) (n : Option AV) (x : Int) (ys : List AV) (h : AHeap) (ro : rngOk 2 x = true) (l : lcL (turn C [n, some (.int x), none] [2] [2] (.and (.cmp .LtE (.bin .Mult (.var 2) (.var 2)) (.var 1)) (.cmp .Eq (.bin .Mod (.blt .int (.cons (.var 1) (.nil))) (.var 2)) (.cst (.int 0)))) (.var 2)) (rngL 2 x) h = .ok ys h) (ll : ys.length ≤ line) : ev C [n, some (.int x), none] (.lc [2] [2] (.rng (.cst (.int 2)) (.var 1)) (.and (.cmp .LtE (.bin .Mult (.var 2) (.var 2)) (.var 1)) (.cmp .Eq (.bin .Mod (.blt .int (.cons (.var 1) (.nil))) (.var 2)) (.cst (.int 0)))) (.var 2)) h = .ok (.lst ys) h := by
  walk_at "exh"
theorem eb (C : Orc) (r j : Nat) (h : AHeap) (hj : 2 ≤ j) (hj2 : j ≤ 1000) : evT C [some (.int (r : Nat)), some (.int (j : Nat)), none] (.cmp .Eq (.lc [2] [2] (.rng (.cst (.int 2)) (.var 1)) (.and (.cmp .LtE (.bin .Mult (.var 2) (.var 2)) (.var 1)) (.cmp .Eq (.bin .Mod (.blt .int (.cons (.var 1) (.nil))) (.var 2)) (.cst (.int 0)))) (.var 2)) (.lst (.nil))) h = .ok (noDiv j).isEmpty h := by
  have e1 := el C (some (.int (r : Nat))) (j : Nat) _ h (rn2 j (by omega)) (in_lc C h (some (.int (r : Nat))) none j hj (by omega)) (len_filter j _ (by omega))
  rw [evT_cmp, e1, bnd_ok]
  have ce := cmp_empty C ((noDiv j).map fun k : Nat => (k : Int)) h
  rw [← map_nat, List.isEmpty_map] at ce
  have e2 : ev C [some (.int (r : Nat)), some (.int (j : Nat)), none] (.lst .nil) h = .ok (.lst []) h := by walk_at "exe"
  rw [bind_app, e2, bnd_ok, bind_app, ce]
  rfl
theorem radv1 (C : Orc) (r j : Nat) (h : AHeap) (hj : 2 ≤ j) (hj2 : j ≤ 1000) : turn C [some (.int (r : Nat)), none, none] [1] [1] (.and (.cmp .Eq (.bin .Mod (.blt .int (.cons (.var 0) (.nil))) (.var 1)) (.cst (.int 0))) (.cmp .Eq (.lc [2] [2] (.rng (.cst (.int 2)) (.var 1)) (.and (.cmp .LtE (.bin .Mult (.var 2) (.var 2)) (.var 1)) (.cmp .Eq (.bin .Mod (.blt .int (.cons (.var 1) (.nil))) (.var 2)) (.cst (.int 0)))) (.var 2)) (.lst (.nil)))) (.var 1) (.int (j : Nat)) h = .ok (if (decide (r % j = 0) && (noDiv j).isEmpty) = true then some (.int (j : Nat)) else none) h := by
  apply turn_app
  simp only [wipeL, bindT_one, bnd_ok, List.set_cons_succ, List.set_cons_zero]
  have e : evT C [some (.int (r : Nat)), some (.int (j : Nat)), none] (.and (.cmp .Eq (.bin .Mod (.blt .int (.cons (.var 0) (.nil))) (.var 1)) (.cst (.int 0))) (.cmp .Eq (.lc [2] [2] (.rng (.cst (.int 2)) (.var 1)) (.and (.cmp .LtE (.bin .Mult (.var 2) (.var 2)) (.var 1)) (.cmp .Eq (.bin .Mod (.blt .int (.cons (.var 1) (.nil))) (.var 2)) (.cst (.int 0)))) (.var 2)) (.lst (.nil)))) h = .ok (decide (r % j = 0) && (noDiv j).isEmpty) h := by
    rw [evT_and, ea C r j h hj, bnd_ok]
    cases hd : decide (r % j = 0) with
    | false => rfl
    | true =>
      rw [if_pos rfl, eb C r j h hj hj2]
      rfl
  rw [bind_app, e, bnd_ok]
  cases hz : (decide (r % j = 0) && (noDiv j).isEmpty) with
  | false => rfl
  | true => rfl
theorem radv2 (C : Orc) (r : Nat) (h2 : r ≤ 1000) (h : AHeap) : lcL (turn C [some (.int (r : Nat)), none, none] [1] [1] (.and (.cmp .Eq (.bin .Mod (.blt .int (.cons (.var 0) (.nil))) (.var 1)) (.cst (.int 0))) (.cmp .Eq (.lc [2] [2] (.rng (.cst (.int 2)) (.var 1)) (.and (.cmp .LtE (.bin .Mult (.var 2) (.var 2)) (.var 1)) (.cmp .Eq (.bin .Mod (.blt .int (.cons (.var 1) (.nil))) (.var 2)) (.cst (.int 0)))) (.var 2)) (.lst (.nil)))) (.var 1)) (rngL 2 ((r : Int) + 1)) h = .ok ((prs r).map nat) h := by
  have c : (r : Int) + 1 = ((r + 1 : Nat) : Int) := by push_cast; rfl
  rw [c, rng_nat]
  refine lcL_nat fun j hj => ?_
  obtain ⟨i, hi, rfl⟩ := List.mem_map.1 hj
  have hi := List.mem_range.1 hi
  exact radv1 C r (2 + i) h (by omega) (by omega)
theorem lrad_x {T : Tab} {fp fl : Nat} (Hl : T.fns[fl]? = some ⟨1, false, 3, irLRad fp, true⟩) (n : Nat) (x y : Int) (ys : List AV) (h : AHeap) (ro : rngOk 2 (x + 1) = true) (l : lcL (turn (orc T (n + 1)) [some (.int x), none, none] [1] [1] (.and (.cmp .Eq (.bin .Mod (.blt .int (.cons (.var 0) (.nil))) (.var 1)) (.cst (.int 0))) (.cmp .Eq (.lc [2] [2] (.rng (.cst (.int 2)) (.var 1)) (.and (.cmp .LtE (.bin .Mult (.var 2) (.var 2)) (.var 1)) (.cmp .Eq (.bin .Mod (.blt .int (.cons (.var 1) (.nil))) (.var 2)) (.cst (.int 0)))) (.var 2)) (.lst (.nil)))) (.var 1)) (rngL 2 (x + 1)) h = .ok ys h) (ll : ys.length ≤ line) (pp : run T (n + 1) fp [.lst ys] h = .ok (.int y) h) : run T (n + 2) fl [.int x] h = .ok (.int y) h := by
  refine run_eq Hl (σ := [some (.int x), none, none]) rfl ?_ rfl
  show Out.bnd (xec _ (irLRad fp) _ _) _ = _
  unfold irLRad
  walk_at "exh"
theorem run_lrad {T : Tab} {fp fl : Nat} (Hp : T.fns[fp]? = some ⟨1, false, 3, irProd, true⟩) (Hl : T.fns[fl]? = some ⟨1, false, 3, irLRad fp, true⟩) (n : Nat) (r : Nat) (h1 : 1 ≤ r) (h2 : r ≤ 1000) (h : AHeap) : run T (n + 2) fl [.int (r : Nat)] h = .ok (.int (prod (prs r) : Nat)) h := by
  refine lrad_x Hl n (r : Nat) _ _ h (rn2' r (by omega)) (radv2 _ r h2 h) ?_ (run_prod Hp n (prs r) (fun x hx => ?_) h)
  · exact len_filter (r + 1) (fun k => decide (r % k = 0) && (noDiv k).isEmpty) (by omega)
  · have := (List.mem_filter.1 hx).1
    obtain ⟨i, hi, rfl⟩ := List.mem_map.1 this
    have := List.mem_range.1 hi
    omega
/-! ### what is struck -/
def str : Nat → Nat → Nat → Nat
  | 0, _, r => r
  | k + 1, b, r => if 1 < Nat.gcd r b then str k b (r / Nat.gcd r b) else r
theorem gcd_facts (b r : Nat) (hb : 1 ≤ b) (hb2 : b ≤ 1000000) (hr : 1 ≤ r) : 1 ≤ Nat.gcd r b ∧ divOk ((Nat.gcd r b : Nat) : Int) = true ∧ 1 ≤ r / Nat.gcd r b ∧ (1 < Nat.gcd r b → r / Nat.gcd r b < r) := by
  have g1 : 1 ≤ Nat.gcd r b := Nat.gcd_pos_of_pos_left b hr
  have g2 : Nat.gcd r b ≤ b := Nat.gcd_le_right r hb
  refine ⟨g1, divOk_b (by omega) (by omega), Nat.div_pos (Nat.gcd_le_left b hr) g1, fun g => Nat.div_lt_self hr g⟩
theorem whl_str {T : Tab} {fg : Nat} (Hg : T.fns[fg]? = some ⟨2, false, 4, irGcd, true⟩) (n : Nat) (v : Option AV) (h : AHeap) (b : Nat) (hb : 1 ≤ b) (hb2 : b ≤ 1000000) : ∀ (k r : Nat), 1 ≤ r → r ≤ k → ∃ w,
    whl (fun σ' => evT (orc T (n + 1)) σ' (.cmp .Gt (.var 3) (.cst (.int 1)))) (fun σ' => xec (orc T (n + 1)) (.seq (.asg 2 (.bin .FloorDiv (.var 2) (.var 3)))
    (.seq (.asg 3 (.call fg (.cons (.var 2) (.cons (.var 1) (.nil)))))
    (.skip))) σ') [v, some (.int (b : Nat)), some (.int (r : Nat)), some (.int (Nat.gcd r b : Nat))] h = .ok (.nx [v, some (.int (b : Nat)), some (.int (str k b r : Nat)), w]) h
  | 0, r, h1, h2 => by omega
  | k + 1, r, h1, h2 => by
    obtain ⟨g1, g2, g3, g4⟩ := gcd_facts b r hb hb2 h1
    have q2 := fd_nat r (Nat.gcd r b)
    unfold str
    by_cases hg : 1 < Nat.gcd r b
    · rw [if_pos hg]
      obtain ⟨w, e⟩ := whl_str Hg n v h b hb hb2 k (r / Nat.gcd r b) g3 (by have := g4 hg; omega)
      refine ⟨w, ?_⟩
      rw [← e]
      have rg := run_gcd Hg n ((r / Nat.gcd r b : Nat) : Int) (b : Nat) h
      rw [Int.gcd_natCast_natCast] at rg
      have hg' : (1 : Int) < ((Nat.gcd r b : Nat) : Int) := by exact_mod_cast hg
      refine whl_more (h1 := h) ?_ ?_
      · clear e; walk_at "exh"
      · clear e; walk_at "exh"
    · rw [if_neg hg]
      refine ⟨some (.int (Nat.gcd r b : Nat)), whl_done ?_⟩
      have hg' : ¬ (1 : Int) < ((Nat.gcd r b : Nat) : Int) := by omega
      walk_at "exh"
theorem whl_str2 {T : Tab} {fg : Nat} (Hg : T.fns[fg]? = some ⟨2, false, 4, irGcd, true⟩) (n : Nat) (v : Option AV) (h : AHeap) (b : Nat) (hb : 1 ≤ b) (hb2 : b ≤ 1000000) : ∀ (k r : Nat), 1 ≤ r → r ≤ k →
    whl (fun σ' => evT (orc T (n + 1)) σ' (.and (.cmp .NotEq (.var 2) (.cst (.int 0))) (.cmp .Gt (.call fg (.cons (.var 2) (.cons (.var 1) (.nil)))) (.cst (.int 1))))) (fun σ' => xec (orc T (n + 1)) (.seq (.asg 2 (.bin .FloorDiv (.var 2) (.call fg (.cons (.var 2) (.cons (.var 1) (.nil))))))
    (.skip)) σ') [v, some (.int (b : Nat)), some (.int (r : Nat))] h = .ok (.nx [v, some (.int (b : Nat)), some (.int (str k b r : Nat))]) h
  | 0, r, h1, h2 => by omega
  | k + 1, r, h1, h2 => by
    obtain ⟨g1, g2, g3, g4⟩ := gcd_facts b r hb hb2 h1
    have q2 := fd_nat r (Nat.gcd r b)
    have rg := run_gcd Hg n (r : Nat) (b : Nat) h
    rw [Int.gcd_natCast_natCast] at rg
    have r0 : ¬ (r : Int) = 0 := by omega
    unfold str
    by_cases hg : 1 < Nat.gcd r b
    · rw [if_pos hg]
      have e := whl_str2 Hg n v h b hb hb2 k (r / Nat.gcd r b) g3 (by have := g4 hg; omega)
      rw [← e]
      have hg' : (1 : Int) < ((Nat.gcd r b : Nat) : Int) := by exact_mod_cast hg
      refine whl_more (h1 := h) ?_ ?_
      · clear e; walk_at "exh"
      · clear e; walk_at "exh"
    · rw [if_neg hg]
      refine whl_done ?_
      have hg' : ¬ (1 : Int) < ((Nat.gcd r b : Nat) : Int) := by omega
      walk_at "exh"
theorem run_str {T : Tab} {fg fs : Nat} (Hg : T.fns[fg]? = some ⟨2, false, 4, irGcd, true⟩) (Hs : T.fns[fs]? = some ⟨2, false, 4, irStripped fg, true⟩) (n b r : Nat) (hb : 1 ≤ b) (hb2 : b ≤ 1000000) (hr : 1 ≤ r) (h : AHeap) : run T (n + 2) fs [.int (r : Nat), .int (b : Nat)] h = .ok (.int (str r b r : Nat)) h := by
  refine run_eq Hs (σ := [some (.int (r : Nat)), some (.int (b : Nat)), none, none]) rfl ?_ rfl
  show Out.bnd (xec _ (irStripped fg) _ _) _ = _
  unfold irStripped
  obtain ⟨w, e⟩ := whl_str Hg n (some (.int (r : Nat))) h b hb hb2 r r hr (Nat.le_refl _)
  have rg := run_gcd Hg n (r : Nat) (b : Nat) h
  rw [Int.gcd_natCast_natCast] at rg
  have r0 : ¬ (r : Int) = 0 := by omega
  walk_at "exh"
theorem run_str0 {T : Tab} {fg fs : Nat} (Hs : T.fns[fs]? = some ⟨2, false, 4, irStripped fg, true⟩) (n : Nat) (b : Int) (h : AHeap) : run T (n + 2) fs [.int 0, .int b] h = .ok (.int 0) h := by
  refine run_eq Hs (σ := [some (.int 0), some (.int b), none, none]) rfl ?_ rfl
  show Out.bnd (xec _ (irStripped fg) _ _) _ = _
  unfold irStripped
  walk_at "exe"
theorem run_str2 {T : Tab} {fg fq : Nat} (Hg : T.fns[fg]? = some ⟨2, false, 4, irGcd, true⟩) (Hq : T.fns[fq]? = some ⟨2, false, 3, irStrip fg, true⟩) (n b r : Nat) (hb : 1 ≤ b) (hb2 : b ≤ 1000000) (hr : 1 ≤ r) (h : AHeap) : run T (n + 2) fq [.int (r : Nat), .int (b : Nat)] h = .ok (.int (str r b r : Nat)) h := by
  refine run_eq Hq (σ := [some (.int (r : Nat)), some (.int (b : Nat)), none]) rfl ?_ rfl
  show Out.bnd (xec _ (irStrip fg) _ _) _ = _
  unfold irStrip
  have e := whl_str2 Hg n (some (.int (r : Nat))) h b hb hb2 r r hr (Nat.le_refl _)
  walk_at "exh"
theorem run_str20 {T : Tab} {fg fq : Nat} (Hq : T.fns[fq]? = some ⟨2, false, 3, irStrip fg, true⟩) (n : Nat) (b : Int) (h : AHeap) : run T (n + 2) fq [.int 0, .int b] h = .ok (.int 0) h := by
  refine run_eq Hq (σ := [some (.int 0), some (.int b), none]) rfl ?_ rfl
  show Out.bnd (xec _ (irStrip fg) _ _) _ = _
  unfold irStrip
  have e : whl (fun σ' => evT (orc T (n + 1)) σ' (.and (.cmp .NotEq (.var 2) (.cst (.int 0))) (.cmp .Gt (.call fg (.cons (.var 2) (.cons (.var 1) (.nil)))) (.cst (.int 1))))) (fun σ' => xec (orc T (n + 1)) (.seq (.asg 2 (.bin .FloorDiv (.var 2) (.call fg (.cons (.var 2) (.cons (.var 1) (.nil)))))) (.skip)) σ') [some (.int 0), some (.int b), some (.int 0)] h = .ok (.nx [some (.int 0), some (.int b), some (.int 0)]) h := by
    refine whl_done ?_
    walk_at "exe"
  walk_at "exh"
theorem forL_nx {body : AV → Loc → M Flow} {x : AV} {xs : List AV} {σ σ' : Loc} {h h1 : AHeap} (e : body x σ h = .ok (.nx σ') h1) : forL body (x :: xs) σ h = forL body xs σ' h1 := by
  show M.bind (body x σ) _ h = _
  rw [bind_app, e]; rfl
theorem forL_nil {body : AV → Loc → M Flow} {σ : Loc} {h : AHeap} : forL body [] σ h = .ok (.nx σ) h := rfl
/-- what a new object is handed out as -/
theorem exit_new {h : AHeap} {c : Nat} {ks : List Nat} {vs : List AV} (hv : ∀ R, frzAs R vs = some vs) : exitO h (.ok (.ref h.length) (h ++ [.ins c ks vs])) = .ok (.obj c ks vs) h := by
  have ne : ¬ (h ++ [AObj.ins c ks vs]).length = h.length := by simp
  have ok : OkOld h (h ++ [AObj.ins c ks vs]) := fun i o hi e => .inl (by rw [List.getElem?_append_left hi] at e; exact e)
  have e1 : (h ++ [AObj.ins c ks vs])[h.length]? = some (.ins c ks vs) := by simp
  unfold exitO exitV
  simp only [if_neg ne, if_pos ok]
  have e2 : frzAs (frzR h.length (h ++ [AObj.ins c ks vs]) ((h ++ [AObj.ins c ks vs]).length + 1)) [.ref h.length] = some [.obj c ks vs] := by
    simp only [frzAs, frzA, frzR, Nat.lt_irrefl, if_false, e1, hv, Option.map_some]
  rw [e2]
  simp
end NT
set_option linter.all false
set_option maxRecDepth 100000
set_option autoImplicit false
namespace NT
open PySem
section
variable (C : Orc) (σ : Loc) (h : AHeap) (a b es : E)
theorem ev_pcall (f : Nat) : ev C σ (.pcall f es) h = Out.bnd (evs C σ es h) fun xs => pureV C f xs := bind_app _ _ _
theorem ev_fms (w : Nat) : ev C σ (.fms w a) h = Out.bnd (ev C σ a h) fun x => fmsV w x := bind_app _ _ _
theorem ev_lrep : ev C σ (.lrep es b) h = Out.bnd (evs C σ es h) fun xs => if xs.length ≤ line then M.bind (ev C σ b) fun y => M.bind (asI y) fun k => ok1 (repOk xs.length k) (.lst (List.replicate k.toNat xs).flatten) else M.bad := bind_app _ _ _
theorem evI_enm : evI C σ (.enm a) h = Out.bnd (ev C σ a h) fun x => (match x with
    | .lst xs => M.pure (enmL xs)
    | .tup xs => M.pure (enmL xs)
    | _ => M.bad) := bind_app _ _ _
theorem fms_I (w : Nat) (i : Int) : fmsV w (.int i) h = ok1 (decide (0 ≤ i) && decide (i.natAbs.log2 < 1920)) (.str (Txt.rjust (Str.ofString (toString i)) w)) h := rfl
theorem bmG_rjust (s : Str) : bmG .rjust (.str s) h = .ok () h := rfl
theorem bmV_rjust (s : Str) (i : Int) : bmV .rjust (.str s) [.int i] h = ok1 (PadOk i) (.str (Txt.rjust s i)) h := rfl
theorem pad3 : PadOk 3 = true := by decide +kernel
theorem pad8 : PadOk 8 = true := by decide +kernel
variable {C h}
theorem bmG_app {n : Nat} {xs : List AV} (e : lstAt h n = some xs) : bmG .append (.ref n) h = .ok () h := by
  show (if (lstAt h n).isSome = true then _ else _) = _
  rw [e]; rfl
theorem bmG_clr {n : Nat} {xs : List AV} (e : lstAt h n = some xs) : bmG .clear (.ref n) h = .ok () h := by
  show (if (lstAt h n).isSome = true then _ else _) = _
  rw [e]; rfl
theorem bmV_app {n : Nat} {xs : List AV} (e : lstAt h n = some xs) (l : xs.length < line) (v : AV) : bmV .append (.ref n) [v] h = .ok .non (h.set n (.lst (xs ++ [v]))) := by
  unfold bmV; simp only [e, l, if_true]
theorem bmV_clr {n : Nat} {xs : List AV} (e : lstAt h n = some xs) : bmV .clear (.ref n) [] h = .ok .non (h.set n (.lst [])) := by
  unfold bmV; simp only [e]
theorem lst_last (h : AHeap) (xs : List AV) : lstAt (h ++ [.lst xs]) h.length = some xs := by
  unfold lstAt; rw [List.getElem?_append_right (Nat.le_refl _), Nat.sub_self]; rfl
theorem set_last (h : AHeap) (o o' : AObj) : (h ++ [o]).set h.length o' = h ++ [o'] := by
  rw [List.set_append_right _ _ (Nat.le_refl _), Nat.sub_self]; rfl
theorem frz_strs (R : Nat → Option AV) : ∀ ss : List Str, frzAs R (ss.map AV.str) = some (ss.map AV.str)
  | [] => rfl
  | s :: ss => by
    show (match frzA R (.str s), frzAs R (ss.map AV.str) with
      | some y, some ys => some (y :: ys)
      | _, _ => none) = _
    rw [frz_strs R ss]; rfl
theorem frzR_lst {n k : Nat} {xs ys : List AV} (e : h[n]? = some (.lst xs)) (f : frzAs (frzR 0 h k) xs = some ys) : frzR 0 h (k + 1) n = some (.lst ys) := by
  unfold frzR
  rw [if_neg (by omega), e]
  simp only [f]; rfl
theorem pure_of {f : Nat} {xs ys : List AV} {v : AV} {h2 : AHeap} (e1 : frzAs (frzR 0 h (h.length + 1)) xs = some ys) (e2 : C.call f ys [] = .ok v h2) (hf : flat v = true) : pureV C f xs h = .ok v h := by
  unfold pureV; simp only [e1, e2, hf, if_true]
end
theorem str_empty (s : Str) : Str.empty ++ s = s := by
  show (⟨#[] ++ s.cps⟩ : Str) = s
  rw [Array.empty_append]
theorem str_len (x y : Str) : (x ++ y).length = x.length + y.length := by
  show (x.cps ++ y.cps).size = _
  rw [Array.size_append]; rfl
theorem rj_len (x : Str) (w m : Nat) (h : x.length ≤ m) (hw : w ≤ m) : (Txt.rjust x (w : Nat)).length ≤ m := by
  unfold Txt.rjust
  split
  · exact h
  · unfold Builtin.Str.padded Str.length
    have : x.cps.size = x.length := rfl
    simp only [Array.size_append, Array.size_replicate, this, Int.toNat_natCast]
    omega
end NT
set_option linter.all false
set_option maxRecDepth 100000
set_option autoImplicit false
namespace NT
open PySem
/-! ### the same meaning, run by the kernel -/
/-- out of a def, by a check that can be run -/
def exitVB (h h' : AHeap) (vs : List AV) : Option (List AV × AHeap) :=
  if h'.length = h.length then some (vs, h') else
  if (h'.take h.length).all (refBO h.length) = true then (frzAs (frzR h.length h' (h'.length + 1)) vs).map fun ws => (ws, h'.take h.length) else none
def exitB (h : AHeap) : Out AV → Out AV
  | .ok v h' => (match exitVB h h' [v] with
    | some ([w], h2) => .ok w h2
    | _ => .bad)
  | .exc c ks vs h' => (match exitVB h h' vs with
    | some (ws, h2) => .exc c ks ws h2
    | none => .bad)
  | .bad => .bad
def whlF (t : Loc → M Bool) (body : Loc → M Flow) (σ : Loc) : M Flow := fun h => (whlN t body 1000000 σ h).getD .bad
def orcXM (T : Tab) (p : (Nat → List AV → M AV) × (Nat → Loc → M AV)) : Orc := ⟨T.ct, p.1, whlF, exitB, fun _ _ => false, p.2⟩
def orcXR (T : Tab) : Nat → (Nat → List AV → M AV) × (Nat → Loc → M AV)
  | 0 => (fun _ _ => M.bad, fun _ _ => M.bad)
  | n + 1 => (callW T (orcXM T (orcXR T n)), lamW T (orcXM T (orcXR T n)))
def orcX (T : Tab) (n : Nat) : Orc := orcXM T (orcXR T n)
def runX (T : Tab) (n : Nat) : Nat → List AV → M AV := (orcXR T n).1

/-! ### dead objects don't matter: what is run over them is run over others in their place -/
section
variable (g : AHeap)
def Dd (h : AHeap) : Prop := g.length ≤ h.length ∧ ∀ i, i < g.length → h[i]? = some .dead
def ov (h : AHeap) : AHeap := g ++ h.drop g.length
def Le {α : Type} (o o' : Out α) : Prop := match o with
  | .ok a h => Dd g h ∧ o' = .ok a (ov g h)
  | .exc c ks vs h => Dd g h ∧ o' = .exc c ks vs (ov g h)
  | .bad => True
def LeM {α : Type} (m m' : M α) : Prop := ∀ h, Dd g h → Le g (m h) (m' (ov g h))
structure OrcLe (C C' : Orc) : Prop where
  ct : C.ct = C'.ct
  call : ∀ f xs, LeM g (C.call f xs) (C'.call f xs)
  call0 : ∀ f xs v h2, C.call f xs [] = .ok v h2 → ∃ h3, C'.call f xs [] = .ok v h3
  whl : ∀ t t' b b', (∀ σ, LeM g (t σ) (t' σ)) → (∀ σ, LeM g (b σ) (b' σ)) → ∀ σ, LeM g (C.whl t b σ) (C'.whl t' b' σ)
  ex : ∀ h o o', Dd g h → Le g o o' → Le g (C.ex h o) (C'.ex (ov g h) o')
  lamOk : ∀ k e, C.lamOk k e = true → C'.lamOk k e = true
  lam : ∀ k σ, LeM g (C.lam k σ) (C'.lam k σ)
end
section
variable {g : AHeap} {α β : Type}
theorem Dd.len {h : AHeap} (d : Dd g h) : (ov g h).length = h.length := by
  unfold ov; rw [List.length_append, List.length_drop]; have := d.1; omega
theorem Dd.get {h : AHeap} (d : Dd g h) {n : Nat} {o : AObj} (e : h[n]? = some o) (hd : o ≠ .dead) : (ov g h)[n]? = some o := by
  have hn : ¬ n < g.length := fun z => by rw [d.2 n z] at e; cases e; exact hd rfl
  unfold ov
  rw [List.getElem?_append_right (by omega), List.getElem?_drop, show g.length + (n - g.length) = n by omega]
  exact e
theorem Dd.hi {h : AHeap} (d : Dd g h) {n : Nat} (hn : g.length ≤ n) : (ov g h)[n]? = h[n]? := by
  unfold ov
  rw [List.getElem?_append_right hn, List.getElem?_drop, show g.length + (n - g.length) = n by omega]
theorem Dd.app {h k : AHeap} (d : Dd g h) : Dd g (h ++ k) ∧ ov g (h ++ k) = ov g h ++ k := by
  refine ⟨⟨by rw [List.length_append]; have := d.1; omega, fun i hi => ?_⟩, ?_⟩
  · rw [List.getElem?_append_left (by have := d.1; omega)]; exact d.2 i hi
  · unfold ov; rw [List.drop_append_of_le_length d.1, List.append_assoc]
theorem Dd.set {h : AHeap} (d : Dd g h) {n : Nat} (o : AObj) (hn : g.length ≤ n) : Dd g (h.set n o) ∧ ov g (h.set n o) = (ov g h).set n o := by
  refine ⟨⟨by rw [List.length_set]; exact d.1, fun i hi => ?_⟩, ?_⟩
  · rw [List.getElem?_set_ne (by omega)]; exact d.2 i hi
  · unfold ov; rw [List.set_append_right _ _ hn, List.drop_set, if_neg (by omega)]
theorem Dd.ge {h : AHeap} (d : Dd g h) {n : Nat} {o : AObj} (e : h[n]? = some o) (hd : o ≠ .dead) : g.length ≤ n := by
  rcases Nat.lt_or_ge n g.length with z | z
  · rw [d.2 n z] at e; cases e; exact absurd rfl hd
  · exact z
theorem Dd.take {h : AHeap} (d : Dd g h) {n : Nat} (hn : g.length ≤ n) : Dd g (h.take n) ∧ ov g (h.take n) = (ov g h).take n := by
  refine ⟨⟨by rw [List.length_take]; have := d.1; omega, fun i hi => ?_⟩, ?_⟩
  · rw [List.getElem?_take_of_lt (by omega)]; exact d.2 i hi
  · unfold ov
    rw [List.take_append, List.take_of_length_le hn, List.drop_take]
theorem le_bad (m : M α) : LeM g (fun _ => .bad) m := fun _ _ => True.intro
theorem le_bad' (m : M α) : LeM g M.bad m := fun _ _ => True.intro
theorem le_pure (a : α) : LeM g (M.pure a) (M.pure a) := fun h d => ⟨d, rfl⟩
theorem le_of (o : Option α) : LeM g (M.of o) (M.of o) := by
  cases o with
  | none => exact le_bad' _
  | some a => exact le_pure a
theorem le_ok1 (b : Bool) (a : α) : LeM g (NT.ok1 b a) (NT.ok1 b a) := by
  intro h d
  unfold ok1
  cases b with
  | true => exact ⟨d, rfl⟩
  | false => exact True.intro
theorem le_bind {m m' : M α} {f f' : α → M β} (hm : LeM g m m') (hf : ∀ a, LeM g (f a) (f' a)) : LeM g (M.bind m f) (M.bind m' f') := by
  intro h d
  have q := hm h d
  unfold M.bind
  cases e : m h with
  | ok a h1 =>
    rw [e] at q
    rw [q.2]
    exact hf a h1 q.1
  | exc c ks vs h1 =>
    rw [e] at q
    rw [q.2]
    exact ⟨q.1, rfl⟩
  | bad => exact True.intro
theorem le_ite {c : Prop} [Decidable c] {m m' k k' : M α} (h1 : LeM g m m') (h2 : LeM g k k') : LeM g (if c then m else k) (if c then m' else k') := by
  split
  · exact h1
  · exact h2
theorem le_noexc {m m' : M α} (hm : LeM g m m') : LeM g (noexc m) (noexc m') := by
  intro h d
  have q := hm h d
  unfold noexc
  cases e : m h with
  | ok a h1 => rw [e] at q; rw [q.2]; exact ⟨q.1, rfl⟩
  | exc _ _ _ _ => exact True.intro
  | bad => exact True.intro
theorem le_lst {h : AHeap} (d : Dd g h) {n : Nat} {xs : List AV} (e : lstAt h n = some xs) : lstAt (ov g h) n = some xs ∧ g.length ≤ n := by
  unfold lstAt at e
  split at e
  · rename_i ys q
    cases e
    refine ⟨?_, d.ge q (fun z => by cases z)⟩
    unfold lstAt
    rw [d.get q (fun z => by cases z)]
  · cases e
theorem le_binV (op : Operator) (a b : AV) : LeM g (binV op a b) (binV op a b) := by
  unfold binV; split <;> first | exact le_pure _ | exact le_ok1 _ _ | exact le_bad' _
theorem le_negV (a : AV) : LeM g (negV a) (negV a) := by
  unfold negV; split <;> first | exact le_pure _ | exact le_bad' _
theorem le_cmpV (op : CmpOp) (a b : AV) : LeM g (cmpV op a b) (cmpV op a b) := by
  unfold cmpV; split <;> first | exact le_of _ | exact le_pure _ | exact le_ok1 _ _ | exact le_bad' _
theorem le_augV (op : Operator) (a b : AV) : LeM g (augV op a b) (augV op a b) := by
  unfold augV; split <;> first | exact le_pure _ | exact le_ok1 _ _ | exact le_bad' _
theorem le_truV (a : AV) : LeM g (truV a) (truV a) := by
  unfold truV; split <;> first | exact le_pure _ | exact le_ok1 _ _ | exact le_bad' _
theorem le_asB (a : AV) : LeM g (asB a) (asB a) := by unfold asB; split <;> first | exact le_pure _ | exact le_bad' _
theorem le_asI (a : AV) : LeM g (asI a) (asI a) := by unfold asI; split <;> first | exact le_pure _ | exact le_bad' _
theorem le_asS (a : AV) : LeM g (asS a) (asS a) := by unfold asS; split <;> first | exact le_pure _ | exact le_bad' _
theorem le_subV (a b : AV) : LeM g (subV a b) (subV a b) := by
  unfold subV
  split
  · exact le_of _
  · exact le_of _
  · exact le_ite (le_of _) (le_bad' _)
  · rename_i n i
    intro h d
    cases e : lstAt h n with
    | none => simp only [e]; exact True.intro
    | some xs => simp only [e, (le_lst d e).1]; exact le_of _ h d
  · exact le_bad' _
theorem le_slcV (a : AV) (l u : Option Int) : LeM g (slcV a l u) (slcV a l u) := by
  unfold slcV; split <;> first | exact le_pure _ | exact le_ok1 _ _ | exact le_bad' _
theorem le_setSubV (a b c : AV) : LeM g (setSubV a b c) (setSubV a b c) := by
  unfold setSubV
  split
  · rename_i n i
    intro h d
    cases e : lstAt h n with
    | none => simp only [e]; exact True.intro
    | some xs =>
      simp only [e, (le_lst d e).1]
      cases q : L2.ixN xs.length i with
      | none => exact True.intro
      | some j =>
        have z := d.set (.lst (xs.set j c)) (le_lst d e).2
        exact ⟨z.1, by rw [z.2]⟩
  · exact le_bad' _
theorem le_bltV (b : B) (xs : List AV) : LeM g (bltV b xs) (bltV b xs) := by
  unfold bltV
  split
  all_goals first | exact le_pure _ | exact le_ok1 _ _ | exact le_of _ | exact le_bad' _ | skip
  rename_i n
  intro h d
  cases e : lstAt h n with
  | none => simp only [e]; exact True.intro
  | some xs => simp only [e, (le_lst d e).1]; exact ⟨d, rfl⟩
theorem le_joinV (s : Str) (o : Option (List Str)) : LeM g (joinV s o) (joinV s o) := by
  unfold joinV; split <;> first | exact le_ok1 _ _ | exact le_bad' _
theorem le_bmG (m : BM) (x : AV) : LeM g (bmG m x) (bmG m x) := by
  intro h d
  unfold bmG
  by_cases e : bmTy h m x = true
  · have e2 : bmTy (ov g h) m x = true := by
      unfold bmTy at e ⊢
      split at e
      · rfl
      · rfl
      · obtain ⟨xs, q⟩ := Option.isSome_iff_exists.mp e
        rw [(le_lst d q).1]; rfl
      · obtain ⟨xs, q⟩ := Option.isSome_iff_exists.mp e
        rw [(le_lst d q).1]; rfl
      · cases e
    rw [if_pos e, if_pos e2]
    exact ⟨d, rfl⟩
  · rw [if_neg e]
    exact True.intro
theorem le_bmV (m : BM) (x : AV) (ys : List AV) : LeM g (bmV m x ys) (bmV m x ys) := by
  unfold bmV
  split
  · exact le_joinV _ _
  · exact le_ok1 _ _
  · rename_i n v
    intro h d
    cases e : lstAt h n with
    | none => simp only [e]; exact True.intro
    | some xs =>
      simp only [e, (le_lst d e).1]
      split
      · have z := d.set (.lst (xs ++ [v])) (le_lst d e).2
        exact ⟨z.1, by rw [z.2]⟩
      · exact True.intro
  · rename_i n
    intro h d
    cases e : lstAt h n with
    | none => simp only [e]; exact True.intro
    | some xs =>
      simp only [e, (le_lst d e).1]
      have z := d.set (.lst []) (le_lst d e).2
      exact ⟨z.1, by rw [z.2]⟩
  · exact le_bad' _
theorem le_bindT (is : List Nat) (x : AV) (σ : Loc) : LeM g (bindT is x σ) (bindT is x σ) := by
  unfold bindT
  split
  · exact le_pure _
  · split <;> first | exact le_of _ | exact le_bad' _
theorem le_lcL {f f' : AV → M (Option AV)} (hf : ∀ x, LeM g (f x) (f' x)) : ∀ xs : List AV, LeM g (lcL f xs) (lcL f' xs)
  | [] => le_pure _
  | x :: xs => le_bind (hf x) fun _ => le_bind (le_lcL hf xs) fun _ => le_pure _
theorem le_lcLL {f f' : AV → M (List AV)} (hf : ∀ x, LeM g (f x) (f' x)) : ∀ xs : List AV, LeM g (lcLL f xs) (lcLL f' xs)
  | [] => le_pure _
  | x :: xs => le_bind (hf x) fun _ => le_bind (le_lcLL hf xs) fun _ => le_pure _
theorem le_newL (zs : List AV) : LeM g (fun h => .ok (AV.ref h.length) (h ++ [AObj.lst zs])) (fun h => .ok (AV.ref h.length) (h ++ [AObj.lst zs])) := fun h d => by
  have z := d.app (k := [AObj.lst zs])
  exact ⟨z.1, by show Out.ok (AV.ref (ov g h).length) _ = _; rw [z.2, d.len]⟩
theorem le_lstM (m : Bool) (zs : List AV) : LeM g (lstM m zs) (lstM m zs) := by
  unfold lstM
  exact le_ite (le_ite (le_newL zs) (le_pure _)) (le_bad' _)
theorem le_lget (σ : Loc) (i : Nat) : LeM g (lget σ i) (lget σ i) := le_of _
theorem le_ins {h : AHeap} (d : Dd g h) {x : AV} {r : Nat × List Nat × List AV} (e : insOf h x = some r) : insOf (ov g h) x = some r := by
  unfold insOf at e ⊢
  split at e
  · exact e
  · split at e
    · rename_i q
      simp only [d.get q (fun z => by cases z)]
      exact e
    · cases e
  · cases e
theorem frzA_mono {R R' : Nat → Option AV} (hR : ∀ n v, R n = some v → R' n = some v) : (∀ a v, frzA R a = some v → frzA R' a = some v) := by
  intro a
  refine AV.rec (motive_1 := fun a => ∀ v, frzA R a = some v → frzA R' a = some v) (motive_2 := fun xs => ∀ ys, frzAs R xs = some ys → frzAs R' xs = some ys) ?_ ?_ ?_ ?_ ?_ ?_ ?_ ?_ ?_ ?_ ?_ ?_ ?_ ?_ ?_ a
  · intro v h; exact h
  · intro b v h; exact h
  · intro b v h; exact h
  · intro b v h; exact h
  · intro b v h; exact h
  · intro xs ih v h
    simp only [frzA, Option.map_eq_some_iff] at h ⊢
    obtain ⟨ys, h1, h2⟩ := h
    exact ⟨ys, ih ys h1, h2⟩
  · intro xs ih v h
    simp only [frzA, Option.map_eq_some_iff] at h ⊢
    obtain ⟨ys, h1, h2⟩ := h
    exact ⟨ys, ih ys h1, h2⟩
  · intro c ks xs ih v h
    simp only [frzA, Option.map_eq_some_iff] at h ⊢
    obtain ⟨ys, h1, h2⟩ := h
    exact ⟨ys, ih ys h1, h2⟩
  · intro n v h
    simp only [frzA] at h ⊢
    exact hR n v h
  · intro c v h; exact h
  · intro f v h; cases h
  · intro ks vs _ _ v h; cases h
  · intro c ks vs _ v h; cases h
  · intro ys h; exact h
  · intro a as iha ihas ys h
    unfold frzAs at h ⊢
    split at h
    · rename_i y ys' q1 q2
      rw [iha y q1, ihas ys' q2]
      exact h
    · cases h
theorem frzAs_mono {R R' : Nat → Option AV} (hR : ∀ n v, R n = some v → R' n = some v) : ∀ xs ys, frzAs R xs = some ys → frzAs R' xs = some ys
  | [], ys, h => h
  | a :: as, ys, h => by
    unfold frzAs at h ⊢
    split at h
    · rename_i y ys' q1 q2
      rw [frzA_mono hR a y q1, frzAs_mono hR as ys' q2]
      exact h
    · cases h
theorem frzR_ov {h : AHeap} (d : Dd g h) {n0 : Nat} : ∀ (k n : Nat) (v : AV), frzR n0 h k n = some v → frzR n0 (ov g h) k n = some v
  | 0, _, _, e => by cases e
  | k + 1, n, v, e => by
    unfold frzR at e ⊢
    split at e
    · rename_i q; rw [if_pos q]; exact e
    · rename_i q
      rw [if_neg q]
      cases z : h[n]? with
      | none => rw [z] at e; cases e
      | some o =>
        rw [z] at e
        cases o with
        | lst xs =>
          rw [d.get z (fun z => by cases z)]
          simp only [Option.map_eq_some_iff] at e ⊢
          obtain ⟨ys, h1, h2⟩ := e
          exact ⟨ys, frzAs_mono (frzR_ov d k) xs ys h1, h2⟩
        | ins c ks xs =>
          rw [d.get z (fun z => by cases z)]
          simp only [Option.map_eq_some_iff] at e ⊢
          obtain ⟨ys, h1, h2⟩ := e
          exact ⟨ys, frzAs_mono (frzR_ov d k) xs ys h1, h2⟩
        | dead => cases e
        | dct _ _ => cases e
theorem le_exitV {h h' : AHeap} (d : Dd g h) (d' : Dd g h') {vs ws : List AV} {h2 : AHeap} (e : exitVB h h' vs = some (ws, h2)) : Dd g h2 ∧ exitV (ov g h) (ov g h') vs = some (ws, ov g h2) := by
  unfold exitVB at e
  unfold exitV
  rw [d.len, d'.len]
  split at e
  · rename_i q
    cases e
    rw [if_pos q]
    exact ⟨d', rfl⟩
  · rename_i q
    rw [if_neg q]
    split at e
    · rename_i qa
      have ok : OkOld (ov g h) (ov g h') := fun i o hi ho => by
        rw [d.len] at hi ⊢
        by_cases hg : i < g.length
        · left
          unfold ov at ho ⊢
          rw [List.getElem?_append_left hg] at ho ⊢
          exact ho
        · right
          rw [d'.hi (by omega)] at ho
          refine List.all_eq_true.mp qa o ?_
          refine List.mem_of_getElem? (i := i) ?_
          rw [List.getElem?_take_of_lt hi]; exact ho
      rw [if_pos ok]
      simp only [Option.map_eq_some_iff] at e ⊢
      obtain ⟨us, h1, h3⟩ := e
      cases h3
      have z := d'.take d.1
      exact ⟨z.1, ws, frzAs_mono (frzR_ov d' _) _ _ h1, by rw [z.2]⟩
    · cases e
theorem le_exit (h : AHeap) (o o' : Out AV) (d : Dd g h) (l : Le g o o') : Le g (exitB h o) (exitO (ov g h) o') := by
  cases o with
  | bad => exact True.intro
  | ok v h' =>
    obtain ⟨d', rfl⟩ := l
    have e1 : exitB h (.ok v h') = (match exitVB h h' [v] with
      | some ([w], h2) => .ok w h2
      | _ => .bad) := rfl
    have e2 : exitO (ov g h) (.ok v (ov g h')) = (match exitV (ov g h) (ov g h') [v] with
      | some ([w], h2) => .ok w h2
      | _ => .bad) := rfl
    rw [e1, e2]
    cases q : exitVB h h' [v] with
    | none => exact True.intro
    | some p =>
      obtain ⟨ws, h2⟩ := p
      have z := le_exitV d d' q
      rw [z.2]
      match ws with
      | [] => exact True.intro
      | [w] => exact ⟨z.1, rfl⟩
      | _ :: _ :: _ => exact True.intro
  | exc c ks vs h' =>
    obtain ⟨d', rfl⟩ := l
    have e1 : exitB h (.exc c ks vs h') = (match exitVB h h' vs with
      | some (ws, h2) => .exc c ks ws h2
      | none => .bad) := rfl
    have e2 : exitO (ov g h) (.exc c ks vs (ov g h')) = (match exitV (ov g h) (ov g h') vs with
      | some (ws, h2) => .exc c ks ws h2
      | none => .bad) := rfl
    rw [e1, e2]
    cases q : exitVB h h' vs with
    | none => exact True.intro
    | some p =>
      obtain ⟨ws, h2⟩ := p
      have z := le_exitV d d' q
      rw [z.2]
      exact ⟨z.1, rfl⟩
theorem le_whlN {t t' : Loc → M Bool} {b b' : Loc → M Flow} (ht : ∀ σ, LeM g (t σ) (t' σ)) (hb : ∀ σ, LeM g (b σ) (b' σ)) : ∀ (n : Nat) (σ : Loc) (h : AHeap) (r : Out Flow), Dd g h → whlN t b n σ h = some r → r ≠ .bad → ∃ r', whlN t' b' n σ (ov g h) = some r' ∧ Le g r r'
  | 0, _, _, _, _, e, _ => by cases e
  | n + 1, σ, h, r, d, e, nb => by
    unfold whlN at e ⊢
    have q := ht σ h d
    cases z : t σ h with
    | bad => rw [z] at e; cases e; exact absurd rfl nb
    | exc c ks vs h1 =>
      rw [z] at e q
      rw [q.2]
      cases e
      exact ⟨_, rfl, q.1, rfl⟩
    | ok k h1 =>
      rw [z] at e q
      rw [q.2]
      cases k with
      | false =>
        cases e
        exact ⟨_, rfl, q.1, rfl⟩
      | true =>
        have q2 := hb σ h1 q.1
        simp only at e ⊢
        cases z2 : b σ h1 with
        | bad => rw [z2] at e; cases e; exact absurd rfl nb
        | exc c ks vs h2 =>
          rw [z2] at e q2
          rw [q2.2]
          cases e
          exact ⟨_, rfl, q2.1, rfl⟩
        | ok f h2 =>
          rw [z2] at e q2
          rw [q2.2]
          cases f with
          | nx σ' => exact le_whlN ht hb n σ' h2 r q2.1 e nb
          | ct σ' => exact le_whlN ht hb n σ' h2 r q2.1 e nb
          | bk σ' => cases e; exact ⟨_, rfl, q2.1, rfl⟩
          | rt v => cases e; exact ⟨_, rfl, q2.1, rfl⟩
theorem le_whl {t t' : Loc → M Bool} {b b' : Loc → M Flow} (ht : ∀ σ, LeM g (t σ) (t' σ)) (hb : ∀ σ, LeM g (b σ) (b' σ)) (σ : Loc) : LeM g (whlF t b σ) (whl t' b' σ) := fun h d => by
  unfold whlF
  cases e : whlN t b 1000000 σ h with
  | none => exact True.intro
  | some r =>
    by_cases nb : r = .bad
    · rw [nb]; exact True.intro
    · obtain ⟨r', e', l⟩ := le_whlN ht hb _ σ h r d e nb
      rw [whl_of e']
      exact l
end
section
variable {g : AHeap} {C C' : Orc} (L : OrcLe g C C')
include L
theorem le_attrV (f : Nat) (x : AV) : LeM g (attrV C f x) (attrV C' f x) := fun h d => by
  unfold attrV
  cases e : insOf h x with
  | none => exact True.intro
  | some r =>
    obtain ⟨c, ks, vs⟩ := r
    rw [le_ins d e, ← L.ct]
    simp only
    cases q : C.ct.attrOf f c with
    | none => exact True.intro
    | some k =>
      cases k with
      | fld => exact le_of _ h d
      | prop gg => exact le_noexc (L.call gg [x]) h d
      | con v =>
        simp only
        split
        · exact True.intro
        · exact ⟨d, rfl⟩
theorem le_methV (m : Nat) (x : AV) : LeM g (methV C m x) (methV C' m x) := fun h d => by
  unfold methV
  cases e : insOf h x with
  | none => exact True.intro
  | some r =>
    obtain ⟨c, ks, vs⟩ := r
    rw [le_ins d e, ← L.ct]
    simp only
    split
    · exact True.intro
    · exact le_of _ h d
theorem le_newV (c : Nat) (xs : List AV) : LeM g (newV C c xs) (newV C' c xs) := fun h d => by
  unfold newV
  rw [← L.ct]
  cases q : C.ct.init.lookup c with
  | none => exact True.intro
  | some gg =>
    refine L.ex h _ _ d ?_
    have z := d.app (k := [AObj.ins c [] []])
    have w := L.call gg (.ref h.length :: xs) _ z.1
    rw [z.2] at w
    rw [d.len]
    cases e : C.call gg (.ref h.length :: xs) (h ++ [AObj.ins c [] []]) with
    | bad => exact True.intro
    | exc k ks vs h' => rw [e] at w; rw [w.2]; exact ⟨w.1, rfl⟩
    | ok v h' =>
      rw [e] at w
      rw [w.2]
      cases v <;> first | exact ⟨w.1, rfl⟩ | exact True.intro
theorem le_setFldV (f : Nat) (x v : AV) : LeM g (setFldV C f x v) (setFldV C' f x v) := fun h d => by
  unfold setFldV
  rw [← L.ct]
  cases x with
  | ref n =>
    simp only
    cases e : h[n]? with
    | none => exact True.intro
    | some o =>
      cases o with
      | ins c ks vs =>
        simp only [d.get e (fun z => by cases z)]
        cases q : C.ct.attrOf f c with
        | none => exact True.intro
        | some k =>
          cases k with
          | fld =>
            simp only
            split
            · have z := d.set (.ins c (putF f v ks vs).1 (putF f v ks vs).2) (d.ge e (fun z => by cases z))
              exact ⟨z.1, by rw [z.2]⟩
            · exact True.intro
          | _ => exact True.intro
      | _ => exact True.intro
  | _ => exact True.intro
theorem le_callB (f : Nat) (xs : List AV) : LeM g (callB C f xs) (callB C' f xs) := le_bind (le_noexc (L.call f xs)) fun r => le_bind (le_asB r) fun _ => le_pure _
theorem le_eqO (x y : AV) (c : Nat) : LeM g (eqO C x y c) (eqO C' x y c) := fun h d => by
  unfold eqO
  rw [← L.ct]
  split
  · split
    · split
      · split
        · exact le_callB L _ _ h d
        · exact True.intro
      · exact True.intro
    · split
      · exact le_callB L _ _ h d
      · exact True.intro
  · exact True.intro
theorem le_cmpO (op : CmpOp) (x y : AV) : LeM g (cmpO C op x y) (cmpO C' op x y) := fun h d => by
  unfold cmpO
  rw [← L.ct]
  split
  · exact le_eqO L _ _ _ h d
  · split
    · exact le_callB L _ _ h d
    · exact True.intro
  · exact le_cmpV _ _ _ h d
theorem isi1_eq (x t : AV) : isi1 C x t = isi1 C' x t := by unfold isi1; rw [L.ct]
theorem isiA_eq (x : AV) : ∀ ts : List AV, isiA C x ts = isiA C' x ts
  | [] => rfl
  | t :: ts => by unfold isiA; rw [isi1_eq L, isiA_eq x ts]
theorem le_bltO (b : B) (xs : List AV) : LeM g (bltO C b xs) (bltO C' b xs) := fun h d => by
  unfold bltO
  rw [← L.ct]
  split
  · split
    · exact le_bind (le_noexc (L.call _ _)) (fun r => le_bind (le_asI r) fun _ => le_ok1 _ _) h d
    · exact True.intro
  · split
    · exact le_callB L _ _ h d
    · exact True.intro
  · split
    · exact le_bind (le_noexc (L.call _ _)) (fun r => le_bind (le_asS r) fun _ => le_pure _) h d
    · exact True.intro
  · rw [isi1_eq L]; exact le_of _ h d
  · rw [isi1_eq L]; exact le_of _ h d
  · split
    · exact True.intro
    · rw [isiA_eq L]; exact le_of _ h d
  · exact le_bltV _ _ h d
omit L in
theorem le_fmsV (w : Nat) (x : AV) : LeM g (fmsV w x) (fmsV w x) := by unfold fmsV; split <;> first | exact le_ok1 _ _ | exact le_bad' _
theorem le_pureV (f : Nat) (xs : List AV) : LeM g (pureV C f xs) (pureV C' f xs) := fun h d => by
  unfold pureV
  cases e : frzAs (frzR 0 h (h.length + 1)) xs with
  | none => exact True.intro
  | some ys =>
    rw [d.len, frzAs_mono (frzR_ov d _) _ _ e]
    simp only
    cases q : C.call f ys [] with
    | bad => exact True.intro
    | exc _ _ _ _ => exact True.intro
    | ok v h2 =>
      obtain ⟨h3, q3⟩ := L.call0 f ys v h2 q
      rw [q3]
      simp only
      split
      · exact ⟨d, rfl⟩
      · exact True.intro
omit L in
theorem le_gotO (cat : List Nat) {o o' : Out AV} (l : Le g o o') : Le g (gotO cat o) (gotO cat o') := by
  cases o with
  | bad => exact True.intro
  | ok v h => obtain ⟨d, rfl⟩ := l; exact ⟨d, rfl⟩
  | exc c ks vs h => obtain ⟨d, rfl⟩ := l; exact le_of _ h d
omit L in
theorem le_gotF (cat : List Nat) {f f' : Nat → M AV} (hf : ∀ k, LeM g (f k) (f' k)) (x : AV) : LeM g (gotF cat f x) (gotF cat f' x) := by
  cases x with
  | fn k => exact fun h d => le_gotO cat (hf k h d)
  | _ => exact le_bad' _
mutual
theorem le_ev (σ : Loc) (e : E) : LeM g (ev C σ e) (ev C' σ e) := by
  cases e with
  | cst v =>
    exact le_pure _
  | var i =>
    exact le_lget _ _
  | bin op a b =>
    exact le_bind (le_ev σ a) fun x => le_bind (le_ev σ b) fun y => le_binV _ _ _
  | neg a =>
    exact le_bind (le_ev σ a) le_negV
  | cmp op a b =>
    exact le_bind (le_ev σ a) fun x => le_bind (le_ev σ b) fun y => le_cmpO L _ _ _
  | chn op op' a b c =>
    exact le_bind (le_ev σ a) fun x => le_bind (le_ev σ b) fun y => le_bind (le_cmpO L _ _ _) fun r => le_bind (le_asB r) fun k => le_ite (le_bind (le_ev σ c) fun z => le_cmpO L _ _ _) (le_pure _)
  | and a b =>
    exact le_bind (le_ev σ a) fun x => le_bind (le_asB x) fun k => le_ite (le_ev σ b) (le_pure _)
  | or a b =>
    exact le_bind (le_ev σ a) fun x => le_bind (le_asB x) fun k => le_ite (le_pure _) (le_ev σ b)
  | notv a =>
    exact le_bind (le_ev σ a) fun x => le_bind (le_asB x) fun k => le_pure _
  | ifx t a b =>
    exact le_bind (le_evT σ t) fun k => le_ite (le_ev σ a) (le_ev σ b)
  | tup es =>
    exact le_bind (le_evs σ es) fun xs => le_ok1 _ _
  | lst es =>
    exact le_bind (le_evs σ es) fun xs => le_ok1 _ _
  | mlst es =>
    exact le_bind (le_evs σ es) fun xs => le_ite (le_newL xs) (le_bad' _)
  | sub a i =>
    exact le_bind (le_ev σ a) fun x => le_bind (le_ev σ i) fun y => le_subV _ _
  | slc a lo hi =>
    exact le_bind (le_ev σ a) fun x => le_bind (le_ev σ lo) fun l => le_bind (le_asI l) fun l => le_bind (le_ev σ hi) fun u => le_bind (le_asI u) fun u => le_slcV _ _ _
  | slcL a lo =>
    exact le_bind (le_ev σ a) fun x => le_bind (le_ev σ lo) fun l => le_bind (le_asI l) fun l => le_slcV _ _ _
  | slcH a hi =>
    exact le_bind (le_ev σ a) fun x => le_bind (le_ev σ hi) fun l => le_bind (le_asI l) fun l => le_slcV _ _ _
  | call f es =>
    exact le_bind (le_evs σ es) fun xs => L.call f xs
  | blt b es =>
    exact le_bind (le_evs σ es) fun xs => le_bltO L b xs
  | attr a f =>
    exact le_bind (le_ev σ a) fun x => le_attrV L f x
  | meth o m es =>
    exact le_bind (le_ev σ o) fun x => le_bind (le_methV L m x) fun gg => le_bind (le_evs σ es) fun xs => L.call gg (x :: xs)
  | new c es =>
    exact le_bind (le_evs σ es) fun xs => le_newV L c xs
  | fst es =>
    exact le_bind (le_evJ σ es _) fun z => le_pure _
  | fmt a =>
    exact le_bind (le_ev σ a) fun x => le_of _
  | bm m o es =>
    exact le_bind (le_ev σ o) fun x => le_bind (le_bmG m x) fun _ => le_bind (le_evs σ es) fun xs => le_bmV m x xs
  | lc tg vs it cond elt =>
    exact le_bind (le_evI σ it) fun xs => le_bind (le_lcL (fun x => le_noexc (le_bind (le_bindT tg x _) fun σ2 => le_bind (le_evT σ2 cond) fun k => le_ite (le_bind (le_ev σ2 elt) fun y => le_pure _) (le_pure _))) xs) fun ys => le_ok1 _ _
  | got cat a =>
    exact fun h d => by
      rw [ev_got, ev_got]
      exact le_gotO cat (le_ev σ a h d)
  | lcg m tg vs it cond body =>
    exact le_bind (le_evI σ it) fun xs => le_bind (le_noexc (le_lcLL (fun x => le_bind (le_bindT tg x _) fun σ2 => le_bind (le_evT σ2 cond) fun k => le_ite (le_evG σ2 body) (le_pure _)) xs)) fun zs => le_lstM m zs
  | pcall f es =>
    exact le_bind (le_evs σ es) fun xs => le_pureV L f xs
  | fms w a =>
    exact le_bind (le_ev σ a) fun x => le_fmsV w x
  | lrep es b =>
    exact le_bind (le_evs σ es) fun xs => le_ite (le_bind (le_ev σ b) fun y => le_bind (le_asI y) fun k => le_ok1 _ _) (le_bad' _)
  | lamv k b =>
    exact fun h d => by
      show Le g (NT.ok1 (C.lamOk k b) (AV.fn k) h) (NT.ok1 (C'.lamOk k b) (AV.fn k) (ov g h))
      cases q : C.lamOk k b with
      | false => exact True.intro
      | true => rw [L.lamOk k b q]; exact ⟨d, rfl⟩
  | gall cat a =>
    exact le_bind (le_ev σ a) fun x => (by
      cases x <;> first | exact le_bad' _ | exact le_bind (le_lcL (fun y => le_noexc (le_bind (le_gotF cat (fun k => L.lam k σ) y) fun _ => le_pure _)) _) fun ys => le_ok1 _ _)
  | _ =>
    exact le_bad' _
theorem le_evT (σ : Loc) (e : E) : LeM g (evT C σ e) (evT C' σ e) := by
  cases e with
  | and a b =>
    exact le_bind (le_evT σ a) fun k => le_ite (le_evT σ b) (le_pure _)
  | or a b =>
    exact le_bind (le_evT σ a) fun k => le_ite (le_pure _) (le_evT σ b)
  | not a =>
    exact le_bind (le_evT σ a) fun k => le_pure _
  | cmp op a b =>
    exact le_bind (le_ev σ a) fun x => le_bind (le_ev σ b) fun y => le_bind (le_cmpO L _ _ _) le_asB
  | chn op op' a b c =>
    exact le_bind (le_ev σ a) fun x => le_bind (le_ev σ b) fun y => le_bind (le_cmpO L _ _ _) fun r => le_bind (le_asB r) fun k => le_ite (le_bind (le_ev σ c) fun z => le_bind (le_cmpO L _ _ _) le_asB) (le_pure _)
  | tv a =>
    exact le_bind (le_ev σ a) le_truV
  | _ =>
    exact le_bad' _
theorem le_evs (σ : Loc) (e : E) : LeM g (evs C σ e) (evs C' σ e) := by
  cases e with
  | nil =>
    exact le_pure _
  | cons a r =>
    exact le_bind (le_ev σ a) fun x => le_bind (le_evs σ r) fun xs => le_pure _
  | star a r =>
    exact le_bind (le_ev σ a) fun x => (by
      cases x <;> first | exact le_bad' _ | exact le_bind (le_evs σ r) fun xs => le_pure _)
  | arr ix es kes =>
    exact le_bind (le_evs σ es) fun xs => le_bind (le_evs σ kes) fun ys => le_of _
  | _ =>
    exact le_bad' _
theorem le_evJ (σ : Loc) (e : E) (z : Str) : LeM g (evJ C σ e z) (evJ C' σ e z) := by
  cases e with
  | nil =>
    exact le_pure _
  | cons a r =>
    exact le_bind (le_ev σ a) fun x => (by
      cases x <;> first | exact le_bad' _ | exact le_ite (le_evJ σ r _) (le_bad' _))
  | _ =>
    exact le_bad' _
theorem le_evG (σ : Loc) (e : E) : LeM g (evG C σ e) (evG C' σ e) := by
  cases e with
  | gen tg vs it cond body =>
    exact le_bind (le_evI σ it) fun xs => le_lcLL (fun x => le_bind (le_bindT tg x _) fun σ2 => le_bind (le_evT σ2 cond) fun k => le_ite (le_evG σ2 body) (le_pure _)) xs
  | gel a =>
    exact le_bind (le_ev σ a) fun y => le_pure _
  | _ =>
    exact le_bad' _
theorem le_evI (σ : Loc) (e : E) : LeM g (evI C σ e) (evI C' σ e) := by
  cases e with
  | rng a b =>
    exact le_bind (le_ev σ a) fun x => le_bind (le_ev σ b) fun y => (by
      cases x <;> first | exact le_bad' _ | (cases y <;> first | exact le_bad' _ | exact le_ok1 _ _))
  | zip a b =>
    exact le_bind (le_ev σ a) fun x => le_bind (le_ev σ b) fun y => le_of _
  | enm a =>
    exact le_bind (le_ev σ a) fun x => (by cases x <;> first | exact le_bad' _ | exact le_pure _)
  | itv a =>
    exact le_bind (le_ev σ a) fun x => le_of _
  | _ =>
    exact le_bad' _
end
omit L in
theorem le_forL {b b' : AV → Loc → M Flow} (hb : ∀ x σ, LeM g (b x σ) (b' x σ)) : ∀ (xs : List AV) (σ : Loc), LeM g (forL b xs σ) (forL b' xs σ)
  | [], σ => le_pure _
  | x :: xs, σ => le_bind (hb x σ) fun f => (by
      cases f <;> first | exact le_forL hb xs _ | exact le_pure _)
theorem le_xec : ∀ (s : S) (σ : Loc), LeM g (xec C s σ) (xec C' s σ)
  | .skip, σ => le_pure _
  | .seq a b, σ => le_bind (le_xec a σ) fun f => (by cases f <;> first | exact le_xec b _ | exact le_pure _)
  | .expr e, σ => le_bind (le_ev L σ e) fun _ => le_pure _
  | .ret e, σ => le_bind (le_ev L σ e) fun _ => le_pure _
  | .asg i e, σ => le_bind (le_ev L σ e) fun _ => le_pure _
  | .unp is e, σ => le_bind (le_ev L σ e) fun v => le_bind (le_bindT is v σ) fun _ => le_pure _
  | .par is es, σ => le_bind (le_evs L σ es) fun xs => le_bind (le_of _) fun _ => le_pure _
  | .setFld o f v, σ => le_bind (le_ev L σ v) fun x => le_bind (le_ev L σ o) fun y => le_bind (le_setFldV L f y x) fun _ => le_pure _
  | .setSub o i v, σ => le_bind (le_ev L σ v) fun x => le_bind (le_ev L σ o) fun y => le_bind (le_ev L σ i) fun z => le_bind (le_setSubV y z x) fun _ => le_pure _
  | .aug i op e, σ => le_bind (le_lget σ i) fun x => le_bind (le_ev L σ e) fun y => le_bind (le_augV op x y) fun _ => le_pure _
  | .ife t a b, σ => le_bind (le_evT L σ t) fun k => le_ite (le_xec a σ) (le_xec b σ)
  | .for_ tg it b, σ => le_bind (le_evI L σ it) fun xs => le_forL (fun x σ' => le_bind (le_bindT tg x σ') fun σ2 => le_xec b σ2) xs σ
  | .whl t b, σ => L.whl _ _ _ _ (fun σ' => le_evT L σ' t) (fun σ' => le_xec b σ') σ
  | .brk, σ => le_pure _
  | .cnt, σ => le_pure _
  | .raise c np ks txt ix es, σ => le_bind (le_evs L σ es) fun xs h d => (by
      show Le g (if _ then _ else _) (if _ then _ else _)
      split
      · exact ⟨d, rfl⟩
      · exact True.intro)
omit L in
theorem le_flowV (f : Flow) : LeM g (flowV f) (flowV f) := by cases f <;> first | exact le_pure _ | exact le_bad' _
theorem le_callW (T : Tab) (f : Nat) (xs : List AV) : LeM g (callW T C f xs) (callW T C' f xs) := by
  unfold callW
  split
  · split
    · intro h d
      have b := le_bind (le_xec L ‹FD›.body ‹Loc›) (fun f => le_flowV f) h d
      show Le g (if _ then _ else _) (if _ then _ else _)
      split
      · exact L.ex h _ _ d b
      · exact b
    · exact le_bad' _
  · exact le_bad' _
theorem le_lamW (T : Tab) (k : Nat) (σ : Loc) : LeM g (lamW T C k σ) (lamW T C' k σ) := by
  unfold lamW
  split
  · exact le_ev L σ _
  · exact le_bad' _
end
theorem dd_nil (h : AHeap) : Dd [] h := ⟨Nat.zero_le _, fun i hi => by simp at hi⟩
theorem ov_nil (h : AHeap) : ov [] h = h := by simp [ov]
theorem orc_le (T : Tab) : ∀ (n : Nat) (g : AHeap), OrcLe g (orcX T n) (orc T n)
  | 0, g => ⟨rfl, fun _ _ => le_bad' _, fun _ _ _ _ h => (by cases h), fun _ _ _ _ ht hb σ => le_whl ht hb σ, fun h o o' d l => le_exit h o o' d l, fun _ _ h => (by cases h), fun _ _ => le_bad' _⟩
  | n + 1, g => ⟨rfl, fun f xs => le_callW (orc_le T n g) T f xs, fun f xs v h2 e => (by
      have q := le_callW (orc_le T n []) T f xs [] (dd_nil _)
      have e : callW T (orcX T n) f xs [] = .ok v h2 := e
      rw [e] at q
      exact ⟨_, q.2⟩), fun _ _ _ _ ht hb σ => le_whl ht hb σ, fun h o o' d l => le_exit h o o' d l, fun _ _ h => (by cases h), fun k σ => le_lamW (orc_le T n g) T k σ⟩
/-- what the kernel runs over dead objects -/
def deads (n : Nat) : AHeap := List.replicate n .dead
theorem dd_deads (g : AHeap) : Dd g (deads g.length) := ⟨by simp [deads], fun i hi => by simp [deads, hi]⟩
theorem ov_deads (g : AHeap) : ov g (deads g.length) = g := by simp [ov, deads]
section
variable {T : Tab} {n : Nat} {σ : Loc}
theorem exe_ev {e : E} {v : AV} (g : AHeap) (q : ev (orcX T n) σ e (deads g.length) = .ok v (deads g.length)) : ev (orc T n) σ e g = .ok v g := by
  have z := le_ev (orc_le T n g) σ e _ (dd_deads g)
  rw [q, ov_deads] at z
  rw [z.2, ov_deads]
theorem exe_call {f : Nat} {xs : List AV} {v : AV} (g : AHeap) (q : runX T n f xs (deads g.length) = .ok v (deads g.length)) : run T n f xs g = .ok v g := by
  have z := (orc_le T n g).call f xs _ (dd_deads g)
  have q : (orcX T n).call f xs (deads g.length) = .ok v (deads g.length) := q
  rw [q, ov_deads] at z
  have z2 := z.2
  rw [ov_deads] at z2
  exact z2
theorem exe_callX {f : Nat} {xs : List AV} {c : Nat} {ks : List Nat} {vs : List AV} (g : AHeap) (q : runX T n f xs (deads g.length) = .exc c ks vs (deads g.length)) : run T n f xs g = .exc c ks vs g := by
  have z := (orc_le T n g).call f xs _ (dd_deads g)
  have q : (orcX T n).call f xs (deads g.length) = .exc c ks vs (deads g.length) := q
  rw [q, ov_deads] at z
  have z2 := z.2
  rw [ov_deads] at z2
  exact z2
theorem exe_xec {s : S} {f : Flow} {h' : AHeap} (g : AHeap) (q : xec (orcX T n) s σ (deads g.length) = .ok f h') : xec (orc T n) s σ g = .ok f (ov g h') := by
  have z := le_xec (orc_le T n g) s σ _ (dd_deads g)
  rw [q, ov_deads] at z
  exact z.2
theorem exe_evX {e : E} {c : Nat} {ks : List Nat} {vs : List AV} (g : AHeap) (q : ev (orcX T n) σ e (deads g.length) = .exc c ks vs (deads g.length)) : ev (orc T n) σ e g = .exc c ks vs g := by
  have z := le_ev (orc_le T n g) σ e _ (dd_deads g)
  rw [q, ov_deads] at z
  rw [z.2, ov_deads]
theorem exe_got {cat : List Nat} {k : Nat} {e : E} {z : AV} (hk : T.lams[k]? = some e) (g : AHeap) (q : gotO cat (ev (orcX T n) σ e (deads g.length)) = .ok z (deads g.length)) : gotF cat (fun k => (orc T (n + 1)).lam k σ) (.fn k) g = .ok z g := by
  have z := le_gotO cat (le_ev (orc_le T n g) σ e _ (dd_deads g))
  rw [q, ov_deads] at z
  show gotO cat (lamW T (orc T n) k σ g) = _
  unfold lamW
  rw [hk]
  show gotO cat (ev (orc T n) σ e g) = _
  rw [z.2, ov_deads]
end
/-! ### all the kept lambdas called -/
inductive AllG (C : Orc) (cat : List Nat) (σ : Loc) (h : AHeap) : List AV → List AV → Prop
  | nil : AllG C cat σ h [] []
  | cons {x z : AV} {xs zs : List AV} : gotF cat (fun k => C.lam k σ) x h = .ok z h → AllG C cat σ h xs zs → AllG C cat σ h (x :: xs) (z :: zs)
theorem AllG.run {C : Orc} {cat : List Nat} {σ : Loc} {h : AHeap} : ∀ {xs zs : List AV}, AllG C cat σ h xs zs → lcL (fun y => noexc (M.bind (gotF cat (fun k => C.lam k σ) y) fun z => M.pure (some z))) xs h = .ok zs h
  | _, _, .nil => rfl
  | _, _, .cons (x := x) (z := z) (xs := xs) (zs := zs) e t => by
    rw [lcL, bind_app]
    have : noexc (M.bind (gotF cat (fun k => C.lam k σ) x) fun z => M.pure (some z)) h = .ok (some z) h := by
      unfold noexc
      rw [bind_app, e]; rfl
    rw [this, bnd_ok, bind_app, t.run]; rfl
theorem gall_of {C : Orc} {cat : List Nat} {σ : Loc} {h : AHeap} {a : E} {xs zs : List AV} (ha : ev C σ a h = .ok (.lst xs) h) (t : AllG C cat σ h xs zs) (hl : zs.length ≤ line) : ev C σ (.gall cat a) h = .ok (.lst zs) h := by
  show M.bind (ev C σ a) _ h = _
  rw [bind_app, ha, bnd_ok]
  show M.bind (lcL _ xs) _ h = _
  rw [bind_app, t.run, bnd_ok]
  unfold ok1
  rw [decide_eq_true hl]; rfl
def lamE : List (Nat × E) → E
  | [] => .nil
  | p :: r => .cons (.lamv p.1 p.2) (lamE r)
theorem evs_lams {T : Tab} {n : Nat} {σ : Loc} {h : AHeap} : ∀ (l : List (Nat × E)), (∀ p ∈ l, T.lams[p.1]? = some p.2) → evs (orc T n) σ (lamE l) h = .ok (l.map fun p => .fn p.1) h
  | [], _ => rfl
  | p :: r, hl => by
    show M.bind (ev (orc T n) σ (.lamv p.1 p.2)) _ h = _
    have e : ev (orc T n) σ (.lamv p.1 p.2) h = .ok (.fn p.1) h := by
      show ok1 ((orc T n).lamOk p.1 p.2) _ h = _
      rw [(orc_lamOk T n).mpr (hl p List.mem_cons_self)]; rfl
    rw [bind_app, e, bnd_ok, bind_app, evs_lams r fun q hq => hl q (List.mem_cons_of_mem _ hq)]
    rfl
/-- a list of kept lambdas -/
theorem lams_of {T : Tab} {n : Nat} {σ : Loc} {h : AHeap} (l : List (Nat × E)) (hl : ∀ p ∈ l, T.lams[p.1]? = some p.2) (hz : l.length ≤ line) : ev (orc T n) σ (.lst (lamE l)) h = .ok (.lst (l.map fun p => .fn p.1)) h := by
  show M.bind (evs (orc T n) σ (lamE l)) _ h = _
  rw [bind_app, evs_lams l hl, bnd_ok]
  first
    | rfl
    | (unfold ok1; rw [decide_eq_true (by rw [List.length_map]; exact hz)]; rfl)
def stN : Nat → S → S
  | 0, .seq a _ => a
  | n + 1, .seq _ b => stN n b
  | _, s => s
theorem seq_step {C : Orc} {a b : S} {σ σ1 : Loc} {h h1 : AHeap} (e : xec C a σ h = .ok (.nx σ1) h1) : xec C (.seq a b) σ h = xec C b σ1 h1 := by
  rw [xec_seq, e, bnd_ok, seqF_nx]
end NT
set_option linter.all false
set_option maxRecDepth 100000
set_option autoImplicit false
namespace NT
open PySem PySem.Spec PyProof.Rows L2
open PySem.W (Frag nsIn findIn specialIn takesIn recIn keepIn isFn makesIn subIn typeIn mroIn kitOne codeIn)
open He (ga ma eqO_ok ba)
/-! ### the written part: what the names reach, without tables of code objects -/
def notTab (o : Obj) : Bool := match o.cls, o.data with
  | .none, .fields _ => false
  | _, _ => true
def frN (g : Addr → Option Obj) (n : Nat) : Frag := (He.frG g (He.asD g n ++ [cStatics])).filter fun p => notTab p.2
theorem lookup_mem' : ∀ {l : Frag} {a : Addr} {o : Obj}, l.lookup a = some o → (a, o) ∈ l
  | [], _, _, h => by cases h
  | (b, u) :: r, a, o, h => by
    simp only [List.lookup] at h
    split at h
    · rename_i e; cases h; rw [beq_iff_eq.mp e]; exact List.mem_cons_self
    · exact List.mem_cons_of_mem _ (lookup_mem' h)
theorem frN_in {n : Nat} {h : Heap} : (frN h.get? n).In h := fun a o e => by
  have h1 := List.mem_filter.mp (lookup_mem' e)
  obtain ⟨b, hb, he⟩ := List.mem_filterMap.mp h1.1
  simp only [Option.map_eq_some_iff] at he
  obtain ⟨u, hu, hp⟩ := he
  cases hp
  exact hu
def hookN {α : Type} (ob : Frag → α) (val : α) (n : Nat) : PySem.W.Hook where
  α := α
  obs := fun s => ob (frN s.heap.get? n)
  val := fun _ => val
  says := fun _ h => ∃ K : Frag, K.In h ∧ ob K = val
  of := fun _ _ e => ⟨_, frN_in, e⟩
  keeps := fun _ _ _ ⟨K, hK, c⟩ k => ⟨K, PySem.W.Frag.In.keeps hK k, c⟩
theorem hookN_eq {α : Type} {ob : Frag → α} {val : α} {n : Nat} {g : Addr → Option Obj} {s : Shared} (h : ∀ a, g a = s.heap.get? a) : ob (frN g n) = (hookN ob val n).obs s := by
  have e : g = s.heap.get? := funext h
  rw [e]; rfl
/-! ### where a def stands -/
inductive FP where
  | top (x : Str) | me (c m : Str) | pr (c m : Str) | st (c m : Str)
def wfA (K : Frag) (C : Addr) (T : String) (m : Str) : Addr := match recIn K (ma K C m) T with
  | some (.ref f :: _) => f
  | _ => 0
def adr (K : Frag) : FP → Addr
  | .top x => ga K x
  | .me c m => ma K (ga K c) m
  | .pr c m => wfA K (ga K c) "property" m
  | .st c m => wfA K (ga K c) "staticmethod" m
/-! ### values of the written part -/
def strsB : List Value → List AV → Bool
  | [], [] => true
  | .str a _ :: us, .str b :: as => decide (a = b) && strsB us as
  | _, _ => false
def cvB (K : Frag) (u : Value) : AV → Bool
  | .non => decide (u = .none)
  | .bl b => decide (u = .bool b)
  | .int i => (match u with
    | .int j _ => decide (j = i)
    | _ => false)
  | .str s => (match u with
    | .str z _ => decide (z = s)
    | _ => false)
  | .tup xs => (match u with
    | .ref p => (match K.lookup p with
      | some ⟨.type T, _, .seq its _, _⟩ => decide (T = "tuple") && strsB its.toList xs && decide (its.size ≤ sizeLine)
      | _ => false)
    | _ => false)
  | _ => false
theorem strsB_ok : ∀ {us : List Value} {as : List AV}, strsB us as = true → ∃ ss : List Str, as = ss.map .str ∧ Vals (ss.map V.str) us
  | [], [], _ => ⟨[], rfl, .nil⟩
  | [], _ :: _, h => by simp [strsB] at h
  | u :: us, [], h => by cases u <;> simp [strsB] at h
  | u :: us, a :: as, h => by
    cases u with
    | str x t =>
      cases a with
      | str y =>
        simp only [strsB] at h
        obtain ⟨h1, h2⟩ := ba h
        obtain ⟨ss, e1, e2⟩ := strsB_ok h2
        have h1 := of_decide_eq_true h1
        subst h1
        exact ⟨x :: ss, by rw [e1]; rfl, .cons ⟨t, rfl⟩ e2⟩
      | _ => simp [strsB] at h
    | _ => simp [strsB] at h
theorem cvB_ok {K : Frag} {u : Value} {a : AV} (h : cvB K u a = true) : CV K u a := by
  cases a with
  | non => have h : decide (u = Value.none) = true := h; exact (of_decide_eq_true h : u = Value.none)
  | bl b => have h : decide (u = Value.bool b) = true := h; exact (of_decide_eq_true h : u = Value.bool b)
  | int i =>
    cases u with
    | int j t => exact ⟨t, by rw [of_decide_eq_true (show decide (j = i) = true from h)]⟩
    | _ => cases h
  | str i =>
    cases u with
    | str j t => exact ⟨t, by rw [of_decide_eq_true (show decide (j = i) = true from h)]⟩
    | _ => cases h
  | tup xs =>
    cases u with
    | ref p =>
      simp only [cvB] at h
      split at h
      · rename_i T dd its n sl hk
        obtain ⟨h1, h3⟩ := ba h
        obtain ⟨h1, h2⟩ := ba h1
        obtain ⟨ss, e1, e2⟩ := strsB_ok h2
        have h1 := of_decide_eq_true h1
        subst h1
        exact ⟨p, _, its, n, ss, e1, rfl, hk, rfl, rfl, of_decide_eq_true h3, e2⟩
      · cases h
    | _ => cases h
  | _ => cases h
def cvsB (K : Frag) : List Value → List AV → Bool
  | [], [] => true
  | u :: us, a :: as => cvB K u a && cvsB K us as
  | _, _ => false
theorem cvsB_ok {K : Frag} : ∀ {us : List Value} {as : List AV}, cvsB K us as = true → CVs K us as
  | [], [], _ => .nil
  | [], _ :: _, h => by simp [cvsB] at h
  | _ :: _, [], h => by simp [cvsB] at h
  | u :: us, a :: as, h => by
    simp only [cvsB] at h
    obtain ⟨h1, h2⟩ := ba h
    exact .cons (cvB_ok h1) (cvsB_ok h2)
def dflB (K : Frag) (dV : Value) (dfs : List AV) : Bool := match dfs, dV with
  | [], .none => true
  | _ :: _, .ref T => (match K.lookup T with
    | some ⟨_, _, .seq its _, _⟩ => cvsB K its.toList dfs
    | _ => false)
  | _, _ => false
theorem dflB_ok {K : Frag} {dV : Value} {dfs : List AV} (h : dflB K dV dfs = true) : DflA K dV dfs := by
  unfold dflB at h
  split at h
  · exact .inl ⟨rfl, rfl⟩
  · rename_i a as T
    split at h
    · rename_i c d its n sl hk
      exact .inr ⟨by simp, T, _, its.toList, n, rfl, hk, by simp, cvsB_ok h⟩
    · cases h
  · cases h
def kwdB (K : Frag) (kV : Value) (kwd : List (Str × AV)) : Bool := kwd.isEmpty || (match kV with
  | .ref Da => kwd.all fun q => (match nsIn K Da q.1 with
    | some (some u) => cvB K u q.2
    | _ => false)
  | _ => false)
theorem kwdB_ok {K : Frag} {kV : Value} {kwd : List (Str × AV)} (h : kwdB K kV kwd = true) : KwdA K kV kwd := by
  unfold kwdB at h
  rw [Bool.or_eq_true] at h
  rcases h with h | h
  · exact .inl (by simpa using h)
  · cases kV with
    | ref Da =>
      refine .inr ⟨Da, rfl, fun q hq => ?_⟩
      have := List.all_eq_true.mp h q hq
      cases z : nsIn K Da q.1 with
      | none => rw [z] at this; cases this
      | some w =>
        cases w with
        | none => rw [z] at this; cases this
        | some u => rw [z] at this; exact ⟨u, rfl, cvB_ok this⟩
    | _ => cases h
/-! ### defs -/
abbrev FnW : Type := Option (Str × Str × Arguments × FuncBody × Scope × Addr × List Str × Addr)
def fnW (K : Frag) (a : Addr) : FnW := match K.lookup a with
  | some ⟨_, _, .func fd, _⟩ => some (fd.name, fd.qualname, fd.params, fd.body, fd.scope, fd.globals, fd.closure.map (·.1), fd.builtins)
  | _ => none
def defV (D : DD) (cl : List Str) : FnW := some (D.name, D.qual, defArgs D.st, .stmts (defBody D.st), defScope D.st, mainGlobals, cl, builtinsNs)
def defB (K : Frag) (D : DD) (a : Addr) : Bool := keepIn K (.ref a) && (match K.lookup a with
  | some ⟨_, _, .func fd, _⟩ => codeIn K fd.code D.qual && (dflB K fd.defaults D.dfs && kwdB K fd.kwdefaults D.kwd)
  | _ => false)
theorem defIn_of {K : Frag} {D : DD} {a : Addr} (e : fnW K a = defV D []) (c : defB K D a = true) : DefIn K D a := by
  obtain ⟨kp, c2⟩ := ba c
  unfold fnW at e
  cases q : K.lookup a with
  | none => rw [q] at c2; cases c2
  | some o =>
    obtain ⟨oc, od, dt, osl⟩ := o
    rw [q] at c2 e
    cases dt with
    | func fd =>
      obtain ⟨n1, n2, n3, n4, n5, n6, n7, n8, n9, n10, n11, n12, n13, n14, n15⟩ := fd
      have e2 : (some (n1, n2, n3, n4, n5, n6, n7.map (·.1), n15) : FnW) = some (D.name, D.qual, defArgs D.st, .stmts (defBody D.st), defScope D.st, mainGlobals, [], builtinsNs) := e
      simp only [Option.some.injEq, Prod.mk.injEq, List.map_eq_nil_iff] at e2
      obtain ⟨h1, h2, h3, h4, h5, h6, h7, h8⟩ := e2
      subst h1 h2 h3 h4 h5 h6 h7 h8
      have c3 : (codeIn K n13 D.qual && (dflB K n8 D.dfs && kwdB K n9 D.kwd)) = true := c2
      obtain ⟨k1, k2⟩ := ba c3
      obtain ⟨k2, k3⟩ := ba k2
      exact ⟨⟨oc, od, n8, n9, n10, n11, n12, n13, n14, osl, q, k1, dflB_ok k2, kwdB_ok k3⟩, kp⟩
    | _ => cases c2
/-! ### classes -/
def clsB (K : Frag) (C : Addr) : Bool := PySem.W.plainGet K C Str.empty && (PySem.W.hasDictIn K C && (PySem.W.plainOver K C && He.eqO (findIn K (.ref C) "__setattr__") (some (some (.builtin "object.__setattr__")))))
theorem clsB_ok {K : Frag} {C : Addr} (h : clsB K C = true) : Cls K C := by
  obtain ⟨h1, h⟩ := ba h
  obtain ⟨h2, h⟩ := ba h
  obtain ⟨h3, h4⟩ := ba h
  exact ⟨h1, h2, h3, eqO_ok h4⟩
def akB (K : Frag) (C : Addr) (f : Str) (fnA : Nat → Addr) : AK → Bool
  | .fld => He.eqO (findIn K (.ref C) f) (some none)
  | .prop g => He.eqO (findIn K (.ref C) f) (some (some (.ref (ma K C f)))) && (He.eqO (specialIn K (.ref (ma K C f)) "__get__") (some (some (.builtin "property.__get__"))) && (decide (takesIn K (.ref (ma K C f)) = some true) && (match recIn K (ma K C f) "property" with
    | some (.ref q :: _) => decide (q = fnA g)
    | _ => false)))
  | .con v => (match findIn K (.ref C) f with
    | some (some u) => cvB K u v && (He.eqO (specialIn K u "__get__") (some none) && decide (PySem.W.copiedNames.contains f = false))
    | _ => false)
theorem akB_ok {W : Wd} {f c : Nat} {k : AK} (h : akB W.K (W.clsA c) (W.nm f) W.fnA k = true) : AkOk W f c k := by
  cases k with
  | fld => exact eqO_ok h
  | prop g =>
    obtain ⟨h1, h⟩ := ba h
    obtain ⟨h2, h⟩ := ba h
    obtain ⟨h3, h4⟩ := ba h
    refine ⟨_, eqO_ok h1, eqO_ok h2, of_decide_eq_true h3, ?_⟩
    split at h4
    · rename_i q r e
      rw [of_decide_eq_true h4] at e
      exact ⟨r, e⟩
    · cases h4
  | con v =>
    simp only [akB] at h
    split at h
    · rename_i u hu
      obtain ⟨h1, h⟩ := ba h
      obtain ⟨h2, h3⟩ := ba h
      obtain ⟨vv, g1, g2⟩ := (cvB_ok h1).ok
      exact ⟨vv, u, ⟨hu, g1, eqO_ok h2, of_decide_eq_true h3⟩, g2⟩
    · cases h
def methB (K : Frag) (C : Addr) (m : Str) (f : Addr) : Bool := He.eqO (findIn K (.ref C) m) (some (some (.ref f))) && (isFn K (.ref f) && keepIn K (.ref f))
theorem methB_ok {K : Frag} {C : Addr} {m : Str} {f : Addr} (h : methB K C m f = true) : Meth K C m f := by
  obtain ⟨h1, h⟩ := ba h
  obtain ⟨h2, h3⟩ := ba h
  exact ⟨eqO_ok h1, h2, h3⟩
def mkB (K : Frag) (C f : Addr) : Bool := makesIn K C && (He.eqO (findIn K (.ref C) "__init__") (some (some (.ref f))) && (isFn K (.ref f) && keepIn K (.ref C)))
theorem mkB_ok {K : Frag} {C f : Addr} (h : mkB K C f = true) : Mk K C f := by
  obtain ⟨h1, h⟩ := ba h
  obtain ⟨h2, h⟩ := ba h
  obtain ⟨h3, h4⟩ := ba h
  exact ⟨h1, eqO_ok h2, h3, h4⟩
def subB (K : Frag) (clsA : Nat → Addr) (sub : List (Nat × List Nat)) (c : Nat) (l : List Nat) : Bool := clsB K (clsA c) && (He.eqO (findIn K (.ref (clsA c)) "__class__") (some (some (.builtin "object.__class__"))) && (He.eqO (specialIn K (.builtin "object.__class__") "__get__") (some (some (.builtin "getset_descriptor.__get__"))) &&
  (decide (takesIn K (.builtin "object.__class__") = some true) && (decide (mroIn K (clsA c) (.type "object") = some true) && ((sub.all fun p => decide (kitOne K (.ref (clsA c)) (.ref (clsA p.1)) = some (l.contains p.1)) && decide (subIn K (.ref (clsA c)) (.ref (clsA p.1)) = some (l.contains p.1))) &&
  ((ty5.all fun T => decide (kitOne K (.ref (clsA c)) (.type T) = some false)) && tyL.all fun T => decide (kitOne K (.type T) (.ref (clsA c)) = some false) && decide (subIn K (.type T) (.ref (clsA c)) = some false)))))))
theorem subB_ok {W : Wd} {ct : CT} {c : Nat} {l : List Nat} (h : subB W.K W.clsA ct.sub c l = true) : ClsK W ct c l := by
  obtain ⟨h1, h⟩ := ba h
  obtain ⟨h2, h⟩ := ba h
  obtain ⟨h3, h⟩ := ba h
  obtain ⟨h4, h⟩ := ba h
  obtain ⟨h5, h⟩ := ba h
  obtain ⟨h6, h⟩ := ba h
  obtain ⟨h7, h8⟩ := ba h
  refine ⟨clsB_ok h1, eqO_ok h2, eqO_ok h3, of_decide_eq_true h4, of_decide_eq_true h5, fun c' l' hl => ?_, fun T hT => ?_, fun T hT => ?_⟩
  · obtain ⟨g1, g2⟩ := ba (List.all_eq_true.mp h6 _ (lookup_mem hl))
    exact ⟨of_decide_eq_true g1, of_decide_eq_true g2⟩
  · exact of_decide_eq_true (List.all_eq_true.mp h7 T hT)
  · obtain ⟨g1, g2⟩ := ba (List.all_eq_true.mp h8 T hT)
    exact ⟨of_decide_eq_true g1, of_decide_eq_true g2⟩
def nkB (ct : CT) : Bool := (ct.meth.all fun p => p.2.all fun q => !ct.ko.contains q.2) && ct.attr.all fun p => p.2.all fun q => (match q.2 with
  | .prop g => !ct.ko.contains g
  | _ => true)
/-- all that the classes' tables ask -/
def ctB (K : Frag) (clsA fnA : Nat → Addr) (nm : Nat → Str) (ct : CT) : Bool := (ct.attr.all fun p => p.2.all fun q => clsB K (clsA q.1) && akB K (clsA q.1) (nm p.1) fnA q.2) && ((ct.meth.all fun p => p.2.all fun q => clsB K (clsA q.1) && methB K (clsA q.1) (nm p.1) (fnA q.2)) &&
  ((ct.init.all fun p => mkB K (clsA p.1) (fnA p.2)) && (nkB ct && ct.sub.all fun p => subB K clsA ct.sub p.1 p.2)))
theorem ctB_ok {W : Wd} {ct : CT} (inj : ∀ i j, W.nm i = W.nm j → i = j) (nms : W.nm nEq = "__eq__" ∧ W.nm nLen = "__len__" ∧ W.nm nBool = "__bool__" ∧ W.nm nRepr = "__repr__" ∧ W.nm nIn = "__contains__") (h : ctB W.K W.clsA W.fnA W.nm ct = true) : CTOk W ct := by
  obtain ⟨h1, h⟩ := ba h
  obtain ⟨h2, h⟩ := ba h
  obtain ⟨h3, h⟩ := ba h
  obtain ⟨h5, h4⟩ := ba h
  obtain ⟨h5, h6⟩ := ba h5
  refine ⟨inj, fun f c k e => ?_, fun m c g e => ?_, fun c g e => ?_, fun c l e => ?_, fun m c g e => ?_, fun f c g e => ?_, nms⟩
  · unfold CT.attrOf at e
    simp only [Option.bind_eq_some_iff] at e
    obtain ⟨l, e1, e2⟩ := e
    obtain ⟨g1, g2⟩ := ba (List.all_eq_true.mp (List.all_eq_true.mp h1 _ (lookup_mem e1)) _ (lookup_mem e2))
    exact ⟨clsB_ok g1, akB_ok g2⟩
  · unfold CT.methOf at e
    simp only [Option.bind_eq_some_iff] at e
    obtain ⟨l, e1, e2⟩ := e
    obtain ⟨g1, g2⟩ := ba (List.all_eq_true.mp (List.all_eq_true.mp h2 _ (lookup_mem e1)) _ (lookup_mem e2))
    exact ⟨clsB_ok g1, methB_ok g2⟩
  · exact mkB_ok (List.all_eq_true.mp h3 _ (lookup_mem e))
  · exact subB_ok (List.all_eq_true.mp h4 _ (lookup_mem e))
  · unfold CT.methOf at e
    simp only [Option.bind_eq_some_iff] at e
    obtain ⟨l, e1, e2⟩ := e
    have := List.all_eq_true.mp (List.all_eq_true.mp h5 _ (lookup_mem e1)) _ (lookup_mem e2)
    simpa using this
  · unfold CT.attrOf at e
    simp only [Option.bind_eq_some_iff] at e
    obtain ⟨l, e1, e2⟩ := e
    have := List.all_eq_true.mp (List.all_eq_true.mp h6 _ (lookup_mem e1)) _ (lookup_mem e2)
    simpa using this
/-! ### the module's names -/
def conB (K : Frag) (x : Str) (v : AV) : Bool := match nsIn K mainGlobals x with
  | some (some u) => cvB K u v
  | _ => false
theorem conB_ok {K : Frag} {x : Str} {v : AV} (h : conB K x v = true) : ConIn K x v := by
  unfold conB at h
  split at h
  · rename_i u e
    exact ⟨u, e, cvB_ok h⟩
  · cases h
def gloB (K : Frag) (x : Str) (a : Addr) : Bool := He.eqO (nsIn K mainGlobals x) (some (some (.ref a)))
def freeB (K : Frag) (x : Str) : Bool := He.eqO (nsIn K mainGlobals x) (some none)
def stmB (K : Frag) (C : Addr) (m : Str) (f : Addr) : Bool := He.eqO (specialIn K (.ref C) "__getattribute__") (some (some (.builtin "type.__getattribute__"))) && (decide (typeIn K (.ref C) = some (.type "type")) && (PySem.W.readsIn K C (.type "type") && ((match PySem.W.findCls K (.ref C) (.type "type") m with
    | some (.get (.builtin g) (.ref p) .none (.ref D)) => decide (g = "staticmethod.__get__") && (decide (p = ma K C m) && decide (D = C))
    | _ => false) && ((match recIn K (ma K C m) "staticmethod" with
    | some (.ref q :: _) => decide (q = f)
    | _ => false) && keepIn K (.ref f)))))
theorem stmB_ok {K : Frag} {C : Addr} {m : Str} {f : Addr} (h : stmB K C m f = true) : StM K C m f := by
  obtain ⟨h1, h⟩ := ba h
  obtain ⟨h2, h⟩ := ba h
  obtain ⟨h3, h⟩ := ba h
  obtain ⟨h4, h⟩ := ba h
  obtain ⟨h5, h6⟩ := ba h
  refine ⟨eqO_ok h1, ⟨_, of_decide_eq_true h2, h3, ma K C m, ?_, ?_⟩, h6⟩
  · split at h4
    · rename_i g p D e
      obtain ⟨k1, k⟩ := ba h4
      obtain ⟨k2, k3⟩ := ba k
      rw [e, of_decide_eq_true k1, of_decide_eq_true k2, of_decide_eq_true k3]
    · cases h4
  · split at h5
    · rename_i q r e
      exact ⟨r, by rw [e, of_decide_eq_true h5]⟩
    · cases h5
end NT
set_option linter.all false
set_option maxRecDepth 100000
set_option autoImplicit false
namespace NT
open PySem PySem.Spec PyProof.Rows L2
open PySem.W (Frag nsIn findIn specialIn takesIn recIn keepIn isFn makesIn subIn typeIn mroIn kitOne codeIn)
open He (ga ma eqO_ok ba)
/-! ### own exceptions: by their texts -/
def setsQ : List Stmt → Option (List (Str × Str))
  | [] => some []
  | .Assign [.Attribute (.Name s _) f _] (.Name x _) _ :: r => if s = "self" then (setsQ r).map ((f, x) :: ·) else none
  | _ => none
theorem setsQ_ok : ∀ {l : List Stmt} {fs : List (Str × Str)}, setsQ l = some fs → Sets l fs
  | [], _, h => by simp [setsQ] at h; subst h; exact .nil
  | st :: r, fs, h => by
    unfold setsQ at h
    split at h
    · rename_i q; cases q
    · rename_i s p1 f p2 x p3 p r' q
      cases q
      split at h
      · rename_i hs
        subst hs
        simp only [Option.map_eq_some_iff] at h
        obtain ⟨gs, h1, rfl⟩ := h
        exact .cons (setsQ_ok h1)
      · cases h
    · cases h
def iniQ : List Stmt → Option (Str × List (Str × Str))
  | .Expr (.Call (.Attribute (.Call (.Name s _) [] [] _) i p3) [.Constant (.str txt) _ _] [] p5) _ :: .Assign [.Attribute (.Name z _) c _] (.Constant (.str txt') _ _) _ :: rest =>
      if s = "super" ∧ i = "__init__" ∧ z = "self" ∧ c = "code" ∧ txt' = txt ∧ (p3.endLine == p5.line) = true then (setsQ rest).map (txt, ·) else none
  | _ => none
theorem super_eq {p1 p2 p3 p4 p5 : Pos} {j1 : Nat} {txt : Str} (hl : (p3.endLine == p5.line) = true) : ∃ pl : Env → Sem Bool, ∀ env, eval (.Call (.Attribute (.Call (.Name "super" p1) [] [] p2) "__init__" p3) [.Constant (.str txt) j1 p4] [] p5) env = (do
      let ov ← attributeBase (.Call (.Name "super" p1) [] [] p2) "__init__" env (eval (.Call (.Name "super" p1) [] [] p2) env)
      standAt p3.atName
      let (f, first) ← holding [ov] (getMethod ov "__init__" (pl env))
      callWith p5 f first (backTo p5 (starEach [.Constant (.str txt) j1 p4] env)) []) := by
  refine ⟨fun env => (do return (← importBound (.Call (.Name "super" p1) [] [] p2) env).getD true), fun env => ?_⟩
  have hf : methodCallForm ([Expr.Constant (Const.str txt) j1 p4].length + ([] : List Keyword).length) (backTo p5 (starEach [.Constant (.str txt) j1 p4] env)) (backToKw p5 (keywordEach [] env)) = true := rfl
  rw [arm_eval_Call]
  unfold methodCall
  rw [hf]
  unfold calleeOf methodCallPos
  simp only [hl, Bool.not_true, Bool.or_true, if_true]
  rfl
/-- an exception class of the text: the def of its __init__, what it sets -/
structure ED where
  cls : Str
  st : Stmt
  qual : Str
  txt : Str
  ps : List Str
  fi : List (Str × Nat)
/-- its __init__ as it stands -/
def ED.val (E : ED) : FnW := some (("__init__" : Str), E.qual, defArgs E.st, .stmts (defBody E.st), defScope E.st, mainGlobals, [("__class__" : Str)], builtinsNs)
def ED.fs (E : ED) : List (Str × Str) := E.fi.map fun p => (p.1, E.ps.getD p.2 ("" : Str))
structure ExcS (E : ED) : Prop where
  body : iniQ (defBody E.st) = some (E.txt, E.fs)
  ar : ((defArgs E.st).posonlyargs ++ (defArgs E.st).args).head?.map (·.arg) = some "self"
  s1 : (defScope E.st).names.lookup ("super" : Str) = some .globalImplicit
  s2 : (defScope E.st).names.lookup ("__class__" : Str) = some .free
  kind : (defScope E.st).kind = .function
  co : (defScope E.st).isCoroutine = false
  gen : (defScope E.st).isGenerator = false
  cel : ((defScope E.st).names.all fun x => decide (x.2 ≠ .cell)) = true
  loc : ((("self" : Str) :: E.ps).all fun y => decide ((defScope E.st).names.lookup y = some .local)) = true
  bd : ∀ (kV doc pm : Value) (an : Option Addr) (cdv ct : Value) (cc : Addr) (us : List Value), us.length = (("self" : Str) :: E.ps).length → bindArgs (PySem.W.ksFn "__init__" E.qual (defArgs E.st) (defBody E.st) (defScope E.st) .none kV doc pm an cdv ct cc) ⟨us, []⟩ = pure ((("self" : Str) :: E.ps).zip us)
  nd : (("self" : Str) :: E.ps).Nodup
  used : ∀ p ∈ E.fs, p.2 ∈ (("self" : Str) :: E.ps) ∧ (p.2 == ("__debug__" : Str)) = false
  few : E.fs.length ≤ 100
  ix : ∀ p ∈ E.fi, p.2 < E.ps.length
  cd : (("code" : Str) :: E.fi.map (·.1)).Nodup
def oexB (K : Frag) (C : Addr) : Bool := match K.lookup C with
  | some ⟨.type T, _, .cls cd, sl⟩ => (match cd.mro, sl.toList with
    | .ref C' :: bm, [_, _, _, _, some (.builtin n), _] => decide (T = "type") && decide (C' = C) && decide (n = "ValueError.__new__") && !cd.hasDel && cd.hasDict && PySem.HandSPX.refsVE bm
    | _, _ => false)
  | _ => false
theorem oexB_ok {K : Frag} {C : Addr} (q : oexB K C = true) : ∃ nm qn N bs bm sn sub ab col dd k0 k1 k2 k3 k5, K.lookup C = some (excClassObj nm qn C N bs bm true sn sub ab col dd k0 k1 k2 k3 k5 "ValueError.__new__") ∧ PySem.HandSPX.refsVE bm = true := by
  unfold oexB at q
  split at q
  · rename_i T dd cd sl ho
    split at q
    · rename_i C' bm k0 k1 k2 k3 n k5 hm hs
      simp only [Bool.and_eq_true, decide_eq_true_eq, Bool.not_eq_true'] at q
      obtain ⟨⟨⟨⟨⟨rfl, rfl⟩, rfl⟩, hdel⟩, hdc⟩, ht⟩ := q
      obtain ⟨nm, bs, mro, ns, qn, hd, sn, sub, ab, col, del⟩ := cd
      dsimp only at hm hdel hdc
      subst hm hdel hdc
      have hsl : sl = #[k0, k1, k2, k3, some (.builtin "ValueError.__new__"), k5] := by
        obtain ⟨l⟩ := sl
        simp only at hs
        rw [hs]
      subst hsl
      exact ⟨nm, qn, ns, bs, bm, sn, sub, ab, col, dd, k0, k1, k2, k3, k5, ho, ht⟩
    · cases q
  · cases q
def excInitB (K : Frag) (file : Str) (C fI : Addr) (qual : Str) : Bool := match K.lookup fI with
  | some ⟨_, _, .func fd, _⟩ => decide (fd.defaults = .none) && (match fd.code, fd.closure with
    | .ref cda, [(_, cc)] => codeIn K (.ref cda) qual && ((match K.lookup cda with
        | some ⟨_, _, .fields vs, _⟩ => (match vs.toList with
          | _ :: _ :: .str f _ :: _ => file == f
          | _ => false)
        | _ => false) && (match K.lookup cc with
        | some ⟨_, _, .cell (some (.ref C')), _⟩ => decide (C' = C)
        | _ => false))
    | _, _ => false)
  | _ => false
/-- what the written part says of it -/
def excB (K : Frag) (file : Str) (C fI : Addr) (E : ED) : Bool := oexB K C && (He.eqO (findIn K (.ref C) "__setattr__") (some (some (.builtin "object.__setattr__"))) && (decide (subIn K (.ref C) (.type "BaseException") = some true) && (decide (typeIn K (.ref C) = some (.type "type")) && (keepIn K (.ref C) &&
  (He.eqO (findIn K (.ref C) "__init__") (some (some (.ref fI))) && (decide (typeIn K (.ref fI) = some (.type "function")) && (He.eqO (PySem.W.ks_superIn K C C "__init__") (some (some (.builtin "ValueError.__init__"))) && (decide (subIn K (.ref C) (.type "ValueError") = some true) && (decide (mroIn K C (.ref C) = some true) &&
  (He.eqO (nsIn K cStatics "thirdparty.any") (some none) && (PySem.W.excInitIn K C [.type "ValueError", .type "Exception", .type "BaseException", .type "object"] "ValueError.__new__" && (He.eqO (findIn K (.ref C) "code") (some none) && ((E.fs.all fun p => He.eqO (findIn K (.ref C) p.1) (some none)) && excInitB K file C fI E.qual)))))))))))))
theorem excOk_of {P : Program} {K : Frag} {C fI : Addr} {E : ED} (S : ExcS E) (ht : (P.main.scope.names.lookup ("super" : Str)).isSome = false) (e : fnW K fI = E.val) (h : excB K P.main.file C fI E = true) : ExcOk P K C fI E.txt E.ps E.fi := by
  obtain ⟨h1, h⟩ := ba h
  obtain ⟨h2, h⟩ := ba h
  obtain ⟨h3, h⟩ := ba h
  obtain ⟨h4, h⟩ := ba h
  obtain ⟨h5, h⟩ := ba h
  obtain ⟨h6, h⟩ := ba h
  obtain ⟨h7, h⟩ := ba h
  obtain ⟨h8, h⟩ := ba h
  obtain ⟨h9, h⟩ := ba h
  obtain ⟨h10, h⟩ := ba h
  obtain ⟨h11, h⟩ := ba h
  obtain ⟨h12, h⟩ := ba h
  obtain ⟨h13, h⟩ := ba h
  obtain ⟨h14, h15⟩ := ba h
  refine ⟨⟨⟨oexB_ok h1, eqO_ok h2, of_decide_eq_true h3, of_decide_eq_true h4, h5⟩, eqO_ok h6, of_decide_eq_true h7, eqO_ok h8, of_decide_eq_true h9, of_decide_eq_true h10, eqO_ok h11, h12, ⟨eqO_ok h13, fun p hp => eqO_ok (List.all_eq_true.mp h14 p hp)⟩, ht, ?_⟩, S.ix, S.cd⟩
  unfold fnW at e
  unfold excInitB at h15
  cases q : K.lookup fI with
  | none => rw [q] at h15; cases h15
  | some o =>
    obtain ⟨oc, od, dt, osl⟩ := o
    rw [q] at h15 e
    cases dt with
    | func fd =>
      obtain ⟨n1, n2, n3, n4, n5, n6, n7, n8, n9, n10, n11, n12, n13, n14, n15⟩ := fd
      have e2 : (some (n1, n2, n3, n4, n5, n6, n7.map (·.1), n15) : FnW) = some (("__init__" : Str), E.qual, defArgs E.st, .stmts (defBody E.st), defScope E.st, mainGlobals, [("__class__" : Str)], builtinsNs) := e
      simp only [Option.some.injEq, Prod.mk.injEq] at e2
      obtain ⟨g1, g2, g3, g4, g5, g6, g7, g8⟩ := e2
      subst g1 g2 g3 g4 g5 g6 g8
      obtain ⟨k1, k2⟩ := ba h15
      have k1 := of_decide_eq_true k1
      simp only at k1
      subst k1
      split at k2
      · rename_i cda nn cc hc1 hc2
        simp only at hc1 hc2
        subst hc1 hc2
        simp only [List.map_cons, List.map_nil, List.cons.injEq, and_true] at g7
        subst g7
        obtain ⟨k3, k34⟩ := ba k2
        obtain ⟨k4, k5⟩ := ba k34
        clear k34 k2 h15
        split at k4
        · rename_i ccl cdd vs ccs hk
          split at k4
          · rename_i a0 a1 file tf rest hv
            split at k5
            · rename_i cl cld C' csl hcc
              have k5 := of_decide_eq_true k5
              subst k5
              have hv2 : vs[2]? = some (.str file tf) := by
                rw [← Array.getElem?_toList, hv]; rfl
              have hb := S.body
              unfold iniQ at hb
              split at hb
              · rename_i s p1 p2 i p3 txt j1 p4 p5 p6 z q1 c q2 txt' j2 q3 q4 rest hbody
                split at hb
                · rename_i hh
                  obtain ⟨rfl, rfl, rfl, rfl, rfl, hl⟩ := hh
                  simp only [Option.map_eq_some_iff, Prod.mk.injEq] at hb
                  obtain ⟨fs, hs, ht1, ht2⟩ := hb
                  subst ht1
                  obtain ⟨ar, ha1, ha2⟩ := Option.map_eq_some_iff.mp S.ar
                  refine ⟨_, oc, od, osl, q, ⟨"__init__", E.qual, defArgs E.st, p1, p2, p3, p4, p5, p6, q1, q2, q3, q4, j1, j2, rest, defScope E.st, .none, n9, n10, n11, n12, cda, n14, cc, ar, vs, file, tf, ccl, cl, cdd, cld, ccs, csl, ?_, k3, ?_, ha1, ha2, hk, hv2, k4, hcc, S.s1, S.s2, S.kind, S.co, S.gen, ?_, ?_, super_eq hl⟩, ?_, ⟨E.ps, rfl, S.nd⟩, S.used, S.few⟩
                  · rw [hbody]
                  · have := setsQ_ok hs
                    rw [ht2] at this; exact this
                  · exact fun x hx => of_decide_eq_true (List.all_eq_true.mp S.cel x hx)
                  · exact fun y hy => of_decide_eq_true (List.all_eq_true.mp S.loc y hy)
                  · exact fun us hu => S.bd n9 n10 n11 n12 (.ref cda) n14 cc us hu
                · cases hb
              · cases hb
            · cases k5
          · cases k4
        · cases k4
      · cases k2
    | _ => cases h15
/-! ### _law_got, _law_field: by their texts -/
def strLQ : List Expr → Option (List Str)
  | [] => some []
  | .Constant (.str s) _ _ :: r => (strLQ r).map (s :: ·)
  | _ => none
theorem strLQ_ok : ∀ {l : List Expr} {ss : List Str}, strLQ l = some ss → StrL l ss
  | [], _, h => by simp [strLQ] at h; subst h; exact .nil
  | e :: r, ss, h => by
    unfold strLQ at h
    split at h
    · rename_i q; cases q
    · rename_i s k p r' q
      cases q
      simp only [Option.map_eq_some_iff] at h
      obtain ⟨gs, h1, rfl⟩ := h
      exact .cons (strLQ_ok h1)
    · cases h
def fbQ (e : Str) : List Stmt → Option (List FR × Str × Str)
  | [.Return (some (.IfExp (.Compare (.Attribute (.Name e1 _) c _) [.Eq] [.Constant (.str s) _ _] _) (.Attribute (.Name e2 _) f _) (.Constant .none k0 _) _)) _] => if e1 = e ∧ e2 = e ∧ c = "code" ∧ k0 = 0 then some ([], s, f) else none
  | .If (.Compare (.Attribute (.Name e1 _) c _) [.In] [.List lits _] _) [.Return (some (.Attribute (.Name e2 _) f _)) _] [] _ :: r => if e1 = e ∧ e2 = e ∧ c = "code" then (strLQ lits).bind fun ss => if ss.length ≤ 1000 then (fbQ e r).map fun p => (.inn ss f :: p.1, p.2) else none else none
  | .If (.Compare (.Attribute (.Name e1 _) c _) [.Eq] [.Constant (.str s) _ _] _) [.Return (some (.Attribute (.Name e2 _) f _)) _] [] _ :: r => if e1 = e ∧ e2 = e ∧ c = "code" then (fbQ e r).map fun p => (.eq1 s f :: p.1, p.2) else none
  | .If (.Compare (.Attribute (.Name e1 _) c _) [.Eq] [.Constant (.str s) _ _] _) [.Return (some (.Tuple [.Attribute (.Name e2 _) f _, .Attribute (.Name e3 _) g _] _ _)) _] [] _ :: r => if e1 = e ∧ e2 = e ∧ e3 = e ∧ c = "code" then (fbQ e r).map fun p => (.eq2 s f g :: p.1, p.2) else none
  | _ => none
theorem fbQ_ok {e : Str} : ∀ {l : List Stmt} {rs : List FR} {s f : Str}, fbQ e l = some (rs, s, f) → FB e l rs s f := by
  intro l
  induction l with
  | nil => intro rs s f h; simp [fbQ] at h
  | cons st r ih =>
    intro rs s f h
    unfold fbQ at h
    split at h
    · rename_i q
      cases q
      split at h
      · rename_i hh
        obtain ⟨rfl, rfl, rfl, rfl⟩ := hh
        cases h
        exact .fin
      · cases h
    · rename_i q
      cases q
      split at h
      · rename_i hh
        obtain ⟨rfl, rfl, rfl⟩ := hh
        simp only [Option.bind_eq_some_iff] at h
        obtain ⟨ss, h1, h2⟩ := h
        split at h2
        · rename_i hl
          simp only [Option.map_eq_some_iff, Prod.mk.injEq] at h2
          obtain ⟨⟨rs', s', f'⟩, h3, h4, rfl, rfl⟩ := h2
          subst h4
          exact .inn (strLQ_ok h1) hl (ih h3)
        · cases h2
      · cases h
    · rename_i q
      cases q
      split at h
      · rename_i hh
        obtain ⟨rfl, rfl, rfl⟩ := hh
        simp only [Option.map_eq_some_iff, Prod.mk.injEq] at h
        obtain ⟨⟨rs', s', f'⟩, h3, h4, rfl, rfl⟩ := h
        subst h4
        exact .eq1 (ih h3)
      · cases h
    · rename_i q
      cases q
      split at h
      · rename_i hh
        obtain ⟨rfl, rfl, rfl, rfl⟩ := hh
        simp only [Option.map_eq_some_iff, Prod.mk.injEq] at h
        obtain ⟨⟨rs', s', f'⟩, h3, h4, rfl, rfl⟩ := h
        subst h4
        exact .eq2 (ih h3)
      · cases h
    · cases h
def gotQ (a n fl x1 x2 x3 : Str) : List Stmt → Bool
  | [.Try [.Return (some (.Tuple [.Constant (.str e) _ _, .Call (.Name a' _) [] [] _] _ _)) _] [.ExceptHandler (some (.Tuple [.Name y1 _, .Name y2 _, .Name y3 _] _ _)) (some n') [.Return (some (.Tuple [.Attribute (.Name n2 _) cd _, .Call (.Name fl' _) [.Name n3 _] [] _] _ _)) _] _] [] [] _] =>
      decide (e = "" ∧ a' = a ∧ y1 = x1 ∧ y2 = x2 ∧ y3 = x3 ∧ n' = n ∧ n2 = n ∧ cd = "code" ∧ fl' = fl ∧ n3 = n)
  | _ => false
end NT
set_option linter.all false
set_option maxRecDepth 100000
set_option autoImplicit false
namespace NT
open PySem PySem.Spec PyProof.Rows L2
open PySem.W (Frag nsIn findIn specialIn takesIn recIn keepIn isFn makesIn subIn typeIn mroIn kitOne codeIn)
open He (ga ma eqO_ok ba)
/-! ### _law_got -/
structure GD where
  dg : DD
  df : DD
  a : Str
  n : Str
  ef : Str
  x1 : Str
  x2 : Str
  x3 : Str
  i : Nat
structure GotT (G : GD) : Prop where
  q : gotQ G.a G.n G.df.name G.x1 G.x2 G.x3 (defBody G.dg.st) = true
  b : fbQ G.ef (defBody G.df.st) = some (fldR, ("InvalidText" : Str), ("line" : Str))
  scg : FnScope G.dg.N [G.a] (defScope G.dg.st)
  scf : FnScope G.df.N [G.ef] (defScope G.df.st)
  pg : G.dg.ps = [G.a]
  pf : G.df.ps = [G.ef]
  dg : G.dg.dfs = []
  df : G.df.dfs = []
  qg : G.dg.qual = G.dg.name
  qf : G.df.qual = G.df.name
  bg : PosOk G.dg
  bf : PosOk G.df
  hi : G.dg.N[G.i]? = some G.n
  hn : (defScope G.dg.st).names.lookup G.n = some .local
  l1 : (defScope G.dg.st).names.lookup G.x1 = some .globalImplicit
  l2 : (defScope G.dg.st).names.lookup G.x2 = some .globalImplicit
  l3 : (defScope G.dg.st).names.lookup G.x3 = some .globalImplicit
  lf : (defScope G.dg.st).names.lookup G.df.name = some .globalImplicit
  dbg : ([G.dg.name, G.df.name, G.a, G.n, G.ef, G.x1, G.x2, G.x3].all fun x => !(x == ("__debug__" : Str)) && !(x == ("__classdict__" : Str))) = true
def toldB (K : Frag) (C c1 c2 c3 : Addr) : Bool := xfB K C && (He.eqO (findIn K (.ref C) "code") (some none) && ((fldR.all fun r => r.names.all fun f => He.eqO (findIn K (.ref C) f) (some none)) && (He.eqO (findIn K (.ref C) "line") (some none) && decide (PySem.W.exmAny K (.ref C) [.ref c1, .ref c2, .ref c3] = some true))))
theorem toldB_ok {K : Frag} {C c1 c2 c3 : Addr} (h : toldB K C c1 c2 c3 = true) : Told K (.ref c1) (.ref c2) (.ref c3) fldR "line" C := by
  obtain ⟨h1, h⟩ := ba h
  obtain ⟨h2, h⟩ := ba h
  obtain ⟨h3, h⟩ := ba h
  obtain ⟨h4, h5⟩ := ba h
  exact ⟨xfB_ok h1, eqO_ok h2, fun r hr f hf => eqO_ok (List.all_eq_true.mp (List.all_eq_true.mp h3 r hr) f hf), eqO_ok h4, of_decide_eq_true h5⟩
def gotB (K : Frag) (clsA : Nat → Addr) (G : GD) (cat : List Nat) : Bool := gloB K G.x1 (ga K G.x1) && (gloB K G.x2 (ga K G.x2) && (gloB K G.x3 (ga K G.x3) && (gloB K G.dg.name (ga K G.dg.name) && (gloB K G.df.name (ga K G.df.name) && (defB K G.dg (ga K G.dg.name) && (defB K G.df (ga K G.df.name) && cat.all fun k => toldB K (clsA k) (ga K G.x1) (ga K G.x2) (ga K G.x3)))))))
theorem vis_par {N ps : List Str} {sc : Scope} (S : FnScope N ps sc) {x : Str} (h : x ∈ ps) : Vis sc x := (S.par x h).elim (fun z => .inl z) (fun z => .inr (.inl z))
theorem start_one {N : List Str} {a : Str} {sc : Scope} (S : FnScope N [a] sc) (v : V) : (L2.start N [v])[0]? = some (some v) := rfl
theorem first_of {N : List Str} {a : Str} {sc : Scope} (S : FnScope N [a] sc) : N[0]? = some a := by
  have := S.pre
  cases N with
  | nil => simp at this
  | cons b r => simp at this; simp [this]
theorem got_of {W : Wd} {G : GD} {cat : List Nat} {h : Heap} (KX : W.K.In h) (Gn : h.Ns mainGlobals W.mg) (S : GotT G) (nm : ∀ k, k < 10 → W.nm k = exN.getD k "") (eg : fnW W.K (ga W.K G.dg.name) = defV G.dg []) (ef : fnW W.K (ga W.K G.df.name) = defV G.df []) (c : gotB W.K W.clsA G cat = true) : GotOk W cat G.dg.name := by
  obtain ⟨c1, c⟩ := ba c
  obtain ⟨c2, c⟩ := ba c
  obtain ⟨c3, c⟩ := ba c
  obtain ⟨c4, c⟩ := ba c
  obtain ⟨c5, c⟩ := ba c
  obtain ⟨c6, c⟩ := ba c
  obtain ⟨c7, c8⟩ := ba c
  have Dg := defIn_of eg c6
  have Df := defIn_of ef c7
  obtain ⟨ocg, odg, dVg, kVg, docg, pmg, ang, cdvg, ctg, oslg, lkg, hcg, dfg⟩ := Dg.lk
  obtain ⟨ocf, odf, dVf, kVf, docf, pmf, anf, cdvf, ctf, oslf, lkf, hcf, dff⟩ := Df.lk
  have hdg : dVg = .none := by
    rcases dfg with ⟨_, z⟩ | ⟨z, _⟩
    · exact z
    · exact absurd S.dg z
  have hdf : dVf = .none := by
    rcases dff with ⟨_, z⟩ | ⟨z, _⟩
    · exact z
    · exact absurd S.df z
  subst hdg hdf
  have hq := S.q
  unfold gotQ at hq
  split at hq
  · rename_i e k1 p1 a' p2 p3 k2 p4 p5 y1 p6 y2 p7 y3 p8 k3 p9 n' n2 r1 cd r2 fl' r3 n3 r4 r5 k4 r6 r7 r8 pos0 hb
    obtain ⟨rfl, rfl, rfl, rfl, rfl, rfl, rfl, rfl, rfl, rfl⟩ := of_decide_eq_true hq
    have db := List.all_eq_true.mp S.dbg
    have dd : ∀ x, x ∈ [G.dg.name, G.df.name, G.a, G.n, G.ef, G.x1, G.x2, G.x3] → (x == ("__debug__" : Str)) = false ∧ (x == ("__classdict__" : Str)) = false := fun x hx => by
      have := db x hx
      simpa using this
    let D : GotD := ⟨G.dg.N, G.df.N, G.a, G.n, G.df.name, G.ef, G.x1, G.x2, G.x3, defScope G.dg.st, defScope G.df.st, ga W.K G.dg.name, ga W.K G.df.name, .ref (ga W.K G.x1), .ref (ga W.K G.x2), .ref (ga W.K G.x3), G.i, defBody G.df.st, defArgs G.df.st, defArgs G.dg.st,
      .none, kVf, docf, pmf, cdvf, ctf, ocf, .none, kVg, docg, pmg, cdvg, ctg, ocg, anf, odf, ang, odg, oslf, oslg, p1, p2, p3, p4, p5, p6, p7, p8, p9, r1, r2, r3, r4, r5, r6, r7, r8, k1, k2, k3, k4, pos0⟩
    have hbg : D.bg = defBody G.dg.st := hb.symm
    have efg : D.fg G.dg.name = fnD G.dg .none kVg docg pmg ang cdvg ctg := by
      unfold GotD.fg fnD
      rw [hbg, S.qg]
    have eff : D.ff_ = fnD G.df .none kVf docf pmf anf cdvf ctf := by
      unfold GotD.ff_ fnD
      rw [S.qf]
    have mm : ∀ x, x ∈ [G.dg.name, G.df.name, G.a, G.n, G.ef, G.x1, G.x2, G.x3] → x ∈ [G.dg.name, G.df.name, G.a, G.n, G.ef, G.x1, G.x2, G.x3] := fun _ h => h
    refine ⟨D, nm, ⟨S.scg.nd, fun f => start_one S.scg (V.ref f), S.hi, S.hn, (dd G.n (by simp)).1, (dd G.n (by simp)).2, S.l1, (dd G.x1 (by simp)).1, S.l2, (dd G.x2 (by simp)).1, S.l3, (dd G.x3 (by simp)).1, S.lf, (dd G.df.name (by simp)).1, S.scf, first_of S.scf, vis_par S.scf (List.mem_singleton.mpr rfl), (dd G.ef (by simp)).1, (dd G.ef (by simp)).2, fun K => ?_, start_one S.scf, fbQ_ok S.b, fun K => ?_, S.scg, first_of S.scg, vis_par S.scg (List.mem_singleton.mpr rfl), (dd G.dg.name (by simp)).1, (dd G.a (by simp)).1, (dd G.a (by simp)).2⟩,
      PySem.W.mg_of KX Gn (eqO_ok c1), PySem.W.mg_of KX Gn (eqO_ok c2), PySem.W.mg_of KX Gn (eqO_ok c3), PySem.W.mg_of KX Gn (eqO_ok c5), Df.kp, ?_, ?_, PySem.W.mg_of KX Gn (eqO_ok c4), Dg.kp, ?_, ?_, fun k hk => toldB_ok (List.all_eq_true.mp c8 k hk)⟩
    · rw [eff]
      refine Binds.all fun us hl => ?_
      have := S.bf.b0 S.df kVf docf pmf anf cdvf ctf us (by rw [S.pf]; exact hl)
      rw [S.pf] at this; exact this
    · rw [efg]
      refine Binds.all fun us hl => ?_
      have := S.bg.b0 S.dg kVg docg pmg ang cdvg ctg us (by rw [S.pg]; exact hl)
      rw [S.pg] at this; exact this
    · rw [eff]; exact lkf
    · have := hcf; rw [S.qf] at this; exact this
    · rw [efg]; exact lkg
    · have := hcg; rw [S.qg] at this; exact this
  · cases hq
/-! ### _law_all -/
structure AD where
  da : DD
  as_ : Str
  ask : Str
  scC : Scope
def allQ (as_ ask got : Str) : List Stmt → Option Scope
  | [.Return (some (.ListComp (.Call (.Name g _) [.Name x _] [] _) [⟨.Name y _, .Name z _, [], 0⟩] sc _)) _] => if g = got ∧ x = ask ∧ y = ask ∧ z = as_ then some sc else none
  | _ => none
structure AllT (A : AD) (got : Str) : Prop where
  q : allQ A.as_ A.ask got (defBody A.da.st) = some A.scC
  sc : FnScope [A.as_, A.ask] [A.as_] (defScope A.da.st)
  blk : L2.blkC [A.as_, A.ask] (defScope A.da.st) A.scC [(A.ask, 1)] = true
  g : (L2.relS A.scC (defScope A.da.st)).names.lookup got = some .globalImplicit
  v1 : (L2.relS A.scC (defScope A.da.st)).names.lookup A.ask = some .local
  dbg : ([A.da.name, A.as_, A.ask].all fun x => !(x == ("__debug__" : Str)) && !(x == ("__classdict__" : Str))) = true
  dq : A.da.qual = A.da.name
  dp : A.da.ps = [A.as_]
  dd : A.da.dfs = []
  b : PosOk A.da
def alllB (K : Frag) (A : AD) : Bool := gloB K A.da.name (ga K A.da.name) && defB K A.da (ga K A.da.name)
theorem all_of {W : Wd} {A : AD} {got : Str} {cat : List Nat} {h : Heap} (KX : W.K.In h) (Gn : h.Ns mainGlobals W.mg) (S : AllT A got) (ea : fnW W.K (ga W.K A.da.name) = defV A.da []) (c : alllB W.K A = true) (G : GotOk W cat got) : AllOk W cat A.da.name := by
  obtain ⟨c1, c2⟩ := ba c
  have Da := defIn_of ea c2
  obtain ⟨oc, od, dV, kV, doc, pm, an, cdv, ct, osl, lk, hcd, df⟩ := Da.lk
  have hdV : dV = .none := by
    rcases df with ⟨⟨_, z⟩ | ⟨z, _⟩, _⟩
    · exact z
    · exact absurd S.dd z
  subst hdV
  have hq := S.q
  unfold allQ at hq
  split at hq
  · rename_i e g p1 x p2 p3 y p4 z p5 sc p6 p7 hb
    split at hq
    · rename_i he
      obtain ⟨rfl, rfl, rfl, rfl⟩ := he
      cases hq
      have db := List.all_eq_true.mp S.dbg
      have dd : ∀ x, x ∈ [A.da.name, A.as_, A.ask] → (x == ("__debug__" : Str)) = false ∧ (x == ("__classdict__" : Str)) = false := fun x hx => by
        have := db x hx
        simpa using this
      obtain ⟨GD, G⟩ := G
      let D : AllD := ⟨A.da.name, A.as_, A.ask, g, defScope A.da.st, A.scC, ga W.K A.da.name, defArgs A.da.st, p1, p2, p3, p4, p5, p6, p7, .none, kV, doc, pm, cdv, ct, oc, an, od, osl⟩
      have hbd : D.body = defBody A.da.st := hb.symm
      have ef : PySem.W.fnOf D.y D.y D.params D.body D.sA D.dV D.kV D.doc D.pm D.an D.cdv D.ct = fnD A.da .none kV doc pm an cdv ct := by
        unfold fnD
        rw [hbd, S.dq]
      refine ⟨D, GD, ⟨⟨S.sc, S.blk, S.g, vis_par S.sc (List.mem_singleton.mpr rfl), S.v1, (dd A.da.name (by simp)).1, (dd A.as_ (by simp)).1, (dd A.as_ (by simp)).2, (dd A.ask (by simp)).1, (dd A.ask (by simp)).2, fun K => ?_⟩, PySem.W.mg_of KX Gn (eqO_ok c1), Da.kp, ?_, ?_⟩, rfl, G⟩
      · rw [ef]
        refine Binds.all fun us hl => ?_
        have := S.b.b0 S.dd kV doc pm an cdv ct us (by rw [S.dp]; exact hl)
        rw [S.dp] at this; exact this
      · rw [ef]; exact lk
      · have := hcd; rw [S.dq] at this; exact this
    · cases hq
  · cases hq
end NT
set_option linter.all false
set_option maxRecDepth 100000
set_option autoImplicit false
namespace NT
open PySem PySem.Spec PyProof.Rows L2
open PySem.W (Frag nsIn findIn specialIn takesIn recIn keepIn isFn makesIn subIn typeIn mroIn kitOne codeIn)
open He (ga ma eqO_ok ba)
/-- a law's text: its tables, where its defs stand -/
structure LawD where
  ct : CT
  g : GCtx
  clsN : List Str
  fp : List FP
  ds : List DD
  eds : List (Str × ExI × ED)
  gd : Option (GD × List Nat)
  al : Option AD
  lam : Option Str
  file : Str
def LawD.cA (L : LawD) (K : Frag) (k : Nat) : Addr := ga K (L.clsN.getD k "")
def LawD.fA (L : LawD) (K : Frag) (f : Nat) : Addr := adr K (L.fp.getD f (.top ""))
def defsB (K : Frag) (fA : Nat → Addr) : Nat → List DD → Bool
  | _, [] => true
  | i, D :: r => defB K D (fA i) && defsB K fA (i + 1) r
def defsO (K : Frag) (fA : Nat → Addr) : Nat → List DD → List FnW
  | _, [] => []
  | i, _ :: r => fnW K (fA i) :: defsO K fA (i + 1) r
def lamB (K : Frag) : Option Str → Bool
  | none => true
  | some x => (match PySem.W.tabIn K x with
    | some (_, P) => (K.lookup P).isNone
    | none => false)
def gdB (K : Frag) (cA : Nat → Addr) : Option (GD × List Nat) → Bool
  | none => true
  | some (G, cat) => gotB K cA G cat
def gdO (K : Frag) : Option (GD × List Nat) → List FnW
  | none => []
  | some (G, _) => [fnW K (ga K G.dg.name), fnW K (ga K G.df.name)]
def gdV : Option (GD × List Nat) → List FnW
  | none => []
  | some (G, _) => [defV G.dg [], defV G.df []]
def alB (K : Frag) : Option AD → Bool
  | none => true
  | some A => alllB K A
def alO (K : Frag) : Option AD → List FnW
  | none => []
  | some A => [fnW K (ga K A.da.name)]
def alV : Option AD → List FnW
  | none => []
  | some A => [defV A.da []]
def LawD.bool (L : LawD) (K : Frag) : Bool := ctB K (L.cA K) (L.fA K) (nmOf L.g.nms) L.ct && ((L.g.cons.all fun p => conB K p.1 p.2) && ((L.g.fns.all fun p => gloB K p.1 (L.fA K p.2) && keepIn K (.ref (L.fA K p.2))) && ((L.g.free.all (freeB K)) && ((L.g.cls.all fun p => gloB K p.1 (L.cA K p.2)) &&
  ((L.g.stat.all fun p => p.2.all fun q => stmB K (L.cA K p.1) q.1 (L.fA K q.2)) && (defsB K (L.fA K) 0 L.ds && ((L.eds.all fun p => gloB K p.1 (L.cA K p.2.1.c) && (excB K L.file (L.cA K p.2.1.c) (ma K (L.cA K p.2.1.c) "__init__") p.2.2 && freeB K "super")) && (gdB K (L.cA K) L.gd && (lamB K L.lam && (gloB K "law" (ga K "law") && alB K L.al))))))))))
abbrev Obs : Type := Bool × List FnW × List FnW × List FnW
def LawD.obs (L : LawD) (K : Frag) : Obs := (L.bool K, defsO K (L.fA K) 0 L.ds, L.eds.map (fun p => fnW K (ma K (L.cA K p.2.1.c) "__init__")), gdO K L.gd ++ alO K L.al)
def LawD.val (L : LawD) : Obs := (true, L.ds.map (fun D => defV D []), L.eds.map (fun p => p.2.2.val), gdV L.gd ++ alV L.al)
structure LawS (L : LawD) (T : Tab) (P : Program) : Prop where
  ct : T.ct = L.ct
  st : ∀ f fd, T.fns[f]? = some fd → ∃ D, L.ds[f]? = some D ∧ Stat L.ct L.g f fd D ∧ (D.lam = true → L.lam = some D.name ∧ L.fp[f]? = some (.top D.name) ∧ D.qual = D.name)
  exc : L.g.exc = L.eds.map fun p => (p.1, p.2.1)
  es : AllP (fun p : Str × ExI × ED => ExcS p.2.2 ∧ p.2.1.np = p.2.2.ps.length ∧ p.2.1.ix = p.2.2.fi.map (·.2) ∧ p.2.1.ks.map (nmOf L.g.nms) = ("code" : Str) :: p.2.2.fi.map (·.1) ∧ p.2.1.txt = p.2.2.txt ∧ p.2.2.ps.length ≤ 1000) L.eds
  got : L.g.got = (match L.gd with | none => [] | some (G, cat) => [(G.dg.name, cat)])
  gt : ∀ G cat, L.gd = some (G, cat) → GotT G
  all : L.g.all = (match L.al, L.gd with | some A, some (_, cat) => [(A.da.name, cat)] | _, _ => [])
  at_ : ∀ A G cat, L.al = some A → L.gd = some (G, cat) → AllT A G.dg.name
  nd : L.g.nms.Nodup
  short : (L.g.nms.all fun x => decide (x.length < 100000)) = true
  ex : ((List.range 10).all fun k => decide (L.g.nms[k]? = some (exN.getD k ""))) = true
  dn : L.g.nms[nEq]? = some ("__eq__" : Str) ∧ L.g.nms[nLen]? = some ("__len__" : Str) ∧ L.g.nms[nBool]? = some ("__bool__" : Str) ∧ L.g.nms[nRepr]? = some ("__repr__" : Str) ∧ L.g.nms[nIn]? = some ("__contains__" : Str)
  pats : ∀ p ∈ L.g.pats, p ∈ L.ct.pats
  cpats : ∀ k pat, (k, pat) ∈ L.g.cpats → ∃ i, L.ct.init.lookup k = some i ∧ (i, pat.self) ∈ L.ct.pats
  init : L.g.init = L.ct.init
  ko : L.g.ko = L.ct.ko
  sup : (P.main.scope.names.lookup ("super" : Str)).isSome = false
  file : P.main.file = L.file
theorem defsB_get {K : Frag} {fA : Nat → Addr} : ∀ {l : List DD} {i k : Nat} {D : DD}, defsB K fA i l = true → l[k]? = some D → defB K D (fA (i + k)) = true
  | [], _, _, _, _, e => by simp at e
  | x :: r, i, 0, D, h, e => by simp at e; subst e; exact (ba h).1
  | x :: r, i, k + 1, D, h, e => by
    have := defsB_get (ba h).2 (k := k) (D := D) (by simpa using e)
    rw [show i + (k + 1) = i + 1 + k by omega]; exact this
theorem defsO_get {K : Frag} {fA : Nat → Addr} : ∀ {l : List DD} {i k : Nat} {D : DD}, defsO K fA i l = l.map (fun D => defV D []) → l[k]? = some D → fnW K (fA (i + k)) = defV D []
  | [], _, _, _, _, e => by simp at e
  | x :: r, i, 0, D, h, e => by
    simp at e; subst e
    simp only [defsO, List.map_cons, List.cons.injEq] at h
    exact h.1
  | x :: r, i, k + 1, D, h, e => by
    simp only [defsO, List.map_cons, List.cons.injEq] at h
    have := defsO_get h.2 (k := k) (D := D) (by simpa using e)
    rw [show i + (k + 1) = i + 1 + k by omega]; exact this
theorem map_get {α β : Type} {f g : α → β} : ∀ {l : List α} {a : α}, l.map f = l.map g → a ∈ l → f a = g a
  | x :: r, a, h, m => by
    simp only [List.map_cons, List.cons.injEq] at h
    rcases List.mem_cons.mp m with z | z
    · rw [z]; exact h.1
    · exact map_get h.2 z
theorem lam_tab {L : LawD} {P : Program} {w : World} {K : Frag} {mg : Str → Option Value} {nm : Nat → Str} {h : Heap} (hlam : L.lam = none ∨ L.lam = some ("law" : Str)) (b10 : lamB K L.lam = true) (b11 : gloB K "law" (ga K "law") = true) (own : ∀ c Q, PySem.W.tabIn K ("law" : Str) = some (c, Q) → PySem.W.CodeHd h c Q ∧ h.get? Q = some { cls := .none, data := .fields #[] }) :
    ∃ tb : List (Addr × Addr × Str), (∀ p ∈ tb, h.get? p.2.1 = some { cls := .none, data := .fields #[] } ∧ K.lookup p.2.1 = none ∧ PySem.W.CodeHd h p.1 p.2.1) ∧
      ∀ base, (∀ p ∈ tb, LamX.TabB base mg p.1 p.2.1) → ∀ (f : Nat) (D : DD), L.lam = some D.name → L.fp[f]? = some (.top D.name) → D.qual = D.name → ∀ (oc : Value) (od : Option Addr) (dV kV doc pm : Value) (an : Option Addr) (cdv ct : Value) (osl : Array (Option Value)), K.lookup (L.fA K f) = some ⟨oc, od, .func (fnD D dV kV doc pm an cdv ct), osl⟩ → ∀ cl T g D0, LamF (wdL P w K mg base (L.cA K) (L.fA K) nm (tb.map (·.2)) cl T g D0) D cdv := by
  rcases hlam with hl | hl
  · exact ⟨[], (fun p hp => by cases hp), fun base _ f D h1 => by rw [hl] at h1; cases h1⟩
  · rw [hl] at b10
    unfold lamB at b10
    cases ht : PySem.W.tabIn K ("law" : Str) with
    | none => simp only [ht] at b10; cases b10
    | some cp =>
      obtain ⟨c, Pt⟩ := cp
      simp only [ht] at b10
      obtain ⟨t1, t2⟩ := own c Pt ht
      refine ⟨[(c, Pt, ("law" : Str) ++ ".<locals>." ++ "<lambda>")], fun p hp => ?_, fun base hTB f D h1 h2 h3 oc od dV kV doc pm an cdv ct osl lk cl T g D0 => ?_⟩
      · simp only [List.mem_singleton] at hp
        subst hp
        exact ⟨t2, by simpa using b10, t1⟩
      · rw [hl] at h1
        have hnm : D.name = "law" := (Option.some.inj h1).symm
        have e1 : L.fA K f = ga K "law" := by unfold LawD.fA; rw [List.getD_eq_getElem?_getD, h2, hnm]; rfl
        refine lam_of (W := wdL P w K mg base (L.cA K) (L.fA K) nm ([(c, Pt, ("law" : Str) ++ ".<locals>." ++ "<lambda>")].map (·.2)) cl T g D0) (c := c) (P := Pt) (f := f) ?_ (by rw [hnm]; exact ht) (hTB (c, Pt, ("law" : Str) ++ ".<locals>." ++ "<lambda>") List.mem_cons_self) ?_ ?_ oc od dV kV doc pm an cdv ct osl lk
        · show nsIn K mainGlobals D.name = some (some (.ref (L.fA K f)))
          rw [e1, hnm]; exact eqO_ok b11
        · show (Pt, _) ∈ [(Pt, _)]
          rw [h3, hnm]; simp
        · intro p hp _
          have hp : p ∈ [(Pt, ("law" : Str) ++ ".<locals>." ++ "<lambda>")] := hp
          simp only [List.mem_singleton] at hp
          subst hp
          rw [h3, hnm]
theorem all_look {α : Type} {l : List (Str × α)} {p : Str × α → Bool} {x : Str} {a : α} (h : l.all p = true) (e : l.lookup x = some a) : p (x, a) = true := List.all_eq_true.mp h _ (mem_of_lookup' e)
theorem all_lookN {α : Type} {l : List (Nat × α)} {p : Nat × α → Bool} {x : Nat} {a : α} (h : l.all p = true) (e : l.lookup x = some a) : p (x, a) = true := List.all_eq_true.mp h _ (lookup_mem e)
theorem law_facts {L : LawD} {T : Tab} {P : Program} {q : Program} {fl : Nat} {D0 : DD} (S : LawS L T P) (hfl : L.fp[fl]? = some (.top "law")) (hD0 : L.ds[fl]? = some D0) (hl0 : D0.lam = true → L.lam = some D0.name ∧ L.fp[fl]? = some (.top D0.name) ∧ D0.qual = D0.name) (hrec : ((recsOf q).any fun e => e.name == ("law" : Str)) = true) (hlam : L.lam = none ∨ L.lam = some ("law" : Str)) (w : World) (mg : Str → Option Value) (fa : Addr) (h : Heap)
    (Y : ∃ K : Frag, K.In h ∧ L.obs K = L.val) (Gn : h.Ns mainGlobals mg) (hmg : mg "law" = some (.ref fa)) (own : ∀ K : Frag, K.In h → TabsOk q K h) :
    ∃ K : Frag, K.In h ∧ ∃ (clsA fnA : Nat → Addr) (nm : Nat → Str) (tb : List (Addr × Addr × Str)), fnA fl = fa ∧ DefIn K D0 fa ∧
      (∀ p ∈ tb, h.get? p.2.1 = some { cls := .none, data := .fields #[] } ∧ K.lookup p.2.1 = none ∧ PySem.W.CodeHd h p.1 p.2.1) ∧
      ∀ base, (∀ p ∈ tb, LamX.TabB base mg p.1 p.2.1) → ∀ cl, TopOk (wdL P w K mg base clsA fnA nm (tb.map (·.2)) cl T L.g D0) T.ct L.g ∧ CTOk (wdL P w K mg base clsA fnA nm (tb.map (·.2)) cl T L.g D0) T.ct ∧
        (∀ (oc : Value) (od : Option Addr) (dV kV doc pm : Value) (an : Option Addr) (cdv ct : Value) (osl : Array (Option Value)), K.lookup fa = some ⟨oc, od, .func (fnD D0 dV kV doc pm an cdv ct), osl⟩ → D0.lam = true → LamF (wdL P w K mg base clsA fnA nm (tb.map (·.2)) cl T L.g D0) D0 cdv) ∧
        ∀ f fd, T.fns[f]? = some fd → ∃ D, FnFact (wdL P w K mg base clsA fnA nm (tb.map (·.2)) cl T L.g D0) T.ct L.g f fd D := by
  obtain ⟨K, KX, ob⟩ := Y
  have o1 : L.bool K = true := congrArg (fun z : Obs => z.1) ob
  have o2 : defsO K (L.fA K) 0 L.ds = L.ds.map (fun D => defV D []) := congrArg (fun z : Obs => z.2.1) ob
  have o3 : L.eds.map (fun p => fnW K (ma K (L.cA K p.2.1.c) "__init__")) = L.eds.map (fun p => p.2.2.val) := congrArg (fun z : Obs => z.2.2.1) ob
  have o5 : gdO K L.gd ++ alO K L.al = gdV L.gd ++ alV L.al := congrArg (fun z : Obs => z.2.2.2) ob
  obtain ⟨o4, o6⟩ : gdO K L.gd = gdV L.gd ∧ alO K L.al = alV L.al := List.append_inj o5 (by cases L.gd <;> rfl)
  obtain ⟨b1, o1⟩ := ba o1
  obtain ⟨b2, o1⟩ := ba o1
  obtain ⟨b3, o1⟩ := ba o1
  obtain ⟨b4, o1⟩ := ba o1
  obtain ⟨b5, o1⟩ := ba o1
  obtain ⟨b6, o1⟩ := ba o1
  obtain ⟨b7, o1⟩ := ba o1
  obtain ⟨b8, o1⟩ := ba o1
  obtain ⟨b9, o1⟩ := ba o1
  obtain ⟨b10, o1⟩ := ba o1
  obtain ⟨b11, b12⟩ := ba o1
  have g0 : mg "law" = some (.ref (ga K "law")) := PySem.W.mg_of KX Gn (eqO_ok b11)
  have efa : L.fA K fl = fa := by
    have : L.fA K fl = ga K "law" := by unfold LawD.fA; rw [List.getD_eq_getElem?_getD, hfl]; rfl
    rw [this]
    rw [g0] at hmg
    cases hmg; rfl
  have hdef : ∀ {f : Nat} {D : DD}, L.ds[f]? = some D → DefIn K D (L.fA K f) := fun {f D} hD => by
    have h1 := defsB_get b7 hD
    have h2 := defsO_get o2 hD
    rw [Nat.zero_add] at h1 h2
    exact defIn_of h2 h1
  obtain ⟨tb, htb, hlamF⟩ := lam_tab (P := P) (w := w) (mg := mg) (nm := nmOf L.g.nms) (L := L) hlam b10 b11 (own K KX "law" · · hrec)
  refine ⟨K, KX, L.cA K, L.fA K, nmOf L.g.nms, tb, efa, by rw [← efa]; exact hdef hD0, htb, fun base hTB cl => ?_⟩
  have nmg : ∀ i x, L.g.nms[i]? = some x → nmOf L.g.nms i = x := fun i x hx => nmOf_get hx
  have inj : ∀ i j, nmOf L.g.nms i = nmOf L.g.nms j → i = j := nmOf_inj S.nd fun x hx => of_decide_eq_true (List.all_eq_true.mp S.short x hx)
  have hgot : ∀ x cat, L.g.got.lookup x = some cat → GotOk (wdL P w K mg base (L.cA K) (L.fA K) (nmOf L.g.nms) (tb.map (·.2)) cl T L.g D0) cat x := fun x cat e => by
    rw [S.got] at e
    cases hg : L.gd with
    | none => rw [hg] at e; cases e
    | some gc =>
      obtain ⟨G, cat'⟩ := gc
      rw [hg] at e b9 o4
      have e := mem_of_lookup' e
      simp only [List.mem_singleton] at e
      obtain ⟨rfl, rfl⟩ := Prod.mk.inj e
      have q1 : fnW K (ga K G.dg.name) = defV G.dg [] := (List.cons.inj o4).1
      have q2 : fnW K (ga K G.df.name) = defV G.df [] := (List.cons.inj (List.cons.inj o4).2).1
      exact got_of (W := (wdL P w K mg base (L.cA K) (L.fA K) (nmOf L.g.nms) (tb.map (·.2)) cl T L.g D0)) KX Gn (S.gt _ _ hg) (fun k hk => nmOf_get (of_decide_eq_true (List.all_eq_true.mp S.ex k (List.mem_range.mpr hk)))) q1 q2 b9
  have top : TopOk (wdL P w K mg base (L.cA K) (L.fA K) (nmOf L.g.nms) (tb.map (·.2)) cl T L.g D0) T.ct L.g := by
    refine ⟨fun x v e => (conB_ok (all_look b2 e)).ok (W := (wdL P w K mg base (L.cA K) (L.fA K) (nmOf L.g.nms) (tb.map (·.2)) cl T L.g D0)) KX Gn, fun x f e => ?_, fun x hx => PySem.W.mg_none_of KX Gn (eqO_ok (List.all_eq_true.mp b4 x hx)), fun x k e => PySem.W.mg_of KX Gn (eqO_ok (all_look b5 e)), nmg, fun x ei e => ?_, hgot, fun x cat e => ?_, fun k l m f e1 e2 => stmB_ok (all_look (all_lookN b6 e1) e2), ?_, ?_, ?_, ?_⟩
    · obtain ⟨z1, z2⟩ := ba (all_look b3 e)
      exact ⟨PySem.W.mg_of KX Gn (eqO_ok z1), z2⟩
    · rw [S.exc] at e
      obtain ⟨p, hp, pe⟩ := List.mem_map.mp (mem_of_lookup' e)
      obtain ⟨y, ei', E⟩ := p
      obtain ⟨rfl, rfl⟩ := Prod.mk.inj pe
      obtain ⟨z1, z2, z3, z4, z5, z6⟩ := S.es.mem hp
      obtain ⟨y1, yy⟩ := ba (List.all_eq_true.mp b8 _ hp)
      obtain ⟨y2, y3⟩ := ba yy
      have y4 := map_get o3 hp
      rw [← S.file] at y2
      refine ⟨ma K (L.cA K ei'.c) "__init__", E.ps, E.fi, ?_, z2, z3, z4, z6, PySem.W.mg_of KX Gn (eqO_ok y1), PySem.W.mg_none_of KX Gn (eqO_ok y3)⟩
      show ExcOk P K (L.cA K ei'.c) (ma K (L.cA K ei'.c) "__init__") ei'.txt E.ps E.fi
      rw [show ei'.txt = E.txt from z5]
      exact excOk_of z1 S.sup y4 y2
    · rw [S.all] at e
      cases ha : L.al with
      | none => rw [ha] at e; cases e
      | some A =>
        rw [ha] at e o6 b12
        cases hg : L.gd with
        | none => rw [hg] at e; cases e
        | some gc =>
          obtain ⟨G, cat'⟩ := gc
          rw [hg] at e
          have e := mem_of_lookup' e
          simp only [List.mem_singleton] at e
          obtain ⟨rfl, rfl⟩ := Prod.mk.inj e
          exact all_of KX Gn (S.at_ _ _ _ ha hg) (List.cons.inj o6).1 b12 (hgot G.dg.name cat (by rw [S.got, hg]; simp))
    · rw [S.ct]; exact S.pats
    · rw [S.ct]; exact S.cpats
    · rw [S.ct, S.init]; exact fun _ _ e => e
    · rw [S.ct]; exact S.ko
  have hct : CTOk (wdL P w K mg base (L.cA K) (L.fA K) (nmOf L.g.nms) (tb.map (·.2)) cl T L.g D0) T.ct := by
    rw [S.ct]
    obtain ⟨d1, d2, d3, d4, d5⟩ := S.dn
    exact ctB_ok (W := (wdL P w K mg base (L.cA K) (L.fA K) (nmOf L.g.nms) (tb.map (·.2)) cl T L.g D0)) inj ⟨nmOf_get d1, nmOf_get d2, nmOf_get d3, nmOf_get d4, nmOf_get d5⟩ b1
  refine ⟨top, hct, fun oc od dV kV doc pm an cdv ct osl lk hl => ?_, fun f fd hf => ?_⟩
  · rw [← efa] at lk
    obtain ⟨hl1, hl2, hl3⟩ := hl0 hl
    exact hlamF base hTB fl D0 hl1 hl2 hl3 _ _ _ _ _ _ _ _ _ _ lk cl T L.g D0
  · obtain ⟨D, hD, st, hl⟩ := S.st f fd hf
    rw [← S.ct] at st
    refine ⟨D, st.fact (W := (wdL P w K mg base (L.cA K) (L.fA K) (nmOf L.g.nms) (tb.map (·.2)) cl T L.g D0)) (hdef hD) fun oc od dV kV doc pm an cdv ct osl lk z => ?_⟩
    obtain ⟨hl1, hl2, hl3⟩ := hl z
    exact hlamF base hTB f D hl1 hl2 hl3 _ _ _ _ _ _ _ _ _ _ lk cl T L.g D0
def patsOf (l : List (Nat × Pat)) (f : Nat) : List Pat := l.filterMap fun p => if p.1 = f then some p.2 else none
theorem pat_all {l : List (Nat × Pat)} {f : Nat} {Q : Pat → Prop} (h : AllP Q (patsOf l f)) : ∀ p, (f, p) ∈ l → Q p := fun p hp => h.mem (List.mem_filterMap.mpr ⟨(f, p), hp, by simp⟩)
end NT
set_option linter.all false
set_option maxRecDepth 100000
set_option autoImplicit false
namespace NT
open PySem
/-! ### comprehensions that only look -/
section
variable {α : Type} {C : Orc} {σ : Loc} {h : AHeap}
theorem lcL_mapf {F : AV → M (Option AV)} (f g : α → AV) : ∀ {xs : List α}, (∀ x ∈ xs, F (f x) h = .ok (some (g x)) h) → lcL F (xs.map f) h = .ok (xs.map g) h
  | [], _ => rfl
  | x :: xs, hf => by
    show M.bind _ _ h = _
    rw [bind_app, hf x List.mem_cons_self, bnd_ok, bind_app, lcL_mapf f g fun y hy => hf y (List.mem_cons_of_mem _ hy)]
    rfl
theorem lcL_filterf {F : AV → M (Option AV)} (f g : α → AV) (p : α → Bool) : ∀ {xs : List α}, (∀ x ∈ xs, F (f x) h = .ok (if p x = true then some (g x) else none) h) → lcL F (xs.map f) h = .ok ((xs.filter p).map g) h
  | [], _ => rfl
  | x :: xs, hf => by
    show M.bind _ _ h = _
    rw [bind_app, hf x List.mem_cons_self, bnd_ok, bind_app, lcL_filterf f g p fun y hy => hf y (List.mem_cons_of_mem _ hy)]
    cases hp : p x <;> simp [hp, consO] <;> rfl
/-- [elt for x in it] -/
theorem lc_map {is vs : List Nat} {it elt : E} (f g : α → AV) {xs : List α} (hi : evI C σ it h = .ok (xs.map f) h) (hl : xs.length ≤ line)
    (hf : ∀ x ∈ xs, (Out.bnd (bindT is (f x) (wipeL σ vs) h) fun σ2 => ev C σ2 elt) = .ok (g x) h) : ev C σ (.lc is vs it (.tv (.cst (.bl true))) elt) h = .ok (.lst (xs.map g)) h := by
  rw [ev_lc, hi, bnd_ok, bind_app]
  rw [lcL_mapf f g (xs := xs) (by
    intro x hx
    apply turn_app
    have e := hf x hx
    cases q : bindT is (f x) (wipeL σ vs) h with
    | ok σ2 h2 =>
      rw [q, bnd_ok] at e
      rw [bnd_ok, bind_app]
      show Out.bnd (.ok true h2) _ = _
      rw [bnd_ok, if_pos rfl, bind_app, e, bnd_ok]; rfl
    | exc _ _ _ _ => rw [q] at e; cases e
    | bad => rw [q] at e; cases e), bnd_ok]
  unfold ok1
  rw [decide_eq_true (by rw [List.length_map]; exact hl)]; rfl
/-- [elt for x in it if cond] -/
theorem lc_filter {is vs : List Nat} {it cond elt : E} (f g : α → AV) (p : α → Bool) {xs : List α} (hi : evI C σ it h = .ok (xs.map f) h) (hl : xs.length ≤ line)
    (hf : ∀ x ∈ xs, ∃ σ2, bindT is (f x) (wipeL σ vs) h = .ok σ2 h ∧ evT C σ2 cond h = .ok (p x) h ∧ ev C σ2 elt h = .ok (g x) h) : ev C σ (.lc is vs it cond elt) h = .ok (.lst ((xs.filter p).map g)) h := by
  rw [ev_lc, hi, bnd_ok, bind_app]
  rw [lcL_filterf f g p (xs := xs) (by
    intro x hx
    apply turn_app
    obtain ⟨σ2, e1, e2, e3⟩ := hf x hx
    rw [e1, bnd_ok, bind_app, e2, bnd_ok]
    cases p x with
    | true => rw [if_pos rfl, if_pos rfl, bind_app, e3, bnd_ok]; rfl
    | false => rw [if_neg (by decide), if_neg (by decide)]; rfl), bnd_ok]
  unfold ok1
  rw [decide_eq_true (by
    rw [List.length_map]
    exact Nat.le_trans (List.length_filter_le _ _) hl)]; rfl
theorem lt_map {is vs : List Nat} {elt : E} (f g : α → AV) {xs : List α} (hf : ∀ x ∈ xs, (Out.bnd (bindT is (f x) (wipeL σ vs) h) fun σ2 => ev C σ2 elt) = .ok (g x) h) : lcL (turn C σ is vs (.tv (.cst (.bl true))) elt) (xs.map f) h = .ok (xs.map g) h :=
  lcL_mapf f g (by
    intro x hx
    apply turn_app
    have e := hf x hx
    cases q : bindT is (f x) (wipeL σ vs) h with
    | ok σ2 h2 =>
      rw [q, bnd_ok] at e
      rw [bnd_ok, bind_app]
      show Out.bnd (.ok true h2) _ = _
      rw [bnd_ok, if_pos rfl, bind_app, e, bnd_ok]; rfl
    | exc _ _ _ _ => rw [q] at e; cases e
    | bad => rw [q] at e; cases e)
theorem lt_filter {is vs : List Nat} {cond elt : E} (f g : α → AV) (p : α → Bool) {xs : List α} (hf : ∀ x ∈ xs, ∃ σ2, bindT is (f x) (wipeL σ vs) h = .ok σ2 h ∧ evT C σ2 cond h = .ok (p x) h ∧ ev C σ2 elt h = .ok (g x) h) :
    lcL (turn C σ is vs cond elt) (xs.map f) h = .ok ((xs.filter p).map g) h :=
  lcL_filterf f g p (by
    intro x hx
    apply turn_app
    obtain ⟨σ2, e1, e2, e3⟩ := hf x hx
    rw [e1, bnd_ok, bind_app, e2, bnd_ok]
    cases p x with
    | true => rw [if_pos rfl, if_pos rfl, bind_app, e3, bnd_ok]; rfl
    | false => rw [if_neg (by decide), if_neg (by decide)]; rfl)
end
theorem allI_map : ∀ xs : List Int, allI (xs.map .int) = some xs
  | [] => rfl
  | x :: xs => by
    show (allI (xs.map .int)).map _ = _
    rw [allI_map xs]; rfl
theorem allB_map : ∀ xs : List Bool, allB (xs.map .bl) = some xs
  | [] => rfl
  | x :: xs => by
    show (allB (xs.map .bl)).map _ = _
    rw [allB_map xs]; rfl
variable (C : Orc)
theorem sumL (xs : List Int) (h : AHeap) : bltO C .sum [.lst (xs.map .int)] h = .ok (.int xs.sum) h := by
  show M.of ((allI (xs.map .int)).map _) h = _
  rw [allI_map]; rfl
theorem sumT (xs : List Int) (h : AHeap) : bltO C .sum [.tup (xs.map .int)] h = .ok (.int xs.sum) h := by
  show M.of ((allI (xs.map .int)).map _) h = _
  rw [allI_map]; rfl
theorem allB_true {α : Type} (xs : List α) : allB (xs.map fun _ => .bl true) = some (xs.map fun _ => true) := by
  have e : xs.map (fun _ => AV.bl true) = (xs.map fun _ => true).map .bl := by rw [List.map_map]; rfl
  rw [e, allB_map]
theorem all_true {α : Type} (xs : List α) : (xs.map fun _ => true).all id = true := by
  rw [List.all_eq_true]; intro b hb; obtain ⟨_, _, rfl⟩ := List.mem_map.1 hb; rfl
/-- a for that changes nothing but places -/
theorem for_inv {body : AV → Loc → M Flow} {h : AHeap} (Pv : Nat → Loc → Prop) : ∀ (xs : List AV) (k : Nat) (σ : Loc), (∀ i x σ, xs[i]? = some x → Pv (k + i) σ → ∃ σ', body x σ h = .ok (.nx σ') h ∧ Pv (k + i + 1) σ') → Pv k σ → ∃ σ', forL body xs σ h = .ok (.nx σ') h ∧ Pv (k + xs.length) σ'
  | [], k, σ, _, hp => ⟨σ, rfl, hp⟩
  | x :: xs, k, σ, hs, hp => by
    obtain ⟨σ1, e1, p1⟩ := hs 0 x σ rfl hp
    obtain ⟨σ2, e2, p2⟩ := for_inv Pv xs (k + 1) σ1 (fun i y σ hy hq => by
      have := hs (i + 1) y σ hy (by rw [show k + (i + 1) = k + 1 + i by omega]; exact hq)
      rw [show k + (i + 1) = k + 1 + i by omega] at this
      exact this) p1
    refine ⟨σ2, ?_, by rw [List.length_cons, show k + (xs.length + 1) = k + 1 + xs.length by omega]; exact p2⟩
    show M.bind (body x σ) _ h = _
    rw [bind_app, e1, bnd_ok]
    exact e2
/-- an item of a list of ints -/
theorem at_int {xs : List Int} {k : Nat} (hk : k < xs.length) : L2.atI (xs.map AV.int) (k : Int) = some (.int (xs.getD k 0)) := by
  have : xs.getD k 0 = xs[k] := by simp [List.getD, hk]
  rw [this]
  have e : L2.ixN (xs.map AV.int).length (k : Int) = some k := by
    unfold L2.ixN
    rw [List.length_map, if_pos (by omega), if_pos (by omega)]; simp
  unfold L2.atI
  rw [e]
  simp [hk]
/-! ### a list made beside the bag is handed out by value -/
theorem refBs_ints (n : Nat) : ∀ xs : List Int, refBs n (xs.map .int) = true
  | [] => rfl
  | x :: xs => by
    show (refB n (.int x) && refBs n (xs.map .int)) = true
    rw [refBs_ints n xs]; rfl
theorem refB_bag (n : Nat) (b : Bag) : refBO n (bagO b) = true := by
  show (refBs n (b.cs.map .int) && (true && (true && (true && true)))) = true
  rw [refBs_ints]; rfl
theorem exit_bagl {b0 b' : Bag} {hs : AHeap} {v : AV} {xs : List AV} (hv : ∀ R, frzA R v = some v) (hx : ∀ R, frzAs R xs = some xs) :
    exitO (bagO b0 :: hs) (.ok (.tup [v, .ref (hs.length + 1)]) (bagO b' :: (hs ++ [.lst xs]))) = .ok (.tup [v, .lst xs]) (bagO b' :: hs) := by
  have ne : ¬ (bagO b' :: (hs ++ [AObj.lst xs])).length = (bagO b0 :: hs).length := by simp
  have ok : OkOld (bagO b0 :: hs) (bagO b' :: (hs ++ [.lst xs])) := fun i o hi e => by
    cases i with
    | zero =>
      cases e
      exact .inr (refB_bag _ _)
    | succ i =>
      refine .inl ?_
      have hi' : i < hs.length := by simpa using hi
      rw [List.getElem?_cons_succ, List.getElem?_append_left hi'] at e
      rw [List.getElem?_cons_succ]; exact e
  have e1 : (bagO b' :: (hs ++ [AObj.lst xs]))[hs.length + 1]? = some (.lst xs) := by simp
  unfold exitO exitV
  simp only [if_neg ne, if_pos ok]
  have nl : ¬ (hs.length + 1 < (bagO b0 :: hs).length) := by simp
  have e2 : frzAs (frzR (bagO b0 :: hs).length (bagO b' :: (hs ++ [AObj.lst xs])) ((bagO b' :: (hs ++ [AObj.lst xs])).length + 1)) [.tup [v, .ref (hs.length + 1)]] = some [.tup [v, .lst xs]] := by
    simp only [frzAs, frzA, frzR, nl, if_false, e1, hv, hx, Option.map_some]
  rw [e2]
  simp
theorem turn_is {C : Orc} {σ : Loc} {i : Nat} {elt : E} {x v : AV} {h h' : AHeap} (e : ev C ((σ.set i none).set i (some x)) elt h = .ok v h') : turn C σ [i] [i] (.tv (.cst (.bl true))) elt x h = .ok (some v) h' := by
  apply turn_app
  show Out.bnd (Out.ok ((σ.set i none).set i (some x)) h) _ = _
  rw [bnd_ok, bind_app]
  show Out.bnd (.ok true h) _ = _
  rw [bnd_ok, if_pos rfl, bind_app, e, bnd_ok]; rfl
theorem lcL_some {F : AV → M (Option AV)} {x v : AV} {xs r : List AV} {h h1 h2 : AHeap} (e1 : F x h = .ok (some v) h1) (e2 : lcL F xs h1 = .ok r h2) : lcL F (x :: xs) h = .ok (v :: r) h2 := by
  show M.bind _ _ h = _
  rw [bind_app, e1, bnd_ok, bind_app, e2, bnd_ok]; rfl
theorem lst_beside (b : Bag) (hs : AHeap) (xs : List AV) : lstAt (bagO b :: (hs ++ [.lst xs])) (hs.length + 1) = some xs := by
  unfold lstAt
  rw [List.getElem?_cons_succ, List.getElem?_append_right (Nat.le_refl _), Nat.sub_self]; rfl
theorem set_beside (b : Bag) (hs : AHeap) (o o' : AObj) : (bagO b :: (hs ++ [o])).set (hs.length + 1) o' = bagO b :: (hs ++ [o']) := by
  rw [List.set_cons_succ, List.set_append_right _ _ (Nat.le_refl _), Nat.sub_self]; rfl
end NT
set_option linter.all false
set_option maxRecDepth 100000
set_option maxHeartbeats 0
namespace K72
open PySem PySem.Spec PyProof.Rows NT
def top (i : Nat) : Stmt := PySem.Challenge.pw_numbertypes_k72_whole_costs_of_nested_sc.main.body.getD i (.Pass ⟨0, 0, 0, 0⟩)
def sub (i j : Nat) : Stmt := match top i with | .ClassDef _ _ _ b _ _ _ _ _ _ _ => b.getD j (.Pass ⟨0, 0, 0, 0⟩) | _ => .Pass ⟨0, 0, 0, 0⟩
abbrev cat : List Nat := [1, 2, 3, 4, 5, 6]
abbrev f_law : Nat := 0
abbrev f__law_same : Nat := 1
abbrev f_cost : Nat := 2
abbrev f_depth_ones : Nat := 3
abbrev f_Scheme___init__ : Nat := 4
abbrev f__law_draw : Nat := 5
abbrev f__law_fan : Nat := 6
abbrev f__law_scheme : Nat := 7
abbrev f__law_bag : Nat := 8
abbrev f_role_adds : Nat := 9
abbrev f_in_bounds : Nat := 10
abbrev f_gcd : Nat := 11
abbrev f_power_rest : Nat := 12
abbrev f_measured : Nat := 13
abbrev f_numbers_of_layer : Nat := 14
abbrev f_is_product : Nat := 15
abbrev f__law_pick : Nat := 16
abbrev f_cost_of : Nat := 17
abbrev f_is_int : Nat := 18
abbrev f_common : Nat := 19
abbrev f_entries : Nat := 20
abbrev f_is_table : Nat := 21
abbrev f_is_list : Nat := 22
abbrev f_Scheme_adds : Nat := 23
abbrev f_Scheme_products : Nat := 24
abbrev f_Scheme_sizes : Nat := 25
abbrev f_Scheme_right_ones : Nat := 26
abbrev f_Scheme_table : Nat := 27
abbrev f_Scheme___eq__ : Nat := 28
abbrev f_Scheme___len__ : Nat := 29
abbrev f_Scheme___repr__ : Nat := 30
def ir_law : NT.S :=
    .seq (.asg 1 (.call f__law_bag (.cons (.var 0) (.nil))))
    (.seq (.for_ [2] (.rng (.cst (.int 0)) (.cst (.int 4))) (.seq (.unp [3, 4] (.call f__law_scheme (.cons (.var 1) (.cons (.cst (.int 3)) (.cons (.cst (.int 6)) (.nil))))))
    (.seq (.unp [5, 6] (.tup (.cons (.new 0 (.cons (.var 3) (.cons (.var 4) (.nil)))) (.cons (.call f__law_fan (.cons (.var 4) (.cons (.sub (.var 3) (.cst (.int 2))) (.nil)))) (.nil)))))
    (.seq (.asg 7 (.call f__law_draw (.cons (.var 1) (.cons (.cst (.int 61)) (.nil)))))
    (.seq (.unp [8, 9, 10] (.tup (.cons (.cst (.int 1)) (.cons (.cst (.int 0)) (.cons (.lst (.cons (.cst (.int 1)) (.cons (.cst (.int 1)) (.cons (.cst (.int 1)) (.nil))))) (.nil))))))
    (.seq (.for_ [11] (.rng (.cst (.int 0)) (.bin .Add (.var 7) (.cst (.int 1)))) (.seq (.ife (.and (.cmp .In (.var 11) (.lst (.cons (.cst (.int 0)) (.cons (.cst (.int 1)) (.cons (.cst (.int 2)) (.cons (.var 7) (.nil))))))) (.not (.tv (.call f__law_same (.cons (.call f_cost (.cons (.var 5) (.cons (.var 11) (.nil)))) (.cons (.tup (.cons (.var 8) (.cons (.var 9) (.nil)))) (.nil))))))) (.seq (.ret (.cst (.bl false)))
    (.skip)) (.skip))
    (.seq (.asg 9 (.bin .Add (.blt .sum (.cons (.lc [14] [14] (.rng (.cst (.int 0)) (.cst (.int 3))) (.tv (.cst (.bl true))) (.bin .Mult (.sub (.var 6) (.var 14)) (.sub (.var 10) (.var 14)))) (.nil))) (.bin .Mult (.blt .len (.cons (.var 4) (.nil))) (.var 9))))
    (.seq (.unp [8, 10] (.tup (.cons (.bin .Mult (.var 8) (.blt .len (.cons (.var 4) (.nil)))) (.cons (.lc [14] [14] (.rng (.cst (.int 0)) (.cst (.int 3))) (.tv (.cst (.bl true))) (.bin .Mult (.sub (.var 10) (.var 14)) (.sub (.var 3) (.var 14)))) (.nil)))))
    (.skip)))))
    (.seq (.ife (.not (.tv (.call f__law_same (.cons (.lst (.cons (.call f_cost (.cons (.var 5) (.cons (.cst (.int 1)) (.nil)))) (.cons (.attr (.var 5) 17) (.nil)))) (.cons (.lst (.cons (.tup (.cons (.blt .len (.cons (.var 4) (.nil))) (.cons (.blt .sum (.cons (.var 6) (.nil))) (.nil)))) (.cons (.blt .sum (.cons (.var 6) (.nil))) (.nil)))) (.nil)))))) (.seq (.ret (.cst (.bl false)))
    (.skip)) (.skip))
    (.skip))))))))
    (.seq (.asg 12 (.new 0 (.cons (.tup (.cons (.cst (.int 2)) (.cons (.cst (.int 2)) (.cons (.cst (.int 3)) (.nil))))) (.cons (.lst (.cons (.tup (.cons (.lst (.cons (.cst (.int 1)) (.cons (.cst (.int 0)) (.nil)))) (.cons (.lst (.cons (.cst (.int 1)) (.cons (.cst (.int 0)) (.nil)))) (.cons (.lst (.cons (.cst (.int 1)) (.cons (.neg (.cst (.int 1))) (.cons (.cst (.int 0)) (.nil))))) (.nil))))) (.cons (.tup (.cons (.lst (.cons (.cst (.int 0)) (.cons (.cst (.int 1)) (.nil)))) (.cons (.lst (.cons (.cst (.int 0)) (.cons (.cst (.int 1)) (.nil)))) (.cons (.lst (.cons (.cst (.int 0)) (.cons (.neg (.cst (.int 1))) (.cons (.cst (.int 1)) (.nil))))) (.nil))))) (.cons (.tup (.cons (.lst (.cons (.cst (.int 1)) (.cons (.cst (.int 1)) (.nil)))) (.cons (.lst (.cons (.cst (.int 1)) (.cons (.cst (.int 1)) (.nil)))) (.cons (.lst (.cons (.cst (.int 0)) (.cons (.cst (.int 1)) (.cons (.cst (.int 0)) (.nil))))) (.nil))))) (.nil))))) (.nil)))))
    (.seq (.asg 13 (.lst (.cons (.lst (.cons (.lst (.cons (.cst (.int 1)) (.cons (.cst (.int 0)) (.cons (.cst (.int 0)) (.nil))))) (.cons (.lst (.cons (.cst (.int 0)) (.cons (.cst (.int 1)) (.cons (.cst (.int 0)) (.nil))))) (.nil)))) (.cons (.lst (.cons (.lst (.cons (.cst (.int 0)) (.cons (.cst (.int 1)) (.cons (.cst (.int 0)) (.nil))))) (.cons (.lst (.cons (.cst (.int 0)) (.cons (.cst (.int 0)) (.cons (.cst (.int 1)) (.nil))))) (.nil)))) (.nil)))))
    (.seq (.ret (.call f__law_same (.cons (.lst (.cons (.meth (.var 12) 16 (.cons (.var 13) (.nil))) (.cons (.call f_depth_ones (.cons (.var 12) (.cons (.var 13) (.cons (.bin .Pow (.cst (.int 10)) (.cst (.int 30))) (.nil))))) (.cons (.call f_cost (.cons (.var 12) (.cons (.cst (.int 2)) (.nil)))) (.nil))))) (.cons (.lst (.cons (.cst (.int 0)) (.cons (.cst (.int 0)) (.cons (.tup (.cons (.cst (.int 9)) (.cons (.cst (.int 22)) (.nil)))) (.nil))))) (.nil)))))
    (.skip)))))
def ir__law_same : NT.S :=
    .seq (.ife (.tv (.blt .isinstance (.cons (.var 1) (.cons (.cst (.ty "list")) (.nil))))) (.seq (.ret (.and (.blt .isinstance (.cons (.var 0) (.cons (.cst (.ty "list")) (.nil)))) (.and (.cmp .Eq (.blt .len (.cons (.var 0) (.nil))) (.blt .len (.cons (.var 1) (.nil)))) (.blt .all (.cons (.lc [2, 3] [2, 3] (.zip (.var 0) (.var 1)) (.tv (.cst (.bl true))) (.call f__law_same (.cons (.var 2) (.cons (.var 3) (.nil))))) (.nil))))))
    (.skip)) (.skip))
    (.seq (.ife (.tv (.blt .isinstance (.cons (.var 1) (.cons (.cst (.ty "tuple")) (.nil))))) (.seq (.ret (.and (.blt .isinstance (.cons (.var 0) (.cons (.cst (.ty "tuple")) (.nil)))) (.and (.cmp .Eq (.blt .len (.cons (.var 0) (.nil))) (.blt .len (.cons (.var 1) (.nil)))) (.blt .all (.cons (.lc [2, 3] [2, 3] (.zip (.var 0) (.var 1)) (.tv (.cst (.bl true))) (.call f__law_same (.cons (.var 2) (.cons (.var 3) (.nil))))) (.nil))))))
    (.skip)) (.skip))
    (.seq (.ife (.or (.cmp .Is (.var 1) (.cst .non)) (.cmp .Is (.var 0) (.cst .non))) (.seq (.ret (.and (.cmp .Is (.var 1) (.cst .non)) (.cmp .Is (.var 0) (.cst .non))))
    (.skip)) (.skip))
    (.seq (.ife (.or (.tv (.blt .isinstance (.cons (.var 1) (.cons (.cst (.ty "bool")) (.nil))))) (.tv (.blt .isinstance (.cons (.var 0) (.cons (.cst (.ty "bool")) (.nil)))))) (.seq (.ret (.and (.blt .isinstance (.cons (.var 1) (.cons (.cst (.ty "bool")) (.nil)))) (.and (.blt .isinstance (.cons (.var 0) (.cons (.cst (.ty "bool")) (.nil)))) (.cmp .Eq (.var 0) (.var 1)))))
    (.skip)) (.skip))
    (.seq (.ife (.tv (.blt .isinstance (.cons (.var 1) (.cons (.cst (.ty "int")) (.nil))))) (.seq (.ret (.and (.blt .isinstance (.cons (.var 0) (.cons (.cst (.ty "int")) (.nil)))) (.cmp .Eq (.var 0) (.var 1))))
    (.skip)) (.skip))
    (.seq (.ret (.and (.blt .isinstance (.cons (.var 0) (.cons (.cst (.ty "str")) (.nil)))) (.and (.blt .isinstance (.cons (.var 1) (.cons (.cst (.ty "str")) (.nil)))) (.cmp .Eq (.var 0) (.var 1)))))
    (.skip))))))
def ir_cost : NT.S :=
    .seq (.ife (.not (.tv (.call f_in_bounds (.cons (.var 1) (.cons (.cst (.int 0)) (.cons (.cst (.int 60)) (.nil))))))) (.seq (.raise 1 1 [0, 1] "InvalidNumber" [0] (.cons (.var 1) (.nil)))
    (.skip)) (.skip))
    (.seq (.par [2, 3] (.cons (.call f_role_adds (.cons (.attr (.var 0) 18) (.cons (.attr (.var 0) 19) (.nil)))) (.cons (.lst (.cons (.cst (.int 1)) (.cons (.cst (.int 1)) (.cons (.cst (.int 1)) (.nil))))) (.nil))))
    (.seq (.unp [4, 5] (.tup (.cons (.cst (.int 1)) (.cons (.cst (.int 0)) (.nil)))))
    (.seq (.for_ [6] (.rng (.cst (.int 0)) (.var 1)) (.seq (.asg 5 (.bin .Add (.blt .sum (.cons (.lc [9, 7] [9, 7] (.zip (.var 2) (.var 3)) (.tv (.cst (.bl true))) (.bin .Mult (.var 9) (.var 7))) (.nil))) (.bin .Mult (.blt .len (.cons (.var 0) (.nil))) (.var 5))))
    (.seq (.asg 3 (.lc [7, 8] [7, 8] (.zip (.var 3) (.attr (.var 0) 18)) (.tv (.cst (.bl true))) (.bin .Mult (.var 7) (.var 8))))
    (.seq (.aug 4 .Mult (.blt .len (.cons (.var 0) (.nil))))
    (.skip)))))
    (.seq (.ret (.tup (.cons (.var 4) (.cons (.var 5) (.nil)))))
    (.skip)))))
def ir_depth_ones : NT.S :=
    .seq (.unp [3, 4] (.call f_measured (.cons (.call f_numbers_of_layer (.cons (.cst (.int 0)) (.cons (.var 0) (.cons (.var 1) (.nil))))) (.nil))))
    (.seq (.ife (.not (.tv (.call f_in_bounds (.cons (.var 2) (.cons (.cst (.int 1)) (.cons (.cst (.int 1000000000000000000000000000000)) (.nil))))))) (.seq (.raise 1 1 [0, 1] "InvalidNumber" [0] (.cons (.var 2) (.nil)))
    (.skip)) (.skip))
    (.seq (.ife (.cmp .Gt (.var 4) (.cst (.int 0))) (.seq (.ret (.call f_gcd (.cons (.var 4) (.cons (.bin .Sub (.call f_power_rest (.cons (.var 3) (.cons (.var 2) (.cons (.var 4) (.nil))))) (.cst (.int 1))) (.nil)))))
    (.skip)) (.skip))
    (.seq (.ife (.cmp .In (.var 3) (.tup (.cons (.cst (.int 0)) (.cons (.cst (.int 1)) (.nil))))) (.seq (.ret (.bin .Sub (.cst (.int 1)) (.var 3)))
    (.skip)) (.skip))
    (.seq (.ife (.cmp .Eq (.var 3) (.neg (.cst (.int 1)))) (.seq (.ret (.bin .Mult (.cst (.int 2)) (.bin .Mod (.blt .int (.cons (.var 2) (.nil))) (.cst (.int 2)))))
    (.skip)) (.skip))
    (.seq (.ife (.cmp .Gt (.var 2) (.cst (.int 200))) (.seq (.raise 2 1 [0, 5] "TooGreat" [0] (.cons (.cst (.int 200)) (.nil)))
    (.skip)) (.skip))
    (.seq (.asg 5 (.cst (.int 1)))
    (.seq (.for_ [6] (.rng (.cst (.int 0)) (.var 2)) (.seq (.aug 5 .Mult (.var 3))
    (.skip)))
    (.seq (.ret (.blt .abs (.cons (.bin .Sub (.var 5) (.cst (.int 1))) (.nil))))
    (.skip)))))))))
def ir_Scheme___init__ : NT.S :=
    .seq (.ife (.or (.not (.tv (.blt .isinstance (.cons (.var 1) (.cons (.cst (.ty "tuple")) (.nil)))))) (.cmp .NotEq (.blt .len (.cons (.var 1) (.nil))) (.cst (.int 3)))) (.seq (.raise 1 1 [0, 1] "InvalidNumber" [0] (.cons (.var 1) (.nil)))
    (.skip)) (.skip))
    (.seq (.for_ [3] (.itv (.var 1)) (.seq (.ife (.not (.tv (.call f_in_bounds (.cons (.var 3) (.cons (.cst (.int 1)) (.cons (.cst (.int 36)) (.nil))))))) (.seq (.raise 1 1 [0, 1] "InvalidNumber" [0] (.cons (.var 3) (.nil)))
    (.skip)) (.skip))
    (.skip)))
    (.seq (.ife (.cmp .Gt (.blt .len (.cons (.var 2) (.nil))) (.cst (.int 400))) (.seq (.raise 4 1 [0, 5] "TooMany" [0] (.cons (.cst (.int 400)) (.nil)))
    (.skip)) (.skip))
    (.seq (.for_ [4, 5] (.enm (.var 2)) (.seq (.ife (.not (.tv (.call f_is_product (.cons (.var 5) (.cons (.var 1) (.nil)))))) (.seq (.raise 3 1 [0, 2] "InvalidProduct" [0] (.cons (.var 4) (.nil)))
    (.skip)) (.skip))
    (.skip)))
    (.seq (.setFld (.var 0) 21 (.var 1))
    (.seq (.setFld (.var 0) 20 (.blt .tuple (.cons (.lc [5] [5] (.itv (.var 2)) (.tv (.cst (.bl true))) (.blt .tuple (.cons (.lc [6] [6] (.itv (.var 5)) (.tv (.cst (.bl true))) (.blt .tuple (.cons (.var 6) (.nil)))) (.nil)))) (.nil))))
    (.skip))))))
def ir__law_draw : NT.S :=
    .seq (.ife (.and (.cmp .Eq (.sub (.var 0) (.cst (.int 2))) (.cst (.int 0))) (.cmp .Lt (.sub (.var 0) (.cst (.int 1))) (.blt .len (.cons (.sub (.var 0) (.cst (.int 0))) (.nil))))) (.seq (.asg 2 (.sub (.sub (.var 0) (.cst (.int 0))) (.sub (.var 0) (.cst (.int 1)))))
    (.seq (.setSub (.var 0) (.cst (.int 1)) (.bin .Add (.sub (.var 0) (.cst (.int 1))) (.cst (.int 1))))
    (.seq (.ife (.cmp .GtE (.blt .abs (.cons (.var 2) (.nil))) (.bin .Pow (.cst (.int 10)) (.cst (.int 18)))) (.seq (.setSub (.var 0) (.cst (.int 2)) (.blt .abs (.cons (.var 2) (.nil))))
    (.skip)) (.seq (.setSub (.var 0) (.cst (.int 3)) (.bin .Mod (.blt .int (.cons (.bin .Add (.bin .Add (.bin .Mult (.sub (.var 0) (.cst (.int 3))) (.cst (.int 41177))) (.bin .Mult (.bin .Mod (.blt .int (.cons (.var 2) (.nil))) (.cst (.int 1000171))) (.cst (.int 907)))) (.cst (.int 59))) (.nil))) (.cst (.int 2147483563))))
    (.skip)))
    (.skip)))) (.skip))
    (.seq (.ife (.cmp .Gt (.sub (.var 0) (.cst (.int 2))) (.cst (.int 0))) (.seq (.asg 3 (.bin .Mod (.blt .int (.cons (.sub (.var 0) (.cst (.int 2))) (.nil))) (.var 1)))
    (.seq (.setSub (.var 0) (.cst (.int 2)) (.bin .FloorDiv (.sub (.var 0) (.cst (.int 2))) (.var 1)))
    (.seq (.ret (.var 3))
    (.skip)))) (.skip))
    (.seq (.setSub (.var 0) (.cst (.int 3)) (.bin .Mod (.blt .int (.cons (.bin .Add (.bin .Add (.bin .Mult (.bin .Mult (.sub (.var 0) (.cst (.int 3))) (.sub (.var 0) (.cst (.int 3)))) (.cst (.int 3))) (.bin .Mult (.sub (.var 0) (.cst (.int 3))) (.cst (.int 30089)))) (.cst (.int 1700047))) (.nil))) (.cst (.int 2147483579))))
    (.seq (.ret (.bin .Mod (.blt .int (.cons (.bin .FloorDiv (.sub (.var 0) (.cst (.int 3))) (.cst (.int 64))) (.nil))) (.var 1)))
    (.skip))))
def ir__law_fan : NT.S :=
    .seq (.asg 2 (.lc [4] [4] (.rng (.cst (.int 0)) (.cst (.int 2))) (.tv (.cst (.bl true))) (.lc [6] [6] (.itv (.var 0)) (.tv (.cst (.bl true))) (.blt .len (.cons (.lc [7] [7] (.itv (.sub (.var 6) (.var 4))) (.cmp .NotEq (.var 7) (.cst (.int 0))) (.var 7)) (.nil))))))
    (.seq (.asg 3 (.lc [4] [4] (.rng (.cst (.int 0)) (.var 1)) (.tv (.cst (.bl true))) (.blt .len (.cons (.lc [6] [6] (.itv (.var 0)) (.cmp .NotEq (.sub (.sub (.var 6) (.cst (.int 2))) (.var 4)) (.cst (.int 0))) (.var 6)) (.nil)))))
    (.seq (.ret (.lc [5] [5] (.itv (.bin .Add (.var 2) (.lst (.cons (.var 3) (.nil))))) (.tv (.cst (.bl true))) (.blt .sum (.cons (.lc [7] [7] (.itv (.var 5)) (.tv (.cst (.bl true))) (.blt .max (.cons (.bin .Sub (.var 7) (.cst (.int 1))) (.cons (.cst (.int 0)) (.nil))))) (.nil)))))
    (.skip)))
def ir__law_scheme : NT.S :=
    .seq (.asg 3 (.blt .tuple (.cons (.lc [5] [5] (.rng (.cst (.int 0)) (.cst (.int 3))) (.tv (.cst (.bl true))) (.bin .Add (.cst (.int 1)) (.call f__law_draw (.cons (.var 0) (.cons (.var 1) (.nil)))))) (.nil))))
    (.seq (.asg 4 (.mlst (.nil)))
    (.seq (.for_ [5] (.rng (.cst (.int 0)) (.call f__law_draw (.cons (.var 0) (.cons (.bin .Add (.var 2) (.cst (.int 1))) (.nil))))) (.seq (.expr (.bm .append (.var 4) (.cons (.blt .tuple (.cons (.lc [6] [6] (.itv (.var 3)) (.tv (.cst (.bl true))) (.lc [7] [7] (.rng (.cst (.int 0)) (.var 6)) (.tv (.cst (.bl true))) (.call f__law_pick (.cons (.var 0) (.cons (.lst (.cons (.cst (.int 0)) (.cons (.cst (.int 1)) (.cons (.cst (.int 1)) (.cons (.neg (.cst (.int 1))) (.cons (.cst (.int 2)) (.cons (.bin .Sub (.call f__law_draw (.cons (.var 0) (.cons (.cst (.int 19)) (.nil)))) (.cst (.int 9))) (.nil)))))))) (.nil)))))) (.nil))) (.nil))))
    (.skip)))
    (.seq (.ret (.tup (.cons (.var 3) (.cons (.var 4) (.nil)))))
    (.skip))))
def ir__law_bag : NT.S :=
    .seq (.asg 1 (.blt .list (.cons (.slcH (.var 0) (.cst (.int 63))) (.nil))))
    (.seq (.ret (.mlst (.cons (.var 1) (.cons (.cst (.int 0)) (.cons (.cst (.int 0)) (.cons (.bin .Add (.cst (.int 12024)) (.bin .Mult (.cst (.int 17)) (.blt .len (.cons (.var 1) (.nil))))) (.nil)))))))
    (.skip))
def ir_role_adds : NT.S :=
    .seq (.asg 2 (.blt .sum (.cons (.lc [5] [5] (.itv (.var 1)) (.tv (.cst (.bl true))) (.call f_cost_of (.cons (.sub (.var 5) (.cst (.int 0))) (.nil)))) (.nil))))
    (.seq (.asg 3 (.blt .sum (.cons (.lc [5] [5] (.itv (.var 1)) (.tv (.cst (.bl true))) (.call f_cost_of (.cons (.sub (.var 5) (.cst (.int 1))) (.nil)))) (.nil))))
    (.seq (.asg 4 (.blt .sum (.cons (.lc [6] [6] (.rng (.cst (.int 0)) (.sub (.var 0) (.cst (.int 2)))) (.tv (.cst (.bl true))) (.call f_cost_of (.cons (.lc [5] [5] (.itv (.var 1)) (.tv (.cst (.bl true))) (.sub (.sub (.var 5) (.cst (.int 2))) (.var 6))) (.nil)))) (.nil))))
    (.seq (.ret (.tup (.cons (.var 2) (.cons (.var 3) (.cons (.var 4) (.nil))))))
    (.skip))))
def ir_in_bounds : NT.S :=
    .seq (.ret (.and (.call f_is_int (.cons (.var 0) (.nil))) (.chn .LtE .LtE (.var 1) (.var 0) (.var 2))))
    (.skip)
def ir_gcd : NT.S :=
    .seq (.par [2, 3] (.cons (.blt .abs (.cons (.var 0) (.nil))) (.cons (.blt .abs (.cons (.var 1) (.nil))) (.nil))))
    (.seq (.whl (.cmp .Gt (.var 3) (.cst (.int 0))) (.seq (.par [2, 3] (.cons (.var 3) (.cons (.bin .Mod (.blt .int (.cons (.var 2) (.nil))) (.var 3)) (.nil))))
    (.skip)))
    (.seq (.ret (.var 2))
    (.skip)))
def ir_power_rest : NT.S :=
    .seq (.par [3, 4, 5] (.cons (.cst (.int 1)) (.cons (.bin .Mod (.blt .int (.cons (.var 0) (.nil))) (.var 2)) (.cons (.var 1) (.nil)))))
    (.seq (.whl (.cmp .Gt (.var 5) (.cst (.int 0))) (.seq (.ife (.cmp .Eq (.bin .Mod (.blt .int (.cons (.var 5) (.nil))) (.cst (.int 2))) (.cst (.int 1))) (.seq (.asg 3 (.bin .Mod (.blt .int (.cons (.bin .Mult (.var 3) (.var 4)) (.nil))) (.var 2)))
    (.skip)) (.skip))
    (.seq (.asg 4 (.bin .Mod (.blt .int (.cons (.bin .Mult (.var 4) (.var 4)) (.nil))) (.var 2)))
    (.seq (.aug 5 .FloorDiv (.cst (.int 2)))
    (.skip)))))
    (.seq (.ret (.bin .Mod (.blt .int (.cons (.var 3) (.nil))) (.var 2)))
    (.skip)))
def ir_measured : NT.S :=
    .seq (.unp [1, 2, 3] (.var 0))
    (.seq (.asg 4 (.lc [8, 9] [8, 9] (.enm (.var 3)) (.cmp .In (.var 9) (.tup (.cons (.cst (.int 1)) (.cons (.neg (.cst (.int 1))) (.nil))))) (.var 8)))
    (.seq (.ife (.cmp .Eq (.var 4) (.lst (.nil))) (.seq (.raise 5 1 [0, 2] "NoUnit" [0] (.cons (.var 1) (.nil)))
    (.skip)) (.skip))
    (.seq (.asg 5 (.sub (.var 4) (.cst (.int 0))))
    (.seq (.asg 6 (.bin .Mult (.sub (.var 2) (.var 5)) (.sub (.var 3) (.var 5))))
    (.seq (.asg 7 (.lc [10, 11] [10, 11] (.zip (.var 2) (.var 3)) (.tv (.cst (.bl true))) (.bin .Sub (.var 10) (.bin .Mult (.var 6) (.var 11)))))
    (.seq (.ret (.tup (.cons (.var 6) (.cons (.call f_common (.star (.var 7) (.nil))) (.nil)))))
    (.skip)))))))
def ir_numbers_of_layer : NT.S :=
    .seq (.ife (.not (.tv (.call f_is_table (.cons (.var 2) (.cons (.attr (.var 1) 18) (.nil)))))) (.seq (.raise 6 1 [0, 8] "InvalidTable" [0] (.cons (.cst (.str "form")) (.nil)))
    (.skip)) (.skip))
    (.seq (.ret (.tup (.cons (.var 0) (.cons (.call f_entries (.cons (.meth (.var 1) 22 (.nil)) (.nil))) (.cons (.call f_entries (.cons (.var 2) (.nil))) (.nil))))))
    (.skip))
def ir_is_product : NT.S :=
    .seq (.ife (.or (.not (.tv (.blt .isinstance (.cons (.var 0) (.cons (.cst (.ty "tuple")) (.nil)))))) (.cmp .NotEq (.blt .len (.cons (.var 0) (.nil))) (.cst (.int 3)))) (.seq (.ret (.cst (.bl false)))
    (.skip)) (.skip))
    (.seq (.for_ [2, 3] (.zip (.var 0) (.var 1)) (.seq (.ife (.or (.not (.tv (.call f_is_list (.cons (.var 2) (.nil))))) (.or (.cmp .NotEq (.blt .len (.cons (.var 2) (.nil))) (.var 3)) (.not (.tv (.blt .all (.cons (.lc [4] [4] (.itv (.var 2)) (.tv (.cst (.bl true))) (.call f_is_int (.cons (.var 4) (.nil)))) (.nil))))))) (.seq (.ret (.cst (.bl false)))
    (.skip)) (.skip))
    (.skip)))
    (.seq (.ret (.cst (.bl true)))
    (.skip)))
def ir__law_pick : NT.S :=
    .seq (.ret (.sub (.var 1) (.call f__law_draw (.cons (.var 0) (.cons (.blt .len (.cons (.var 1) (.nil))) (.nil))))))
    (.skip)
def ir_cost_of : NT.S :=
    .seq (.ret (.blt .max (.cons (.bin .Sub (.blt .len (.cons (.lc [1] [1] (.itv (.var 0)) (.cmp .NotEq (.var 1) (.cst (.int 0))) (.var 1)) (.nil))) (.cst (.int 1))) (.cons (.cst (.int 0)) (.nil)))))
    (.skip)
def ir_is_int : NT.S :=
    .seq (.ret (.and (.blt .isinstance (.cons (.var 0) (.cons (.cst (.ty "int")) (.nil)))) (.notv (.blt .isinstance (.cons (.var 0) (.cons (.cst (.ty "bool")) (.nil)))))))
    (.skip)
def ir_common : NT.S :=
    .seq (.asg 1 (.cst (.int 0)))
    (.seq (.for_ [2] (.itv (.var 0)) (.seq (.asg 1 (.call f_gcd (.cons (.var 1) (.cons (.var 2) (.nil)))))
    (.skip)))
    (.seq (.ret (.var 1))
    (.skip)))
def ir_entries : NT.S :=
    .seq (.ret (.lcg false [1] [1, 2, 3] (.itv (.var 0)) (.tv (.cst (.bl true))) (.gen [2] [2, 3] (.itv (.var 1)) (.tv (.cst (.bl true))) (.gen [3] [3] (.itv (.var 2)) (.tv (.cst (.bl true))) (.gel (.var 3))))))
    (.skip)
def ir_is_table : NT.S :=
    .seq (.ife (.or (.not (.tv (.call f_is_list (.cons (.var 0) (.nil))))) (.cmp .NotEq (.blt .len (.cons (.var 0) (.nil))) (.sub (.var 1) (.cst (.int 0))))) (.seq (.ret (.cst (.bl false)))
    (.skip)) (.skip))
    (.seq (.for_ [2] (.itv (.var 0)) (.seq (.ife (.or (.not (.tv (.call f_is_list (.cons (.var 2) (.nil))))) (.cmp .NotEq (.blt .len (.cons (.var 2) (.nil))) (.sub (.var 1) (.cst (.int 1))))) (.seq (.ret (.cst (.bl false)))
    (.skip)) (.skip))
    (.seq (.for_ [3] (.itv (.var 2)) (.seq (.ife (.or (.not (.tv (.call f_is_list (.cons (.var 3) (.nil))))) (.or (.cmp .NotEq (.blt .len (.cons (.var 3) (.nil))) (.sub (.var 1) (.cst (.int 2)))) (.not (.tv (.blt .all (.cons (.lc [4] [4] (.itv (.var 3)) (.tv (.cst (.bl true))) (.call f_is_int (.cons (.var 4) (.nil)))) (.nil))))))) (.seq (.ret (.cst (.bl false)))
    (.skip)) (.skip))
    (.skip)))
    (.skip))))
    (.seq (.ret (.cst (.bl true)))
    (.skip)))
def ir_is_list : NT.S :=
    .seq (.ret (.blt .isinstance (.cons (.var 0) (.cons (.tup (.cons (.cst (.ty "list")) (.cons (.cst (.ty "tuple")) (.nil)))) (.nil)))))
    (.skip)
def ir_Scheme_adds : NT.S :=
    .seq (.ret (.blt .sum (.cons (.call f_role_adds (.cons (.attr (.var 0) 21) (.cons (.attr (.var 0) 20) (.nil)))) (.nil))))
    (.skip)
def ir_Scheme_products : NT.S :=
    .seq (.ret (.attr (.var 0) 20))
    (.skip)
def ir_Scheme_sizes : NT.S :=
    .seq (.ret (.attr (.var 0) 21))
    (.skip)
def ir_Scheme_right_ones : NT.S :=
    .seq (.ife (.not (.tv (.call f_is_table (.cons (.var 1) (.cons (.attr (.var 0) 21) (.nil)))))) (.seq (.raise 6 1 [0, 8] "InvalidTable" [0] (.cons (.cst (.str "form")) (.nil)))
    (.skip)) (.skip))
    (.seq (.asg 2 (.lc [3, 4] [3, 4] (.zip (.call f_entries (.cons (.meth (.var 0) 22 (.nil)) (.nil))) (.call f_entries (.cons (.var 1) (.nil)))) (.tv (.cst (.bl true))) (.bin .Sub (.var 3) (.var 4))))
    (.seq (.ret (.call f_common (.star (.var 2) (.nil))))
    (.skip)))
def ir_Scheme_table : NT.S :=
    .seq (.unp [1, 2, 3] (.attr (.var 0) 21))
    (.seq (.asg 4 (.lc [10] [10] (.rng (.cst (.int 0)) (.var 1)) (.tv (.cst (.bl true))) (.lcg true [10] [10] (.rng (.cst (.int 0)) (.var 2)) (.tv (.cst (.bl true))) (.gel (.lrep (.cons (.cst (.int 0)) (.nil)) (.var 3))))))
    (.seq (.for_ [5, 6, 7] (.itv (.attr (.var 0) 20)) (.seq (.for_ [8] (.rng (.cst (.int 0)) (.var 1)) (.seq (.for_ [9] (.rng (.cst (.int 0)) (.var 2)) (.seq (.ife (.cmp .NotEq (.bin .Mult (.sub (.var 5) (.var 8)) (.sub (.var 6) (.var 9))) (.cst (.int 0))) (.seq (.setSub (.sub (.var 4) (.var 8)) (.var 9) (.lc [11, 12] [11, 12] (.zip (.sub (.sub (.var 4) (.var 8)) (.var 9)) (.var 7)) (.tv (.cst (.bl true))) (.bin .Add (.var 11) (.bin .Mult (.bin .Mult (.sub (.var 5) (.var 8)) (.sub (.var 6) (.var 9))) (.var 12)))))
    (.skip)) (.skip))
    (.skip)))
    (.skip)))
    (.skip)))
    (.seq (.ret (.var 4))
    (.skip))))
def ir_Scheme___eq__ : NT.S :=
    .seq (.ret (.and (.blt .isinstance (.cons (.var 1) (.cons (.cst (.cls 0)) (.nil)))) (.and (.cmp .Eq (.attr (.var 0) 21) (.attr (.var 1) 21)) (.cmp .Eq (.attr (.var 0) 20) (.attr (.var 1) 20)))))
    (.skip)
def ir_Scheme___len__ : NT.S :=
    .seq (.ret (.blt .len (.cons (.attr (.var 0) 20) (.nil))))
    (.skip)
def ir_Scheme___repr__ : NT.S :=
    .seq (.unp [1, 2, 3] (.attr (.var 0) 21))
    (.seq (.ret (.fst (.cons (.cst (.str "Scheme(")) (.cons (.fmt (.var 1)) (.cons (.cst (.str " x ")) (.cons (.fmt (.var 2)) (.cons (.cst (.str " x ")) (.cons (.fmt (.var 3)) (.cons (.cst (.str ", ")) (.cons (.fmt (.blt .len (.cons (.attr (.var 0) 20) (.nil)))) (.cons (.cst (.str " products)")) (.nil))))))))))))
    (.skip))
def fd_law : FD := ⟨1, false, 15, ir_law, true⟩
def dd_law : DD := ⟨top 48, "law", "law", ["_law_script", "_law_bag_here", "_law_turn", "_law_sizes", "_law_rows", "_law_scheme_here", "_law_fan_here", "_law_deep", "_law_many", "_law_adds_due", "_law_spread", "_law_n", "_law_strong", "_law_wished", "_law_k"], ["_law_script"], [], false, [], false⟩
def fd__law_same : FD := ⟨2, false, 4, ir__law_same, true⟩
def dd__law_same : DD := ⟨top 45, "_law_same", "_law_same", ["_law_found", "_law_due", "_law_a", "_law_b"], ["_law_found", "_law_due"], [], false, [], false⟩
def fd_cost : FD := ⟨2, false, 10, ir_cost, true⟩
def dd_cost : DD := ⟨top 40, "cost", "cost", ["scheme", "depth", "adds", "sizes", "products", "total", "_", "size", "more", "a"], ["scheme", "depth"], [], false, [], false⟩
def fd_depth_ones : FD := ⟨3, false, 7, ir_depth_ones, true⟩
def dd_depth_ones : DD := ⟨top 39, "depth_ones", "depth_ones", ["scheme", "table", "depth", "scale", "part", "found", "_"], ["scheme", "table", "depth"], [], false, [], false⟩
def fd_Scheme___init__ : FD := ⟨3, false, 7, ir_Scheme___init__, true⟩
def dd_Scheme___init__ : DD := ⟨sub 26 0, "__init__", "Scheme.__init__", ["self", "sizes", "products", "size", "at", "product", "row"], ["self", "sizes", "products"], [], false, [], false⟩
def fd__law_draw : FD := ⟨2, false, 4, ir__law_draw, true⟩
def dd__law_draw : DD := ⟨top 43, "_law_draw", "_law_draw", ["_law_bag_here", "_law_many", "_law_cell", "_law_got"], ["_law_bag_here", "_law_many"], [], false, [], false⟩
def fd__law_fan : FD := ⟨2, false, 8, ir__law_fan, true⟩
def dd__law_fan : DD := ⟨top 47, "_law_fan", "_law_fan", ["_law_rows", "_law_size", "_law_parts", "_law_late", "_law_k", "_law_some", "_law_row", "_law_number"], ["_law_rows", "_law_size"], [], false, [], false⟩
def fd__law_scheme : FD := ⟨3, false, 8, ir__law_scheme, true⟩
def dd__law_scheme : DD := ⟨top 46, "_law_scheme", "_law_scheme", ["_law_bag_here", "_law_most", "_law_long", "_law_sizes", "_law_rows", "_law_k", "_law_size", "_law_j"], ["_law_bag_here", "_law_most", "_law_long"], [], false, [], false⟩
def fd__law_bag : FD := ⟨1, false, 2, ir__law_bag, false⟩
def dd__law_bag : DD := ⟨top 42, "_law_bag", "_law_bag", ["_law_script", "_law_cells"], ["_law_script"], [], false, [], false⟩
def fd_role_adds : FD := ⟨2, false, 7, ir_role_adds, true⟩
def dd_role_adds : DD := ⟨top 27, "role_adds", "role_adds", ["sizes", "products", "left", "right", "result", "product", "k"], ["sizes", "products"], [], false, [], false⟩
def fd_in_bounds : FD := ⟨3, false, 3, ir_in_bounds, true⟩
def dd_in_bounds : DD := ⟨top 13, "in_bounds", "in_bounds", ["value", "least", "most"], ["value", "least", "most"], [], false, [], false⟩
def fd_gcd : FD := ⟨2, false, 4, ir_gcd, true⟩
def dd_gcd : DD := ⟨top 14, "gcd", "gcd", ["a", "b", "left", "right"], ["a", "b"], [], false, [], false⟩
def fd_power_rest : FD := ⟨3, false, 6, ir_power_rest, true⟩
def dd_power_rest : DD := ⟨top 38, "power_rest", "power_rest", ["number", "exponent", "modulus", "found", "base", "rest"], ["number", "exponent", "modulus"], [], false, [], false⟩
def fd_measured : FD := ⟨1, false, 12, ir_measured, true⟩
def dd_measured : DD := ⟨top 37, "measured", "measured", ["layer", "at", "computed", "wished", "units", "first", "scale", "numbers", "k", "number", "a", "b"], ["layer"], [], false, [], false⟩
def fd_numbers_of_layer : FD := ⟨3, false, 3, ir_numbers_of_layer, true⟩
def dd_numbers_of_layer : DD := ⟨top 36, "numbers_of_layer", "numbers_of_layer", ["at", "scheme", "table"], ["at", "scheme", "table"], [], false, [], false⟩
def fd_is_product : FD := ⟨2, false, 5, ir_is_product, true⟩
def dd_is_product : DD := ⟨top 22, "is_product", "is_product", ["value", "sizes", "row", "size", "number"], ["value", "sizes"], [], false, [], false⟩
def fd__law_pick : FD := ⟨2, false, 2, ir__law_pick, true⟩
def dd__law_pick : DD := ⟨top 44, "_law_pick", "_law_pick", ["_law_bag_here", "_law_some"], ["_law_bag_here", "_law_some"], [], false, [], false⟩
def fd_cost_of : FD := ⟨1, false, 2, ir_cost_of, true⟩
def dd_cost_of : DD := ⟨top 25, "cost_of", "cost_of", ["numbers", "number"], ["numbers"], [], false, [], false⟩
def fd_is_int : FD := ⟨1, false, 1, ir_is_int, true⟩
def dd_is_int : DD := ⟨top 11, "is_int", "is_int", ["value"], ["value"], [], false, [], false⟩
def fd_common : FD := ⟨0, true, 3, ir_common, true⟩
def dd_common : DD := ⟨top 15, "common", "common", ["numbers", "found", "number"], ["numbers"], [], false, [], false⟩
def fd_entries : FD := ⟨1, false, 4, ir_entries, true⟩
def dd_entries : DD := ⟨top 24, "entries", "entries", ["table", "layer", "row", "number"], ["table"], [], false, [], false⟩
def fd_is_table : FD := ⟨2, false, 5, ir_is_table, true⟩
def dd_is_table : DD := ⟨top 23, "is_table", "is_table", ["value", "sizes", "layer", "row", "number"], ["value", "sizes"], [], false, [], false⟩
def fd_is_list : FD := ⟨1, false, 1, ir_is_list, true⟩
def dd_is_list : DD := ⟨top 12, "is_list", "is_list", ["value"], ["value"], [], false, [], false⟩
def fd_Scheme_adds : FD := ⟨1, false, 1, ir_Scheme_adds, true⟩
def dd_Scheme_adds : DD := ⟨sub 26 4, "adds", "Scheme.adds", ["self"], ["self"], [], false, [], false⟩
def fd_Scheme_products : FD := ⟨1, false, 1, ir_Scheme_products, true⟩
def dd_Scheme_products : DD := ⟨sub 26 3, "products", "Scheme.products", ["self"], ["self"], [], false, [], false⟩
def fd_Scheme_sizes : FD := ⟨1, false, 1, ir_Scheme_sizes, true⟩
def dd_Scheme_sizes : DD := ⟨sub 26 2, "sizes", "Scheme.sizes", ["self"], ["self"], [], false, [], false⟩
def fd_Scheme_right_ones : FD := ⟨2, false, 5, ir_Scheme_right_ones, true⟩
def dd_Scheme_right_ones : DD := ⟨sub 26 11, "right_ones", "Scheme.right_ones", ["self", "table", "numbers", "a", "b"], ["self", "table"], [], false, [], false⟩
def fd_Scheme_table : FD := ⟨1, false, 13, ir_Scheme_table, true⟩
def dd_Scheme_table : DD := ⟨sub 26 8, "table", "Scheme.table", ["self", "left", "right", "result", "found", "u", "v", "w", "i", "j", "_", "a", "b"], ["self"], [], false, [], false⟩
def fd_Scheme___eq__ : FD := ⟨2, false, 2, ir_Scheme___eq__, true⟩
def dd_Scheme___eq__ : DD := ⟨sub 26 6, "__eq__", "Scheme.__eq__", ["self", "other"], ["self", "other"], [], false, [], false⟩
def fd_Scheme___len__ : FD := ⟨1, false, 1, ir_Scheme___len__, true⟩
def dd_Scheme___len__ : DD := ⟨sub 26 5, "__len__", "Scheme.__len__", ["self"], ["self"], [], false, [], false⟩
def fd_Scheme___repr__ : FD := ⟨1, false, 4, ir_Scheme___repr__, true⟩
def dd_Scheme___repr__ : DD := ⟨sub 26 7, "__repr__", "Scheme.__repr__", ["self", "left", "right", "result"], ["self"], [], false, [], false⟩
def ct : CT := ⟨[(17, [(0, .prop f_Scheme_adds)]), (18, [(0, .prop f_Scheme_sizes)]), (19, [(0, .prop f_Scheme_products)]), (20, [(0, .fld)]), (21, [(0, .fld)])], [(11, [(0, f_Scheme___eq__)]), (12, [(0, f_Scheme___len__)]), (14, [(0, f_Scheme___repr__)]), (16, [(0, f_Scheme_right_ones)]), (22, [(0, f_Scheme_table)])], [(0, f_Scheme___init__)], [(0, [0])], [], []⟩
def lams : List E := []
def tab : Tab := ⟨[fd_law, fd__law_same, fd_cost, fd_depth_ones, fd_Scheme___init__, fd__law_draw, fd__law_fan, fd__law_scheme, fd__law_bag, fd_role_adds, fd_in_bounds, fd_gcd, fd_power_rest, fd_measured, fd_numbers_of_layer, fd_is_product, fd__law_pick, fd_cost_of, fd_is_int, fd_common, fd_entries, fd_is_table, fd_is_list, fd_Scheme_adds, fd_Scheme_products, fd_Scheme_sizes, fd_Scheme_right_ones, fd_Scheme_table, fd_Scheme___eq__, fd_Scheme___len__, fd_Scheme___repr__], ct, lams⟩
def gc : GCtx where
  cons := [("MOST_SIZE", (.int 36 : AV)), ("MOST_PRODUCTS", (.int 400 : AV)), ("MOST_DEPTH", (.int 1000000000000000000000000000000 : AV)), ("MOST_POWER", (.int 200 : AV)), ("MOST_COST", (.int 60 : AV))]
  fns := [("law", 0), ("_law_same", 1), ("cost", 2), ("depth_ones", 3), ("_law_draw", 5), ("_law_fan", 6), ("_law_scheme", 7), ("_law_bag", 8), ("role_adds", 9), ("in_bounds", 10), ("gcd", 11), ("power_rest", 12), ("measured", 13), ("numbers_of_layer", 14), ("is_product", 15), ("_law_pick", 16), ("cost_of", 17), ("is_int", 18), ("common", 19), ("entries", 20), ("is_table", 21), ("is_list", 22)]
  cls := [("Scheme", 0)]
  free := ["range", "sum", "len", "isinstance", "str", "int", "bool", "tuple", "all", "zip", "list", "abs", "enumerate", "max"]
  mu := [(146, 17), (262, 11), (293, 16)]
  exc := [("InvalidNumber", ⟨1, 1, [0, 1], "InvalidNumber", [0]⟩), ("TooGreat", ⟨2, 1, [0, 5], "TooGreat", [0]⟩), ("InvalidProduct", ⟨3, 1, [0, 2], "InvalidProduct", [0]⟩), ("TooMany", ⟨4, 1, [0, 5], "TooMany", [0]⟩), ("NoUnit", ⟨5, 1, [0, 2], "NoUnit", [0]⟩), ("InvalidTable", ⟨6, 1, [0, 8], "InvalidTable", [0]⟩)]
  got := []
  nms := ["code", "given", "at", "number", "name", "most", "procedure", "part", "rule", "line", "__hash__", "__eq__", "__len__", "__bool__", "__repr__", "__contains__", "right_ones", "adds", "sizes", "products", "_products", "_sizes", "table"]
  stat := []
  pats := []
  cpats := []
  init := [(0, f_Scheme___init__)]
  ko := []
  pur := []
  lamN := []
  all := []
def ed_InvalidNumber : ED := ⟨"InvalidNumber", sub 3 0, "InvalidNumber.__init__", "InvalidNumber", ["given"], [("given", 0)]⟩
def ed_TooGreat : ED := ⟨"TooGreat", sub 9 0, "TooGreat.__init__", "TooGreat", ["most"], [("most", 0)]⟩
def ed_InvalidProduct : ED := ⟨"InvalidProduct", sub 5 0, "InvalidProduct.__init__", "InvalidProduct", ["at"], [("at", 0)]⟩
def ed_TooMany : ED := ⟨"TooMany", sub 8 0, "TooMany.__init__", "TooMany", ["most"], [("most", 0)]⟩
def ed_NoUnit : ED := ⟨"NoUnit", sub 7 0, "NoUnit.__init__", "NoUnit", ["at"], [("at", 0)]⟩
def ed_InvalidTable : ED := ⟨"InvalidTable", sub 4 0, "InvalidTable.__init__", "InvalidTable", ["rule"], [("rule", 0)]⟩
def L : LawD where
  ct := ct
  g := gc
  clsN := ["Scheme", "InvalidNumber", "TooGreat", "InvalidProduct", "TooMany", "NoUnit", "InvalidTable"]
  fp := [.top "law", .top "_law_same", .top "cost", .top "depth_ones", .me "Scheme" "__init__", .top "_law_draw", .top "_law_fan", .top "_law_scheme", .top "_law_bag", .top "role_adds", .top "in_bounds", .top "gcd", .top "power_rest", .top "measured", .top "numbers_of_layer", .top "is_product", .top "_law_pick", .top "cost_of", .top "is_int", .top "common", .top "entries", .top "is_table", .top "is_list", .pr "Scheme" "adds", .pr "Scheme" "products", .pr "Scheme" "sizes", .me "Scheme" "right_ones", .me "Scheme" "table", .me "Scheme" "__eq__", .me "Scheme" "__len__", .me "Scheme" "__repr__"]
  ds := [dd_law, dd__law_same, dd_cost, dd_depth_ones, dd_Scheme___init__, dd__law_draw, dd__law_fan, dd__law_scheme, dd__law_bag, dd_role_adds, dd_in_bounds, dd_gcd, dd_power_rest, dd_measured, dd_numbers_of_layer, dd_is_product, dd__law_pick, dd_cost_of, dd_is_int, dd_common, dd_entries, dd_is_table, dd_is_list, dd_Scheme_adds, dd_Scheme_products, dd_Scheme_sizes, dd_Scheme_right_ones, dd_Scheme_table, dd_Scheme___eq__, dd_Scheme___len__, dd_Scheme___repr__]
  eds := [("InvalidNumber", ⟨1, 1, [0, 1], "InvalidNumber", [0]⟩, ed_InvalidNumber), ("TooGreat", ⟨2, 1, [0, 5], "TooGreat", [0]⟩, ed_TooGreat), ("InvalidProduct", ⟨3, 1, [0, 2], "InvalidProduct", [0]⟩, ed_InvalidProduct), ("TooMany", ⟨4, 1, [0, 5], "TooMany", [0]⟩, ed_TooMany), ("NoUnit", ⟨5, 1, [0, 2], "NoUnit", [0]⟩, ed_NoUnit), ("InvalidTable", ⟨6, 1, [0, 8], "InvalidTable", [0]⟩, ed_InvalidTable)]
  gd := none
  al := none
  lam := none
  file := PySem.Challenge.pw_numbertypes_k72_whole_costs_of_nested_sc.main.file
theorem st_law : Stat ct gc 0 fd_law dd_law := ⟨⟨rfl, rfl, rfl, by decide +kernel, rfl, by decide +kernel, by decide +kernel⟩, rfl, rfl, ⟨60, by kernel_rfl⟩, (show dd_law.kwd = [] → PosOk dd_law from fun _ => ⟨fun _ _ _ _ _ _ _ us hl => match us, hl with | [_], _ => rfl, fun h => absurd rfl h⟩), fun h => absurd rfl h, pat_all (show True from trivial), fun h => absurd h (by decide)⟩
theorem st__law_same : Stat ct gc 1 fd__law_same dd__law_same := ⟨⟨rfl, rfl, rfl, by decide +kernel, rfl, by decide +kernel, by decide +kernel⟩, rfl, rfl, ⟨60, by kernel_rfl⟩, (show dd__law_same.kwd = [] → PosOk dd__law_same from fun _ => ⟨fun _ _ _ _ _ _ _ us hl => match us, hl with | [_, _], _ => rfl, fun h => absurd rfl h⟩), fun h => absurd rfl h, pat_all (show True from trivial), fun h => absurd h (by decide)⟩
theorem st_cost : Stat ct gc 2 fd_cost dd_cost := ⟨⟨rfl, rfl, rfl, by decide +kernel, rfl, by decide +kernel, by decide +kernel⟩, rfl, rfl, ⟨60, by kernel_rfl⟩, (show dd_cost.kwd = [] → PosOk dd_cost from fun _ => ⟨fun _ _ _ _ _ _ _ us hl => match us, hl with | [_, _], _ => rfl, fun h => absurd rfl h⟩), fun h => absurd rfl h, pat_all (show True from trivial), fun h => absurd h (by decide)⟩
theorem st_depth_ones : Stat ct gc 3 fd_depth_ones dd_depth_ones := ⟨⟨rfl, rfl, rfl, by decide +kernel, rfl, by decide +kernel, by decide +kernel⟩, rfl, rfl, ⟨60, by kernel_rfl⟩, (show dd_depth_ones.kwd = [] → PosOk dd_depth_ones from fun _ => ⟨fun _ _ _ _ _ _ _ us hl => match us, hl with | [_, _, _], _ => rfl, fun h => absurd rfl h⟩), fun h => absurd rfl h, pat_all (show True from trivial), fun h => absurd h (by decide)⟩
theorem st_Scheme___init__ : Stat ct gc 4 fd_Scheme___init__ dd_Scheme___init__ := ⟨⟨rfl, rfl, rfl, by decide +kernel, rfl, by decide +kernel, by decide +kernel⟩, rfl, rfl, ⟨60, by kernel_rfl⟩, (show dd_Scheme___init__.kwd = [] → PosOk dd_Scheme___init__ from fun _ => ⟨fun _ _ _ _ _ _ _ us hl => match us, hl with | [_, _, _], _ => rfl, fun h => absurd rfl h⟩), fun h => absurd rfl h, pat_all (show True from trivial), fun h => absurd h (by decide)⟩
theorem st__law_draw : Stat ct gc 5 fd__law_draw dd__law_draw := ⟨⟨rfl, rfl, rfl, by decide +kernel, rfl, by decide +kernel, by decide +kernel⟩, rfl, rfl, ⟨60, by kernel_rfl⟩, (show dd__law_draw.kwd = [] → PosOk dd__law_draw from fun _ => ⟨fun _ _ _ _ _ _ _ us hl => match us, hl with | [_, _], _ => rfl, fun h => absurd rfl h⟩), fun h => absurd rfl h, pat_all (show True from trivial), fun h => absurd h (by decide)⟩
theorem st__law_fan : Stat ct gc 6 fd__law_fan dd__law_fan := ⟨⟨rfl, rfl, rfl, by decide +kernel, rfl, by decide +kernel, by decide +kernel⟩, rfl, rfl, ⟨60, by kernel_rfl⟩, (show dd__law_fan.kwd = [] → PosOk dd__law_fan from fun _ => ⟨fun _ _ _ _ _ _ _ us hl => match us, hl with | [_, _], _ => rfl, fun h => absurd rfl h⟩), fun h => absurd rfl h, pat_all (show True from trivial), fun h => absurd h (by decide)⟩
theorem st__law_scheme : Stat ct gc 7 fd__law_scheme dd__law_scheme := ⟨⟨rfl, rfl, rfl, by decide +kernel, rfl, by decide +kernel, by decide +kernel⟩, rfl, rfl, ⟨60, by kernel_rfl⟩, (show dd__law_scheme.kwd = [] → PosOk dd__law_scheme from fun _ => ⟨fun _ _ _ _ _ _ _ us hl => match us, hl with | [_, _, _], _ => rfl, fun h => absurd rfl h⟩), fun h => absurd rfl h, pat_all (show True from trivial), fun h => absurd h (by decide)⟩
theorem st__law_bag : Stat ct gc 8 fd__law_bag dd__law_bag := ⟨⟨rfl, rfl, rfl, by decide +kernel, rfl, by decide +kernel, by decide +kernel⟩, rfl, rfl, ⟨60, by kernel_rfl⟩, (show dd__law_bag.kwd = [] → PosOk dd__law_bag from fun _ => ⟨fun _ _ _ _ _ _ _ us hl => match us, hl with | [_], _ => rfl, fun h => absurd rfl h⟩), fun h => absurd rfl h, pat_all (show True from trivial), fun h => absurd h (by decide)⟩
theorem st_role_adds : Stat ct gc 9 fd_role_adds dd_role_adds := ⟨⟨rfl, rfl, rfl, by decide +kernel, rfl, by decide +kernel, by decide +kernel⟩, rfl, rfl, ⟨60, by kernel_rfl⟩, (show dd_role_adds.kwd = [] → PosOk dd_role_adds from fun _ => ⟨fun _ _ _ _ _ _ _ us hl => match us, hl with | [_, _], _ => rfl, fun h => absurd rfl h⟩), fun h => absurd rfl h, pat_all (show True from trivial), fun h => absurd h (by decide)⟩
theorem st_in_bounds : Stat ct gc 10 fd_in_bounds dd_in_bounds := ⟨⟨rfl, rfl, rfl, by decide +kernel, rfl, by decide +kernel, by decide +kernel⟩, rfl, rfl, ⟨60, by kernel_rfl⟩, (show dd_in_bounds.kwd = [] → PosOk dd_in_bounds from fun _ => ⟨fun _ _ _ _ _ _ _ us hl => match us, hl with | [_, _, _], _ => rfl, fun h => absurd rfl h⟩), fun h => absurd rfl h, pat_all (show True from trivial), fun h => absurd h (by decide)⟩
theorem st_gcd : Stat ct gc 11 fd_gcd dd_gcd := ⟨⟨rfl, rfl, rfl, by decide +kernel, rfl, by decide +kernel, by decide +kernel⟩, rfl, rfl, ⟨60, by kernel_rfl⟩, (show dd_gcd.kwd = [] → PosOk dd_gcd from fun _ => ⟨fun _ _ _ _ _ _ _ us hl => match us, hl with | [_, _], _ => rfl, fun h => absurd rfl h⟩), fun h => absurd rfl h, pat_all (show True from trivial), fun h => absurd h (by decide)⟩
theorem st_power_rest : Stat ct gc 12 fd_power_rest dd_power_rest := ⟨⟨rfl, rfl, rfl, by decide +kernel, rfl, by decide +kernel, by decide +kernel⟩, rfl, rfl, ⟨60, by kernel_rfl⟩, (show dd_power_rest.kwd = [] → PosOk dd_power_rest from fun _ => ⟨fun _ _ _ _ _ _ _ us hl => match us, hl with | [_, _, _], _ => rfl, fun h => absurd rfl h⟩), fun h => absurd rfl h, pat_all (show True from trivial), fun h => absurd h (by decide)⟩
theorem st_measured : Stat ct gc 13 fd_measured dd_measured := ⟨⟨rfl, rfl, rfl, by decide +kernel, rfl, by decide +kernel, by decide +kernel⟩, rfl, rfl, ⟨60, by kernel_rfl⟩, (show dd_measured.kwd = [] → PosOk dd_measured from fun _ => ⟨fun _ _ _ _ _ _ _ us hl => match us, hl with | [_], _ => rfl, fun h => absurd rfl h⟩), fun h => absurd rfl h, pat_all (show True from trivial), fun h => absurd h (by decide)⟩
theorem st_numbers_of_layer : Stat ct gc 14 fd_numbers_of_layer dd_numbers_of_layer := ⟨⟨rfl, rfl, rfl, by decide +kernel, rfl, by decide +kernel, by decide +kernel⟩, rfl, rfl, ⟨60, by kernel_rfl⟩, (show dd_numbers_of_layer.kwd = [] → PosOk dd_numbers_of_layer from fun _ => ⟨fun _ _ _ _ _ _ _ us hl => match us, hl with | [_, _, _], _ => rfl, fun h => absurd rfl h⟩), fun h => absurd rfl h, pat_all (show True from trivial), fun h => absurd h (by decide)⟩
theorem st_is_product : Stat ct gc 15 fd_is_product dd_is_product := ⟨⟨rfl, rfl, rfl, by decide +kernel, rfl, by decide +kernel, by decide +kernel⟩, rfl, rfl, ⟨60, by kernel_rfl⟩, (show dd_is_product.kwd = [] → PosOk dd_is_product from fun _ => ⟨fun _ _ _ _ _ _ _ us hl => match us, hl with | [_, _], _ => rfl, fun h => absurd rfl h⟩), fun h => absurd rfl h, pat_all (show True from trivial), fun h => absurd h (by decide)⟩
theorem st__law_pick : Stat ct gc 16 fd__law_pick dd__law_pick := ⟨⟨rfl, rfl, rfl, by decide +kernel, rfl, by decide +kernel, by decide +kernel⟩, rfl, rfl, ⟨60, by kernel_rfl⟩, (show dd__law_pick.kwd = [] → PosOk dd__law_pick from fun _ => ⟨fun _ _ _ _ _ _ _ us hl => match us, hl with | [_, _], _ => rfl, fun h => absurd rfl h⟩), fun h => absurd rfl h, pat_all (show True from trivial), fun h => absurd h (by decide)⟩
theorem st_cost_of : Stat ct gc 17 fd_cost_of dd_cost_of := ⟨⟨rfl, rfl, rfl, by decide +kernel, rfl, by decide +kernel, by decide +kernel⟩, rfl, rfl, ⟨60, by kernel_rfl⟩, (show dd_cost_of.kwd = [] → PosOk dd_cost_of from fun _ => ⟨fun _ _ _ _ _ _ _ us hl => match us, hl with | [_], _ => rfl, fun h => absurd rfl h⟩), fun h => absurd rfl h, pat_all (show True from trivial), fun h => absurd h (by decide)⟩
theorem st_is_int : Stat ct gc 18 fd_is_int dd_is_int := ⟨⟨rfl, rfl, rfl, by decide +kernel, rfl, by decide +kernel, by decide +kernel⟩, rfl, rfl, ⟨60, by kernel_rfl⟩, (show dd_is_int.kwd = [] → PosOk dd_is_int from fun _ => ⟨fun _ _ _ _ _ _ _ us hl => match us, hl with | [_], _ => rfl, fun h => absurd rfl h⟩), fun h => absurd rfl h, pat_all (show True from trivial), fun h => absurd h (by decide)⟩
theorem st_common : Stat ct gc 19 fd_common dd_common := ⟨⟨rfl, rfl, rfl, by decide +kernel, rfl, by decide +kernel, by decide +kernel⟩, rfl, rfl, ⟨60, by kernel_rfl⟩, (show StarOk dd_common from ⟨rfl, [], "numbers", rfl, fun _ _ _ _ _ _ us rest hl => match us, rest, hl with | [], [], _ => rfl | [], _ :: _, _ => rfl⟩), fun h => absurd rfl h, pat_all (show True from trivial), fun h => absurd h (by decide)⟩
theorem st_entries : Stat ct gc 20 fd_entries dd_entries := ⟨⟨rfl, rfl, rfl, by decide +kernel, rfl, by decide +kernel, by decide +kernel⟩, rfl, rfl, ⟨60, by kernel_rfl⟩, (show dd_entries.kwd = [] → PosOk dd_entries from fun _ => ⟨fun _ _ _ _ _ _ _ us hl => match us, hl with | [_], _ => rfl, fun h => absurd rfl h⟩), fun h => absurd rfl h, pat_all (show True from trivial), fun h => absurd h (by decide)⟩
theorem st_is_table : Stat ct gc 21 fd_is_table dd_is_table := ⟨⟨rfl, rfl, rfl, by decide +kernel, rfl, by decide +kernel, by decide +kernel⟩, rfl, rfl, ⟨60, by kernel_rfl⟩, (show dd_is_table.kwd = [] → PosOk dd_is_table from fun _ => ⟨fun _ _ _ _ _ _ _ us hl => match us, hl with | [_, _], _ => rfl, fun h => absurd rfl h⟩), fun h => absurd rfl h, pat_all (show True from trivial), fun h => absurd h (by decide)⟩
theorem st_is_list : Stat ct gc 22 fd_is_list dd_is_list := ⟨⟨rfl, rfl, rfl, by decide +kernel, rfl, by decide +kernel, by decide +kernel⟩, rfl, rfl, ⟨60, by kernel_rfl⟩, (show dd_is_list.kwd = [] → PosOk dd_is_list from fun _ => ⟨fun _ _ _ _ _ _ _ us hl => match us, hl with | [_], _ => rfl, fun h => absurd rfl h⟩), fun h => absurd rfl h, pat_all (show True from trivial), fun h => absurd h (by decide)⟩
theorem st_Scheme_adds : Stat ct gc 23 fd_Scheme_adds dd_Scheme_adds := ⟨⟨rfl, rfl, rfl, by decide +kernel, rfl, by decide +kernel, by decide +kernel⟩, rfl, rfl, ⟨60, by kernel_rfl⟩, (show dd_Scheme_adds.kwd = [] → PosOk dd_Scheme_adds from fun _ => ⟨fun _ _ _ _ _ _ _ us hl => match us, hl with | [_], _ => rfl, fun h => absurd rfl h⟩), fun h => absurd rfl h, pat_all (show True from trivial), fun h => absurd h (by decide)⟩
theorem st_Scheme_products : Stat ct gc 24 fd_Scheme_products dd_Scheme_products := ⟨⟨rfl, rfl, rfl, by decide +kernel, rfl, by decide +kernel, by decide +kernel⟩, rfl, rfl, ⟨60, by kernel_rfl⟩, (show dd_Scheme_products.kwd = [] → PosOk dd_Scheme_products from fun _ => ⟨fun _ _ _ _ _ _ _ us hl => match us, hl with | [_], _ => rfl, fun h => absurd rfl h⟩), fun h => absurd rfl h, pat_all (show True from trivial), fun h => absurd h (by decide)⟩
theorem st_Scheme_sizes : Stat ct gc 25 fd_Scheme_sizes dd_Scheme_sizes := ⟨⟨rfl, rfl, rfl, by decide +kernel, rfl, by decide +kernel, by decide +kernel⟩, rfl, rfl, ⟨60, by kernel_rfl⟩, (show dd_Scheme_sizes.kwd = [] → PosOk dd_Scheme_sizes from fun _ => ⟨fun _ _ _ _ _ _ _ us hl => match us, hl with | [_], _ => rfl, fun h => absurd rfl h⟩), fun h => absurd rfl h, pat_all (show True from trivial), fun h => absurd h (by decide)⟩
theorem st_Scheme_right_ones : Stat ct gc 26 fd_Scheme_right_ones dd_Scheme_right_ones := ⟨⟨rfl, rfl, rfl, by decide +kernel, rfl, by decide +kernel, by decide +kernel⟩, rfl, rfl, ⟨60, by kernel_rfl⟩, (show dd_Scheme_right_ones.kwd = [] → PosOk dd_Scheme_right_ones from fun _ => ⟨fun _ _ _ _ _ _ _ us hl => match us, hl with | [_, _], _ => rfl, fun h => absurd rfl h⟩), fun h => absurd rfl h, pat_all (show True from trivial), fun h => absurd h (by decide)⟩
theorem st_Scheme_table : Stat ct gc 27 fd_Scheme_table dd_Scheme_table := ⟨⟨rfl, rfl, rfl, by decide +kernel, rfl, by decide +kernel, by decide +kernel⟩, rfl, rfl, ⟨60, by kernel_rfl⟩, (show dd_Scheme_table.kwd = [] → PosOk dd_Scheme_table from fun _ => ⟨fun _ _ _ _ _ _ _ us hl => match us, hl with | [_], _ => rfl, fun h => absurd rfl h⟩), fun h => absurd rfl h, pat_all (show True from trivial), fun h => absurd h (by decide)⟩
theorem st_Scheme___eq__ : Stat ct gc 28 fd_Scheme___eq__ dd_Scheme___eq__ := ⟨⟨rfl, rfl, rfl, by decide +kernel, rfl, by decide +kernel, by decide +kernel⟩, rfl, rfl, ⟨60, by kernel_rfl⟩, (show dd_Scheme___eq__.kwd = [] → PosOk dd_Scheme___eq__ from fun _ => ⟨fun _ _ _ _ _ _ _ us hl => match us, hl with | [_, _], _ => rfl, fun h => absurd rfl h⟩), fun h => absurd rfl h, pat_all (show True from trivial), fun h => absurd h (by decide)⟩
theorem st_Scheme___len__ : Stat ct gc 29 fd_Scheme___len__ dd_Scheme___len__ := ⟨⟨rfl, rfl, rfl, by decide +kernel, rfl, by decide +kernel, by decide +kernel⟩, rfl, rfl, ⟨60, by kernel_rfl⟩, (show dd_Scheme___len__.kwd = [] → PosOk dd_Scheme___len__ from fun _ => ⟨fun _ _ _ _ _ _ _ us hl => match us, hl with | [_], _ => rfl, fun h => absurd rfl h⟩), fun h => absurd rfl h, pat_all (show True from trivial), fun h => absurd h (by decide)⟩
theorem st_Scheme___repr__ : Stat ct gc 30 fd_Scheme___repr__ dd_Scheme___repr__ := ⟨⟨rfl, rfl, rfl, by decide +kernel, rfl, by decide +kernel, by decide +kernel⟩, rfl, rfl, ⟨60, by kernel_rfl⟩, (show dd_Scheme___repr__.kwd = [] → PosOk dd_Scheme___repr__ from fun _ => ⟨fun _ _ _ _ _ _ _ us hl => match us, hl with | [_], _ => rfl, fun h => absurd rfl h⟩), fun h => absurd rfl h, pat_all (show True from trivial), fun h => absurd h (by decide)⟩
theorem es_InvalidNumber : ExcS ed_InvalidNumber where
  body := by kernel_rfl
  ar := rfl
  s1 := rfl
  s2 := rfl
  kind := rfl
  co := rfl
  gen := rfl
  cel := by decide +kernel
  loc := by decide +kernel
  bd := fun _ _ _ _ _ _ _ us hl => match us, hl with | [_, _], _ => rfl
  nd := by decide +kernel
  used := by decide +kernel
  few := by decide
  ix := by decide
  cd := by decide +kernel
theorem es_TooGreat : ExcS ed_TooGreat where
  body := by kernel_rfl
  ar := rfl
  s1 := rfl
  s2 := rfl
  kind := rfl
  co := rfl
  gen := rfl
  cel := by decide +kernel
  loc := by decide +kernel
  bd := fun _ _ _ _ _ _ _ us hl => match us, hl with | [_, _], _ => rfl
  nd := by decide +kernel
  used := by decide +kernel
  few := by decide
  ix := by decide
  cd := by decide +kernel
theorem es_InvalidProduct : ExcS ed_InvalidProduct where
  body := by kernel_rfl
  ar := rfl
  s1 := rfl
  s2 := rfl
  kind := rfl
  co := rfl
  gen := rfl
  cel := by decide +kernel
  loc := by decide +kernel
  bd := fun _ _ _ _ _ _ _ us hl => match us, hl with | [_, _], _ => rfl
  nd := by decide +kernel
  used := by decide +kernel
  few := by decide
  ix := by decide
  cd := by decide +kernel
theorem es_TooMany : ExcS ed_TooMany where
  body := by kernel_rfl
  ar := rfl
  s1 := rfl
  s2 := rfl
  kind := rfl
  co := rfl
  gen := rfl
  cel := by decide +kernel
  loc := by decide +kernel
  bd := fun _ _ _ _ _ _ _ us hl => match us, hl with | [_, _], _ => rfl
  nd := by decide +kernel
  used := by decide +kernel
  few := by decide
  ix := by decide
  cd := by decide +kernel
theorem es_NoUnit : ExcS ed_NoUnit where
  body := by kernel_rfl
  ar := rfl
  s1 := rfl
  s2 := rfl
  kind := rfl
  co := rfl
  gen := rfl
  cel := by decide +kernel
  loc := by decide +kernel
  bd := fun _ _ _ _ _ _ _ us hl => match us, hl with | [_, _], _ => rfl
  nd := by decide +kernel
  used := by decide +kernel
  few := by decide
  ix := by decide
  cd := by decide +kernel
theorem es_InvalidTable : ExcS ed_InvalidTable where
  body := by kernel_rfl
  ar := rfl
  s1 := rfl
  s2 := rfl
  kind := rfl
  co := rfl
  gen := rfl
  cel := by decide +kernel
  loc := by decide +kernel
  bd := fun _ _ _ _ _ _ _ us hl => match us, hl with | [_, _], _ => rfl
  nd := by decide +kernel
  used := by decide +kernel
  few := by decide
  ix := by decide
  cd := by decide +kernel
theorem hst : ∀ f fd, tab.fns[f]? = some fd → ∃ D, L.ds[f]? = some D ∧ Stat L.ct L.g f fd D ∧ (D.lam = true → L.lam = some D.name ∧ L.fp[f]? = some (.top D.name) ∧ D.qual = D.name) := fun f fd hf => by
  have z := All2.get (P := fun i fd => ∃ D, L.ds[i]? = some D ∧ Stat L.ct L.g i fd D ∧ (D.lam = true → L.lam = some D.name ∧ L.fp[i]? = some (.top D.name) ∧ D.qual = D.name)) (i := 0) (l := tab.fns) ⟨⟨_, rfl, st_law, fun h => absurd h (by decide)⟩, ⟨_, rfl, st__law_same, fun h => absurd h (by decide)⟩, ⟨_, rfl, st_cost, fun h => absurd h (by decide)⟩, ⟨_, rfl, st_depth_ones, fun h => absurd h (by decide)⟩, ⟨_, rfl, st_Scheme___init__, fun h => absurd h (by decide)⟩, ⟨_, rfl, st__law_draw, fun h => absurd h (by decide)⟩, ⟨_, rfl, st__law_fan, fun h => absurd h (by decide)⟩, ⟨_, rfl, st__law_scheme, fun h => absurd h (by decide)⟩, ⟨_, rfl, st__law_bag, fun h => absurd h (by decide)⟩, ⟨_, rfl, st_role_adds, fun h => absurd h (by decide)⟩, ⟨_, rfl, st_in_bounds, fun h => absurd h (by decide)⟩, ⟨_, rfl, st_gcd, fun h => absurd h (by decide)⟩, ⟨_, rfl, st_power_rest, fun h => absurd h (by decide)⟩, ⟨_, rfl, st_measured, fun h => absurd h (by decide)⟩, ⟨_, rfl, st_numbers_of_layer, fun h => absurd h (by decide)⟩, ⟨_, rfl, st_is_product, fun h => absurd h (by decide)⟩, ⟨_, rfl, st__law_pick, fun h => absurd h (by decide)⟩, ⟨_, rfl, st_cost_of, fun h => absurd h (by decide)⟩, ⟨_, rfl, st_is_int, fun h => absurd h (by decide)⟩, ⟨_, rfl, st_common, fun h => absurd h (by decide)⟩, ⟨_, rfl, st_entries, fun h => absurd h (by decide)⟩, ⟨_, rfl, st_is_table, fun h => absurd h (by decide)⟩, ⟨_, rfl, st_is_list, fun h => absurd h (by decide)⟩, ⟨_, rfl, st_Scheme_adds, fun h => absurd h (by decide)⟩, ⟨_, rfl, st_Scheme_products, fun h => absurd h (by decide)⟩, ⟨_, rfl, st_Scheme_sizes, fun h => absurd h (by decide)⟩, ⟨_, rfl, st_Scheme_right_ones, fun h => absurd h (by decide)⟩, ⟨_, rfl, st_Scheme_table, fun h => absurd h (by decide)⟩, ⟨_, rfl, st_Scheme___eq__, fun h => absurd h (by decide)⟩, ⟨_, rfl, st_Scheme___len__, fun h => absurd h (by decide)⟩, ⟨_, rfl, st_Scheme___repr__, fun h => absurd h (by decide)⟩, trivial⟩ hf
  rw [Nat.zero_add] at z
  exact z
theorem lawS : LawS L tab PySem.Challenge.pw_numbertypes_k72_whole_costs_of_nested_sc where
  ct := rfl
  st := hst
  exc := rfl
  es := ⟨⟨es_InvalidNumber, rfl, rfl, by kernel_rfl, rfl, by decide⟩, ⟨es_TooGreat, rfl, rfl, by kernel_rfl, rfl, by decide⟩, ⟨es_InvalidProduct, rfl, rfl, by kernel_rfl, rfl, by decide⟩, ⟨es_TooMany, rfl, rfl, by kernel_rfl, rfl, by decide⟩, ⟨es_NoUnit, rfl, rfl, by kernel_rfl, rfl, by decide⟩, ⟨es_InvalidTable, rfl, rfl, by kernel_rfl, rfl, by decide⟩, trivial⟩
  got := rfl
  gt := fun G cat h => by cases h
  all := rfl
  at_ := fun A G cat h1 h2 => by cases h1
  nd := by decide +kernel
  short := by decide +kernel
  ex := by kernel_rfl
  dn := ⟨rfl, rfl, rfl, rfl, rfl⟩
  pats := fun _ h => h
  cpats := fun _ _ h => by cases h
  init := rfl
  ko := rfl
  sup := by kernel_rfl
  file := rfl
abbrev R : PySem.W.OpenRow := PySem.W.OpenLaw.row PySem.Challenge.rw_numbertypes_k72_whole_costs_of_nested_sc
abbrev loose : List Str := (["_wall", "RingError", "InvalidNumber", "InvalidTable", "InvalidProduct", "NotStraight", "NoUnit", "TooMany", "TooGreat", "is_int", "is_list", "in_bounds", "gcd", "common", "share", "plus", "times", "MOST_SIZE", "MOST_PRODUCTS", "is_product", "is_table", "entries", "cost_of", "Scheme", "role_adds", "merged", "factors_in", "value_after", "read_scheme", "MOST_DEPTH"] : List Str) ++ (["MOST_POWER", "MOST_COST", "numbers_of_layer", "measured", "power_rest", "depth_ones", "cost", "_law_bag", "_law_draw", "_law_pick", "_law_same", "_law_scheme", "_law_fan"] : List Str)
abbrev hk : PySem.W.Hook := hookN L.obs L.val 6
def ob (s : PySem.W.SharedT) : Obs := L.obs (frN (HandSHeadRun.getT s) 6)
theorem ob_eq (s : PySem.W.SharedT) : ob s = hk.obs s.abs := hookN_eq (HandSHeadRun.getT_eq s)
end K72
set_option linter.all false
set_option maxRecDepth 100000
set_option maxHeartbeats 0
namespace K72
open PySem NT
-- MAC abs_nat evI_enm
local macro_rules | `(tactic| walk_at "exe") => `(tactic| simp only [bnd_ok, bnd_exc, bind_app, pure_app, of_some, ok1_true, guard_true, ite_app, ev_cst, ev_var, ev_bin, ev_neg, ev_cmp, ev_chn, ev_and, ev_or, ev_notv, ev_ifx, ev_tup, ev_lst, ev_mlst, ev_sub, ev_slc, ev_slcL, ev_slcH, ev_call, ev_blt, ev_attr, ev_meth, ev_new, ev_fst, ev_fmt, evJ_nil, evJ_cons, evs_arr, ev_got, gotO_ok, gotO_exc, ev_bm, ev_lc, evT_and, evT_or, evT_not, evT_cmp, evT_chn, evT_tv, evs_nil, evs_cons, evI_rng, evI_zip, evI_itv, xec_skip, xec_seq, seqF_nx, seqF_rt, seqF_bk, seqF_ct, xec_expr, xec_ret, xec_asg, xec_unp, xec_par, xec_setFld, xec_raise, xec_setSub, xec_aug, xec_ife, xec_for, xec_brk, xec_cnt, flowV_nx, flowV_rt, bindT_one, bindT_two, bindT_three, bindT_four, bindT_L2, bindT_L3, lget_app, orc_call, cmp_eqI, cmp_neI, cmp_ltI, cmp_leI, cmp_gtI, cmp_geI, cmp_eqB, cmp_eqS, cmp_neS, cmp_isN, cmp_notN, bin_addI, bin_subI, bin_mulI, bin_divI, bin_modI, bin_powI, neg_I, asB_app, asI_app, asS_app, tru_bl, blt_abs, blt_int, blt_lenL, blt_lenT, blt_lenS, blt_list, blt_listT, blt_tuple, blt_isinst, blt_isinsC, blt_isinsT, blt_all, blt_any, blt_sum, blt_str, blt_max, isiA_nil, isiA_cons, sub_L, sub_T, setAll, bmTy_join, bmV_join, slc_S, slc_L, slc_T, bin_addS, bin_addL, arrL, ln_0, ln_1, ln_2, ln_3, ln_4, ln_5, ln_6, ln_7, ln_8, ln_9, ln_10, ln_11, ln_12, ln_13, ln_14, ln_15, ln_16, ln_17, ln_18, ln_19, ln_20, ln_21, ln_22, ln_23, ln_24, ln_25, ln_26, ln_27, ln_28, ln_29, ln_30, ln_31, ln_32, ln_33, ln_34, ln_35, ln_36, ln_37, ln_38, ln_39, ln_40, ty_non_int, ty_non_bool, ty_non_str, ty_non_list, ty_non_tuple, ty_bl_int, ty_bl_bool, ty_bl_str, ty_bl_list, ty_bl_tuple, ty_int_int, ty_int_bool, ty_int_str, ty_int_list, ty_int_tuple, ty_str_int, ty_str_bool, ty_str_str, ty_str_list, ty_str_tuple, ty_tup_int, ty_tup_bool, ty_tup_str, ty_tup_list, ty_tup_tuple, ty_lst_int, ty_lst_bool, ty_lst_str, ty_lst_list, ty_lst_tuple, bag0, bag1, bag2, bag3, bagS1, bagS2, bagS3, List.cons_append, List.nil_append, List.append_nil, List.getElem?_cons_zero, List.getElem?_cons_succ, List.getElem?_nil, Option.getD_some, Option.getD_none, List.getD_cons_zero, List.getD_cons_succ, List.set_cons_zero, List.set_cons_succ, List.length_cons, List.length_nil, List.map_cons, List.map_nil, Option.map_some, decide_eq_true_eq, Bool.and_true, Bool.true_and, Bool.and_false, Bool.false_and, Bool.or_true, Bool.true_or, Bool.or_false, Bool.false_or, Bool.not_true, Bool.not_false, if_true, if_false, ite_true, ite_false, Bool.false_eq_true, reduceIte, decide_true, decide_false, List.isEmpty_cons, Nat.reduceAdd, Int.cast_ofNat_Int, Int.reduceEq, Int.reduceLT, Int.reduceLE, Int.reduceAdd, Int.reduceSub, Int.reduceMul, Int.reduceNeg, Nat.zero_add, abs_nat, evI_enm])
local macro_rules | `(tactic| walk_at "exh") => `(tactic| simp only [bnd_ok, bnd_exc, bind_app, pure_app, of_some, ok1_true, guard_true, ite_app, ev_cst, ev_var, ev_bin, ev_neg, ev_cmp, ev_chn, ev_and, ev_or, ev_notv, ev_ifx, ev_tup, ev_lst, ev_mlst, ev_sub, ev_slc, ev_slcL, ev_slcH, ev_call, ev_blt, ev_attr, ev_meth, ev_new, ev_fst, ev_fmt, evJ_nil, evJ_cons, evs_arr, ev_got, gotO_ok, gotO_exc, ev_bm, ev_lc, evT_and, evT_or, evT_not, evT_cmp, evT_chn, evT_tv, evs_nil, evs_cons, evI_rng, evI_zip, evI_itv, xec_skip, xec_seq, seqF_nx, seqF_rt, seqF_bk, seqF_ct, xec_expr, xec_ret, xec_asg, xec_unp, xec_par, xec_setFld, xec_raise, xec_setSub, xec_aug, xec_ife, xec_for, xec_brk, xec_cnt, flowV_nx, flowV_rt, bindT_one, bindT_two, bindT_three, bindT_four, bindT_L2, bindT_L3, lget_app, orc_call, cmp_eqI, cmp_neI, cmp_ltI, cmp_leI, cmp_gtI, cmp_geI, cmp_eqB, cmp_eqS, cmp_neS, cmp_isN, cmp_notN, bin_addI, bin_subI, bin_mulI, bin_divI, bin_modI, bin_powI, neg_I, asB_app, asI_app, asS_app, tru_bl, blt_abs, blt_int, blt_lenL, blt_lenT, blt_lenS, blt_list, blt_listT, blt_tuple, blt_isinst, blt_isinsC, blt_isinsT, blt_all, blt_any, blt_sum, blt_str, blt_max, isiA_nil, isiA_cons, sub_L, sub_T, setAll, bmTy_join, bmV_join, slc_S, slc_L, slc_T, bin_addS, bin_addL, arrL, ln_0, ln_1, ln_2, ln_3, ln_4, ln_5, ln_6, ln_7, ln_8, ln_9, ln_10, ln_11, ln_12, ln_13, ln_14, ln_15, ln_16, ln_17, ln_18, ln_19, ln_20, ln_21, ln_22, ln_23, ln_24, ln_25, ln_26, ln_27, ln_28, ln_29, ln_30, ln_31, ln_32, ln_33, ln_34, ln_35, ln_36, ln_37, ln_38, ln_39, ln_40, ty_non_int, ty_non_bool, ty_non_str, ty_non_list, ty_non_tuple, ty_bl_int, ty_bl_bool, ty_bl_str, ty_bl_list, ty_bl_tuple, ty_int_int, ty_int_bool, ty_int_str, ty_int_list, ty_int_tuple, ty_str_int, ty_str_bool, ty_str_str, ty_str_list, ty_str_tuple, ty_tup_int, ty_tup_bool, ty_tup_str, ty_tup_list, ty_tup_tuple, ty_lst_int, ty_lst_bool, ty_lst_str, ty_lst_list, ty_lst_tuple, bag0, bag1, bag2, bag3, bagS1, bagS2, bagS3, List.cons_append, List.nil_append, List.append_nil, List.getElem?_cons_zero, List.getElem?_cons_succ, List.getElem?_nil, Option.getD_some, Option.getD_none, List.getD_cons_zero, List.getD_cons_succ, List.set_cons_zero, List.set_cons_succ, List.length_cons, List.length_nil, List.map_cons, List.map_nil, Option.map_some, decide_eq_true_eq, Bool.and_true, Bool.true_and, Bool.and_false, Bool.false_and, Bool.or_true, Bool.true_or, Bool.or_false, Bool.false_or, Bool.not_true, Bool.not_false, if_true, if_false, ite_true, ite_false, Bool.false_eq_true, reduceIte, decide_true, decide_false, List.isEmpty_cons, Nat.reduceAdd, Int.cast_ofNat_Int, Int.reduceEq, Int.reduceLT, Int.reduceLE, Int.reduceAdd, Int.reduceSub, Int.reduceMul, Int.reduceNeg, Nat.zero_add, abs_nat, evI_enm, *])
abbrev lev : Nat := 30
def dp : DP := ⟨41177, 1000171, 907, 59, 2147483563, 30089, 1700047, 2147483579, 64⟩
theorem hdp : dp.Ok := by decide
theorem hbag : tab.fns[f__law_bag]? = some ⟨1, false, 2, irBag 12024 17, false⟩ := rfl
theorem hdraw : tab.fns[f__law_draw]? = some ⟨2, false, 4, irDraw dp, true⟩ := rfl
theorem hpick : tab.fns[f__law_pick]? = some ⟨2, false, 2, irPick f__law_draw, true⟩ := rfl
theorem hsame : tab.fns[f__law_same]? = some ⟨2, false, 4, irSame f__law_same, true⟩ := rfl
theorem hint : tab.fns[f_is_int]? = some ⟨1, false, 1, irIsInt, true⟩ := rfl
theorem hbnd : tab.fns[f_in_bounds]? = some ⟨3, false, 3, irInBounds f_is_int, true⟩ := rfl
/-! ### schemes as data -/
def LI (xs : List Int) : AV := .lst (xs.map .int)
def TI (xs : List Int) : AV := .tup (xs.map .int)
structure Row where
  u : List Int
  v : List Int
  w : List Int
def rL (r : Row) : AV := .tup [LI r.u, LI r.v, LI r.w]
def rT (r : Row) : AV := .tup [TI r.u, TI r.v, TI r.w]
def SZ (a b c : Int) : AV := .tup [.int a, .int b, .int c]
abbrev fS : Nat := 21
abbrev fP : Nat := 20
abbrev nmAdds : Nat := 17
abbrev nmSizes : Nat := 18
abbrev nmProducts : Nat := 19
def SCH (a b c : Int) (rs : List Row) : AV := .obj 0 [fS, fP] [SZ a b c, .tup (rs.map rT)]
def Row.Fits (r : Row) (a b c : Int) : Prop := (r.u.length : Int) = a ∧ (r.v.length : Int) = b ∧ (r.w.length : Int) = c
theorem it_LI (xs : List Int) : items (LI xs) = some (xs.map .int) := rfl
theorem it_TI (xs : List Int) : items (TI xs) = some (xs.map .int) := rfl
theorem len_LI (C : Orc) (xs : List Int) (h : AHeap) : bltO C .len [LI xs] h = .ok (.int xs.length) h := by
  show Out.ok (AV.int ((xs.map AV.int).length : Nat)) h = _
  rw [List.length_map]
theorem le_line {α : Type} {f : α → AV} {xs : List α} (h : xs.length ≤ 1000) : ((xs.map f).length ≤ line) = True := eq_true (by rw [List.length_map]; unfold line; omega)
theorem run_isint (n : Nat) (i : Int) (h : AHeap) : run tab (n + 1) f_is_int [.int i] h = .ok (.bl true) h := by
  have := run_int hint n (.int i) (by simp [kd]) h
  rw [this]; simp [kd]
theorem run_inb (n : Nat) (i a b : Int) (h1 : a ≤ i) (h2 : i ≤ b) (h : AHeap) : run tab (n + 2) f_in_bounds [.int i, .int a, .int b] h = .ok (.bl true) h := by
  rw [run_inI hint hbnd n i a b h]; simp [h1, h2]
theorem run_islist (n : Nat) (xs : List Int) (h : AHeap) : run tab (n + 1) f_is_list [LI xs] h = .ok (.bl true) h := by
  refine run_eq (show tab.fns[f_is_list]? = some fd_is_list from rfl) (σ := [some (LI xs)]) rfl ?_ rfl
  show Out.bnd (xec _ ir_is_list _ _) _ = _
  unfold ir_is_list LI
  walk_at "exe"
def prodB : NT.S := match ir_is_product with
  | .seq _ (.seq (.for_ _ _ b) _) => b
  | s => s
theorem all_ints (n : Nat) (σ : NT.Loc) (hσ : 4 < σ.length) (xs : List Int) (h : AHeap) : lcL (turn (orc tab (n + 1)) σ [4] [4] (.tv (.cst (.bl true))) (.call f_is_int (.cons (.var 4) (.nil)))) (xs.map .int) h = .ok (xs.map fun _ => .bl true) h :=
  lt_map AV.int (fun _ => .bl true) (by
    intro i _
    have r := run_isint n i h
    have e : (((σ.set 4 none).set 4 (some (.int i)))[4]?.getD none) = some (.int i) := by simp [hσ]
    simp only [wipeL]
    walk_at "exh")
theorem prod_turn (n : Nat) (P S : AV) (w2 w3 : Option AV) (xs : List Int) (k : Int) (hk : (xs.length : Int) = k) (hl : xs.length ≤ 36) (h : AHeap) :
    forB (orc tab (n + 1)) [2, 3] prodB (.tup [LI xs, .int k]) [some P, some S, w2, w3, none] h = .ok (.nx [some P, some S, some (LI xs), some (.int k), none]) h := by
  rw [forB_app]
  have a := all_ints n [some P, some S, some (LI xs), some (.int k), none] (by simp) xs h
  have b := run_islist n xs h
  have l := len_LI (orc tab (n + 1)) xs h
  have i := it_LI xs
  have t := allB_true xs
  have t2 := all_true xs
  have m : ((xs.map fun _ => AV.bl true).length ≤ line) = True := le_line (by omega)
  generalize LI xs = L at a b l i ⊢
  subst hk
  unfold prodB ir_is_product
  walk_at "exh"
theorem run_product (n : Nat) (r : Row) (a b c : Int) (hf : r.Fits a b c) (ha : a ≤ 36) (hb : b ≤ 36) (hc : c ≤ 36) (h : AHeap) : run tab (n + 2) f_is_product [rL r, SZ a b c] h = .ok (.bl true) h := by
  obtain ⟨f1, f2, f3⟩ := hf
  refine run_eq (show tab.fns[f_is_product]? = some fd_is_product from rfl) (σ := [some (rL r), some (SZ a b c), none, none, none]) rfl ?_ rfl
  show Out.bnd (xec _ ir_is_product _ _) _ = _
  have z : zipV (rL r) (SZ a b c) = some [.tup [LI r.u, .int a], .tup [LI r.v, .int b], .tup [LI r.w, .int c]] := rfl
  have l : bltO (orc tab (n + 1)) .len [rL r] h = .ok (.int 3) h := rfl
  have t : isi1 (orc tab (n + 1)) (rL r) (.ty "tuple") = some true := rfl
  have lp : forL (forB (orc tab (n + 1)) [2, 3] prodB) [.tup [LI r.u, .int a], .tup [LI r.v, .int b], .tup [LI r.w, .int c]] [some (rL r), some (SZ a b c), none, none, none] h = .ok (.nx [some (rL r), some (SZ a b c), some (LI r.w), some (.int c), none]) h := by
    rw [forL_nx (prod_turn n _ _ _ _ r.u a f1 (by omega) h), forL_nx (prod_turn n _ _ _ _ r.v b f2 (by omega) h), forL_nx (prod_turn n _ _ _ _ r.w c f3 (by omega) h), forL_nil]
  generalize rL r = R at z l t lp ⊢
  generalize SZ a b c = S at z lp ⊢
  unfold prodB ir_is_product at lp
  unfold ir_is_product
  walk_at "exh"
/-! ### the class -/
def sizeB : NT.S := match ir_Scheme___init__ with
  | .seq _ (.seq (.for_ _ _ b) _) => b
  | s => s
def prdB : NT.S := match ir_Scheme___init__ with
  | .seq _ (.seq _ (.seq _ (.seq (.for_ _ _ b) _))) => b
  | s => s
def tupE : NT.E := match ir_Scheme___init__ with
  | .seq _ (.seq _ (.seq _ (.seq _ (.seq _ (.seq (.setFld _ _ (.blt _ (.cons (.lc _ _ _ _ e) _))) _))))) => e
  | _ => .nil
theorem size_turn (n : Nat) (P S L : AV) (w3 w4 w5 : Option AV) (k : Int) (h1 : 1 ≤ k) (h2 : k ≤ 36) (h : AHeap) :
    forB (orc tab (n + 2)) [3] sizeB (.int k) [some P, some S, some L, w3, w4, w5, none] h = .ok (.nx [some P, some S, some L, some (.int k), w4, w5, none]) h := by
  rw [forB_app]
  have b := run_inb n k 1 36 h1 h2 h
  unfold sizeB ir_Scheme___init__
  walk_at "exh"
theorem prd_turn (n : Nat) (P L : AV) (a b c : Int) (w3 w4 w5 : Option AV) (i : Int) (r : Row) (hf : r.Fits a b c) (ha : a ≤ 36) (hb : b ≤ 36) (hc : c ≤ 36) (h : AHeap) :
    forB (orc tab (n + 2)) [4, 5] prdB (.tup [.int i, rL r]) [some P, some (SZ a b c), some L, w3, w4, w5, none] h = .ok (.nx [some P, some (SZ a b c), some L, w3, some (.int i), some (rL r), none]) h := by
  rw [forB_app]
  have q := run_product n r a b c hf ha hb hc h
  generalize SZ a b c = S at q ⊢
  generalize rL r = R at q ⊢
  unfold prdB ir_Scheme___init__
  walk_at "exh"
theorem tup_LI (C : Orc) (xs : List Int) (h : AHeap) : bltO C .tuple [LI xs] h = .ok (TI xs) h := rfl
theorem it_rL (r : Row) : items (rL r) = some ([r.u, r.v, r.w].map LI) := rfl
theorem tup_row (n : Nat) (σ : NT.Loc) (hσ : σ.length = 7) (r : Row) (h5 : σ[5]? = some (some (rL r))) (h : AHeap) : ev (orc tab n) σ tupE h = .ok (rT r) h := by
  have l := lt_map (C := orc tab n) (σ := σ) (h := h) (is := [6]) (vs := [6]) (elt := .blt .tuple (.cons (.var 6) .nil)) LI TI (xs := [r.u, r.v, r.w]) (by
    intro xs _
    have e : (((σ.set 6 none).set 6 (some (LI xs)))[6]?.getD none) = some (LI xs) := by simp [hσ]
    have t := tup_LI (orc tab n) xs h
    simp only [wipeL]
    generalize LI xs = L at e t ⊢
    walk_at "exh")
  have e5 : σ[5]?.getD none = some (rL r) := by rw [h5]; rfl
  have i := it_rL r
  have m : (([r.u, r.v, r.w].map TI).length ≤ line) = True := le_line (by simp)
  have t : bltO (orc tab n) .tuple [.lst ([r.u, r.v, r.w].map TI)] h = .ok (rT r) h := rfl
  generalize rL r = R at e5 i
  generalize [r.u, r.v, r.w].map TI = ys at l m t
  generalize [r.u, r.v, r.w].map LI = xs at l i
  generalize rT r = Q at t ⊢
  unfold tupE ir_Scheme___init__
  clear h5
  walk_at "exh"
theorem init_x (n : Nat) (a b c : Int) (rs : List Row) (hr : ∀ r ∈ rs, r.Fits a b c) (ha : 1 ≤ a ∧ a ≤ 36) (hb : 1 ≤ b ∧ b ≤ 36) (hc : 1 ≤ c ∧ c ≤ 36) (hl : rs.length ≤ 400) (h : AHeap) :
    run tab (n + 3) f_Scheme___init__ [.ref h.length, SZ a b c, .lst (rs.map rL)] (h ++ [.ins 0 [] []]) = .ok .non (h ++ [.ins 0 [fS, fP] [SZ a b c, .tup (rs.map rT)]]) := by
  refine run_eq (show tab.fns[f_Scheme___init__]? = some fd_Scheme___init__ from rfl) (σ := [some (.ref h.length), some (SZ a b c), some (.lst (rs.map rL)), none, none, none, none]) rfl ?_ (by simp)
  show Out.bnd (xec _ ir_Scheme___init__ _ _) _ = _
  have hH : h.length = h.length := rfl
  have s1 : setFldV (orc tab (n + 2)) fS (.ref h.length) (SZ a b c) (h ++ [.ins 0 [] []]) = .ok () (h ++ [.ins 0 [fS] [SZ a b c]]) := by
    have e1 : (h ++ [AObj.ins 0 [] []])[h.length]? = some (.ins 0 [] []) := by simp
    have e2 : (orc tab (n + 2)).ct.attrOf fS 0 = some .fld := rfl
    have e3 : (h ++ [AObj.ins 0 [] []]).set h.length (.ins 0 [fS] [SZ a b c]) = h ++ [.ins 0 [fS] [SZ a b c]] := by simp
    unfold setFldV
    simp only [e1, e2]
    show Out.ok () ((h ++ [AObj.ins 0 [] []]).set h.length (.ins 0 [fS] [SZ a b c])) = _
    rw [e3]
  have s2 : setFldV (orc tab (n + 2)) fP (.ref h.length) (.tup (rs.map rT)) (h ++ [.ins 0 [fS] [SZ a b c]]) = .ok () (h ++ [.ins 0 [fS, fP] [SZ a b c, .tup (rs.map rT)]]) := by
    have e1 : (h ++ [AObj.ins 0 [fS] [SZ a b c]])[h.length]? = some (.ins 0 [fS] [SZ a b c]) := by simp
    have e2 : (orc tab (n + 2)).ct.attrOf fP 0 = some .fld := rfl
    have e3 : (h ++ [AObj.ins 0 [fS] [SZ a b c]]).set h.length (.ins 0 [fS, fP] [SZ a b c, .tup (rs.map rT)]) = h ++ [.ins 0 [fS, fP] [SZ a b c, .tup (rs.map rT)]] := by simp
    unfold setFldV
    simp only [e1, e2]
    show Out.ok () ((h ++ [AObj.ins 0 [fS] [SZ a b c]]).set h.length (.ins 0 [fS, fP] [SZ a b c, .tup (rs.map rT)])) = _
    rw [e3]
  generalize h ++ [AObj.ins 0 [] []] = h0 at s1 ⊢
  generalize h ++ [AObj.ins 0 [fS] [SZ a b c]] = h1 at s1 s2
  generalize h ++ [AObj.ins 0 [fS, fP] [SZ a b c, .tup (rs.map rT)]] = h2 at s2 ⊢
  generalize h.length = p at s1 s2 ⊢
  have l3 : bltO (orc tab (n + 2)) .len [SZ a b c] h0 = .ok (.int 3) h0 := rfl
  have t3 : isi1 (orc tab (n + 2)) (SZ a b c) (.ty "tuple") = some true := rfl
  have i3 : items (SZ a b c) = some [.int a, .int b, .int c] := rfl
  have lp1 : forL (forB (orc tab (n + 2)) [3] sizeB) [.int a, .int b, .int c] [some (.ref p), some (SZ a b c), some (.lst (rs.map rL)), none, none, none, none] h0 = .ok (.nx [some (.ref p), some (SZ a b c), some (.lst (rs.map rL)), some (.int c), none, none, none]) h0 := by
    rw [forL_nx (size_turn n _ _ _ _ _ _ a ha.1 ha.2 h0), forL_nx (size_turn n _ _ _ _ _ _ b hb.1 hb.2 h0), forL_nx (size_turn n _ _ _ _ _ _ c hc.1 hc.2 h0), forL_nil]
  obtain ⟨σ', lp2, w4, w5, rfl⟩ := for_inv (body := forB (orc tab (n + 2)) [4, 5] prdB) (h := h0) (fun _ σ => ∃ w4 w5, σ = [some (.ref p), some (SZ a b c), some (.lst (rs.map rL)), some (.int c), w4, w5, none]) (enmL (rs.map rL)) 0 [some (.ref p), some (SZ a b c), some (.lst (rs.map rL)), some (.int c), none, none, none] (by
    rintro i x σ hx ⟨w4, w5, rfl⟩
    obtain ⟨y, h1, rfl⟩ := enmL_get hx
    rw [List.getElem?_map] at h1
    cases hr0 : rs[i]? with
    | none => rw [hr0] at h1; cases h1
    | some r =>
      rw [hr0] at h1; cases h1
      exact ⟨_, prd_turn n _ _ a b c _ _ _ _ r (hr r (List.mem_of_getElem? hr0)) ha.2 hb.2 hc.2 h0, _, _, rfl⟩) ⟨_, _, rfl⟩
  have l4 : (((rs.map rL).length : Nat) : Int) ≤ 400 := by rw [List.length_map]; omega
  have l5 : ((((rs.map rL).length : Nat) : Int) > 400) = False := eq_false (by omega)
  have lt : lcL (turn (orc tab (n + 2)) [some (.ref p), some (SZ a b c), some (.lst (rs.map rL)), some (.int c), w4, w5, none] [5] [5] (.tv (.cst (.bl true))) tupE) (rs.map rL) h1 = .ok (rs.map rT) h1 :=
    lt_map rL rT (by
      intro r _
      have e := tup_row (n + 2) [some (.ref p), some (SZ a b c), some (.lst (rs.map rL)), some (.int c), w4, some (rL r), none] rfl r rfl h1
      simp only [wipeL, bindT_one, bnd_ok]
      exact e)
  have m : ((rs.map rT).length ≤ line) = True := le_line (by omega)
  have i4 : items (.lst (rs.map rL)) = some (rs.map rL) := rfl
  have g5 := decide_eq_false (p := (((rs.map rL).length : Nat) : Int) > 400) (by omega)
  generalize SZ a b c = S at *
  generalize hL : rs.map rL = LL at *
  generalize rs.map rT = TT at *
  clear l4 l5 hL hr hl ha hb hc hH
  unfold sizeB ir_Scheme___init__ at lp1
  unfold prdB ir_Scheme___init__ at lp2
  unfold tupE ir_Scheme___init__ at lt
  unfold ir_Scheme___init__
  walk_at "exh"
theorem frz_ints (R : Nat → Option AV) : ∀ xs : List Int, frzAs R (xs.map .int) = some (xs.map .int)
  | [] => rfl
  | x :: xs => by
    show (match some (AV.int x), frzAs R (xs.map .int) with | some y, some ys => some (y :: ys) | _, _ => none) = _
    rw [frz_ints R xs]; rfl
theorem frz_TI (R : Nat → Option AV) (xs : List Int) : frzA R (TI xs) = some (TI xs) := by
  show (frzAs R (xs.map AV.int)).map AV.tup = _
  rw [frz_ints]; rfl
theorem frz_rT (R : Nat → Option AV) (r : Row) : frzA R (rT r) = some (rT r) := by
  show (match frzA R (TI r.u), (match frzA R (TI r.v), (match frzA R (TI r.w), some [] with | some y, some ys => some (y :: ys) | _, _ => none) with | some y, some ys => some (y :: ys) | _, _ => none) with | some y, some ys => some (y :: ys) | _, _ => none).map AV.tup = _
  rw [frz_TI, frz_TI, frz_TI]; rfl
theorem frz_rows (R : Nat → Option AV) : ∀ rs : List Row, frzAs R (rs.map rT) = some (rs.map rT)
  | [] => rfl
  | r :: rs => by
    show (match frzA R (rT r), frzAs R (rs.map rT) with | some y, some ys => some (y :: ys) | _, _ => none) = _
    rw [frz_rT, frz_rows R rs]; rfl
structure Fine (a b c : Int) (rs : List Row) : Prop where
  fits : ∀ r ∈ rs, r.Fits a b c
  a1 : 1 ≤ a
  a2 : a ≤ 36
  b1 : 1 ≤ b
  b2 : b ≤ 36
  c1 : 1 ≤ c
  c2 : c ≤ 36
  len : rs.length ≤ 400
theorem new_S (n : Nat) {a b c : Int} {rs : List Row} (F : Fine a b c rs) (h : AHeap) : newV (orc tab (n + 3)) 0 [SZ a b c, .lst (rs.map rL)] h = .ok (SCH a b c rs) h := by
  have l : (orc tab (n + 3)).ct.init.lookup 0 = some f_Scheme___init__ := rfl
  have i := init_x n a b c rs F.fits ⟨F.a1, F.a2⟩ ⟨F.b1, F.b2⟩ ⟨F.c1, F.c2⟩ F.len h
  unfold newV
  simp only [l]
  show exitO h (match run tab (n + 3) f_Scheme___init__ [.ref h.length, SZ a b c, .lst (rs.map rL)] (h ++ [.ins 0 [] []]) with
    | .ok .non h' => .ok (.ref h.length) h'
    | .ok _ _ => .bad
    | .exc k ks vs h' => .exc k ks vs h'
    | .bad => .bad) = _
  rw [i]
  refine exit_new fun R => ?_
  show (match frzA R (SZ a b c), (match (frzAs R (rs.map rT)).map AV.tup, some [] with | some y, some ys => some (y :: ys) | _, _ => none) with | some y, some ys => some (y :: ys) | _, _ => none) = _
  rw [frz_rows]; rfl
theorem at_fS (n : Nat) (a b c : Int) (rs : List Row) (h : AHeap) : attrV (orc tab n) fS (SCH a b c rs) h = .ok (SZ a b c) h := rfl
theorem at_fP (n : Nat) (a b c : Int) (rs : List Row) (h : AHeap) : attrV (orc tab n) fP (SCH a b c rs) h = .ok (.tup (rs.map rT)) h := rfl
/-! ### additions -/
def nz (xs : List Int) : Nat := (xs.filter fun x => decide (x ≠ 0)).length
def cst (xs : List Int) : Int := if (0 : Int) > (nz xs : Int) - 1 then 0 else (nz xs : Int) - 1
theorem run_cost_of (n : Nat) (A : AV) (xs : List Int) (hA : items A = some (xs.map .int)) (hl : xs.length ≤ 1000) (h : AHeap) : run tab (n + 1) f_cost_of [A] h = .ok (.int (cst xs)) h := by
  refine run_eq (show tab.fns[f_cost_of]? = some fd_cost_of from rfl) (σ := [some A, none]) rfl ?_ rfl
  show Out.bnd (xec _ ir_cost_of _ _) _ = _
  have lt : lcL (turn (orc tab n) [some A, none] [1] [1] (.cmp .NotEq (.var 1) (.cst (.int 0))) (.var 1)) (xs.map .int) h = .ok ((xs.filter fun x => decide (x ≠ 0)).map .int) h :=
    lt_filter AV.int AV.int _ (by
      intro x _
      refine ⟨_, bindT_one _ _ _ _, ?_, rfl⟩
      simp only [wipeL]
      walk_at "exe"
      simp)
  have m : (((xs.filter fun x => decide (x ≠ 0)).map AV.int).length ≤ line) = True := le_line (Nat.le_trans (List.length_filter_le _ _) hl)
  have l : (((xs.filter fun x => decide (x ≠ 0)).map AV.int).length : Int) = (nz xs : Nat) := by rw [List.length_map]; rfl
  unfold ir_cost_of cst
  generalize (xs.filter fun x => decide (x ≠ 0)).map AV.int = ys at lt m l
  walk_at "exh"
def fa (rs : List Row) : Int := (rs.map fun r => cst r.u).sum
def fb (rs : List Row) : Int := (rs.map fun r => cst r.v).sum
def fc (c : Int) (rs : List Row) : Int := ((List.range c.toNat).map fun (k : Nat) => cst (rs.map fun r => r.w.getD k 0)).sum
theorem rngL0 (c : Int) : rngL 0 c = (List.range c.toNat).map fun (k : Nat) => AV.int (k : Nat) := by
  unfold rngL
  rw [Int.sub_zero]
  refine List.map_congr_left fun k _ => ?_
  rw [Int.zero_add]
theorem sub_rT0 (r : Row) (h : AHeap) : subV (rT r) (.int 0) h = .ok (TI r.u) h := rfl
theorem sub_rT1 (r : Row) (h : AHeap) : subV (rT r) (.int 1) h = .ok (TI r.v) h := rfl
theorem sub_rT2 (r : Row) (h : AHeap) : subV (rT r) (.int 2) h = .ok (TI r.w) h := rfl
theorem sub_TI {xs : List Int} {k : Nat} (hk : k < xs.length) (h : AHeap) : subV (TI xs) (.int (k : Nat)) h = .ok (.int (xs.getD k 0)) h := by
  show M.of (L2.atI (xs.map AV.int) (k : Nat)) h = _
  rw [at_int hk]; rfl
theorem sub_LI {xs : List Int} {k : Nat} (hk : k < xs.length) (h : AHeap) : subV (LI xs) (.int (k : Nat)) h = .ok (.int (xs.getD k 0)) h := by
  show M.of (L2.atI (xs.map AV.int) (k : Nat)) h = _
  rw [at_int hk]; rfl
theorem sub_SZ2 (a b c : Int) (h : AHeap) : subV (SZ a b c) (.int 2) h = .ok (.int c) h := rfl
def colE : NT.E := match ir_role_adds with
  | .seq _ (.seq _ (.seq (.asg _ (.blt _ (.cons (.lc _ _ _ _ (.call _ (.cons e _))) _))) _)) => e
  | _ => .nil
theorem col (n : Nat) (S : AV) (v2 v3 v4 v5 : Option AV) {a b c : Int} {rs : List Row} (F : Fine a b c rs) (k : Nat) (hk : k < c.toNat) (h : AHeap) :
    ev (orc tab n) [some S, some (.tup (rs.map rT)), v2, v3, v4, v5, some (.int (k : Nat))] colE h = .ok (LI (rs.map fun r => r.w.getD k 0)) h := by
  have lt : lcL (turn (orc tab n) [some S, some (.tup (rs.map rT)), v2, v3, v4, v5, some (.int (k : Nat))] [5] [5] (.tv (.cst (.bl true))) (.sub (.sub (.var 5) (.cst (.int 2))) (.var 6))) (rs.map rT) h = .ok (rs.map fun r => .int (r.w.getD k 0)) h :=
    lt_map rT (fun r => .int (r.w.getD k 0)) (by
      intro r hr
      have f := (F.fits r hr).2.2
      have e2 := sub_rT2 r h
      have e3 := sub_TI (xs := r.w) (k := k) (by omega) h
      simp only [wipeL]
      generalize rT r = R at e2 ⊢
      generalize TI r.w = W at e2 e3
      generalize AV.int (r.w.getD k 0) = z at e3 ⊢
      clear f hr
      walk_at "exh")
  have i : items (.tup (rs.map rT)) = some (rs.map rT) := rfl
  have m : ((rs.map fun r => AV.int (r.w.getD k 0)).length ≤ line) = True := le_line (Nat.le_trans F.len (by decide))
  have q : AV.lst (rs.map fun r => AV.int (r.w.getD k 0)) = LI (rs.map fun r => r.w.getD k 0) := by unfold LI; rw [List.map_map]; rfl
  rw [← q]
  clear q F hk
  generalize rs.map rT = T at lt i ⊢
  generalize (rs.map fun r => AV.int (r.w.getD k 0)) = Y at lt m ⊢
  unfold colE ir_role_adds
  walk_at "exh"
theorem run_role (n : Nat) {a b c : Int} {rs : List Row} (F : Fine a b c rs) (h : AHeap) : run tab (n + 2) f_role_adds [SZ a b c, .tup (rs.map rT)] h = .ok (.tup [.int (fa rs), .int (fb rs), .int (fc c rs)]) h := by
  refine run_eq (show tab.fns[f_role_adds]? = some fd_role_adds from rfl) (σ := [some (SZ a b c), some (.tup (rs.map rT)), none, none, none, none, none]) rfl ?_ rfl
  show Out.bnd (xec _ ir_role_adds _ _) _ = _
  have hu : ∀ r ∈ rs, r.u.length ≤ 1000 ∧ r.v.length ≤ 1000 := fun r hr => by
    obtain ⟨f1, f2, _⟩ := F.fits r hr
    have := F.a2
    have := F.b2
    omega
  have l1 : ∀ σ : NT.Loc, σ.length = 7 → lcL (turn (orc tab (n + 1)) σ [5] [5] (.tv (.cst (.bl true))) (.call f_cost_of (.cons (.sub (.var 5) (.cst (.int 0))) (.nil)))) (rs.map rT) h = .ok ((rs.map fun r => cst r.u).map .int) h := fun σ hσ => by
    rw [List.map_map]
    exact lt_map rT (fun r => .int (cst r.u)) (by
      intro r hr
      have e := sub_rT0 r h
      have c1 := run_cost_of n (TI r.u) r.u rfl (hu r hr).1 h
      have e5 : (((σ.set 5 none).set 5 (some (rT r)))[5]?.getD none) = some (rT r) := by simp [hσ]
      simp only [wipeL]
      generalize rT r = R at e e5 ⊢
      generalize TI r.u = W at e c1
      clear hu F hr
      walk_at "exh")
  have l2 : ∀ σ : NT.Loc, σ.length = 7 → lcL (turn (orc tab (n + 1)) σ [5] [5] (.tv (.cst (.bl true))) (.call f_cost_of (.cons (.sub (.var 5) (.cst (.int 1))) (.nil)))) (rs.map rT) h = .ok ((rs.map fun r => cst r.v).map .int) h := fun σ hσ => by
    rw [List.map_map]
    exact lt_map rT (fun r => .int (cst r.v)) (by
      intro r hr
      have e := sub_rT1 r h
      have c1 := run_cost_of n (TI r.v) r.v rfl (hu r hr).2 h
      have e5 : (((σ.set 5 none).set 5 (some (rT r)))[5]?.getD none) = some (rT r) := by simp [hσ]
      simp only [wipeL]
      generalize rT r = R at e e5 ⊢
      generalize TI r.v = W at e c1
      clear hu F hr
      walk_at "exh")
  have l3 : ∀ v2 v3, lcL (turn (orc tab (n + 1)) [some (SZ a b c), some (.tup (rs.map rT)), v2, v3, none, none, none] [6] [6] (.tv (.cst (.bl true))) (.call f_cost_of (.cons colE (.nil)))) (rngL 0 c) h = .ok (((List.range c.toNat).map fun (k : Nat) => cst (rs.map fun r => r.w.getD k 0)).map .int) h := fun v2 v3 => by
    rw [rngL0, List.map_map]
    exact lt_map (C := orc tab (n + 1)) (σ := [some (SZ a b c), some (.tup (rs.map rT)), v2, v3, none, none, none]) (h := h) (is := [6]) (vs := [6]) (elt := .call f_cost_of (.cons colE (.nil))) (fun (k : Nat) => AV.int (k : Nat)) (fun (k : Nat) => .int (cst (rs.map fun r => r.w.getD k 0))) (by
      intro k hk
      have e := col (n + 1) (SZ a b c) v2 v3 none none F k (List.mem_range.1 hk) h
      have c1 := run_cost_of n (LI (rs.map fun r => r.w.getD k 0)) _ rfl (by rw [List.length_map]; exact Nat.le_trans F.len (by decide)) h
      simp only [wipeL, bindT_one, bnd_ok, List.set_cons_succ, List.set_cons_zero]
      generalize colE = q at e ⊢
      generalize LI (rs.map fun r => r.w.getD k 0) = W at e c1
      generalize rs.map rT = T at e ⊢
      generalize SZ a b c = S at e ⊢
      clear l1 l2 hu hk F
      walk_at "exh")
  have i : items (.tup (rs.map rT)) = some (rs.map rT) := rfl
  have ll := F.len
  have m1 : (((rs.map fun r => cst r.u).map AV.int).length ≤ line) = True := le_line (by rw [List.length_map]; omega)
  have m2 : (((rs.map fun r => cst r.v).map AV.int).length ≤ line) = True := le_line (by rw [List.length_map]; omega)
  have m3 : ((((List.range c.toNat).map fun (k : Nat) => cst (rs.map fun r => r.w.getD k 0)).map AV.int).length ≤ line) = True := le_line (by have := F.c2; simp; omega)
  have s2 := sub_SZ2 a b c h
  have r3 : rngOk 0 c = true := by
    have := F.c1; have := F.c2
    unfold rngOk; simp only [Bool.and_eq_true, decide_eq_true_eq]; omega
  have a1 := allI_map (rs.map fun r => cst r.u)
  have a2 := allI_map (rs.map fun r => cst r.v)
  have a3 := allI_map ((List.range c.toNat).map fun (k : Nat) => cst (rs.map fun r => r.w.getD k 0))
  unfold fa fb fc
  have l1 := l1 [some (SZ a b c), some (.tup (rs.map rT)), none, none, none, none, none] rfl
  have l2 := l2 [some (SZ a b c), some (.tup (rs.map rT)), some (.int (rs.map fun r => cst r.u).sum), none, none, none, none] rfl
  have l3 := l3 (some (.int (rs.map fun r => cst r.u).sum)) (some (.int (rs.map fun r => cst r.v).sum))
  generalize ((List.range c.toNat).map fun (k : Nat) => cst (rs.map fun r => r.w.getD k 0)) = X3 at *
  generalize (rs.map fun r => cst r.u) = X1 at *
  generalize (rs.map fun r => cst r.v) = X2 at *
  generalize rs.map rT = T at *
  generalize SZ a b c = S at *
  clear F hu ll
  unfold colE ir_role_adds at l3
  unfold ir_role_adds
  walk_at "exh"
/-! ### properties -/
theorem p_sizes (n : Nat) (a b c : Int) (rs : List Row) (h : AHeap) : run tab (n + 1) f_Scheme_sizes [SCH a b c rs] h = .ok (SZ a b c) h := by
  refine run_eq (show tab.fns[f_Scheme_sizes]? = some fd_Scheme_sizes from rfl) (σ := [some (SCH a b c rs)]) rfl ?_ rfl
  show Out.bnd (xec _ ir_Scheme_sizes _ _) _ = _
  have f := at_fS n a b c rs h
  generalize SCH a b c rs = S at f ⊢
  unfold ir_Scheme_sizes
  walk_at "exh"
theorem p_products (n : Nat) (a b c : Int) (rs : List Row) (h : AHeap) : run tab (n + 1) f_Scheme_products [SCH a b c rs] h = .ok (.tup (rs.map rT)) h := by
  refine run_eq (show tab.fns[f_Scheme_products]? = some fd_Scheme_products from rfl) (σ := [some (SCH a b c rs)]) rfl ?_ rfl
  show Out.bnd (xec _ ir_Scheme_products _ _) _ = _
  have f := at_fP n a b c rs h
  generalize SCH a b c rs = S at f ⊢
  unfold ir_Scheme_products
  walk_at "exh"
theorem a_sizes (n : Nat) (a b c : Int) (rs : List Row) (h : AHeap) : attrV (orc tab (n + 1)) nmSizes (SCH a b c rs) h = .ok (SZ a b c) h := noexc_eq (p_sizes n a b c rs h)
theorem a_products (n : Nat) (a b c : Int) (rs : List Row) (h : AHeap) : attrV (orc tab (n + 1)) nmProducts (SCH a b c rs) h = .ok (.tup (rs.map rT)) h := noexc_eq (p_products n a b c rs h)
theorem r_len (n : Nat) (a b c : Int) (rs : List Row) (h : AHeap) : run tab (n + 1) f_Scheme___len__ [SCH a b c rs] h = .ok (.int rs.length) h := by
  refine run_eq (show tab.fns[f_Scheme___len__]? = some fd_Scheme___len__ from rfl) (σ := [some (SCH a b c rs)]) rfl ?_ rfl
  show Out.bnd (xec _ ir_Scheme___len__ _ _) _ = _
  have f := at_fP n a b c rs h
  have l : ((rs.map rT).length : Int) = rs.length := by rw [List.length_map]
  generalize SCH a b c rs = S at f ⊢
  unfold ir_Scheme___len__
  walk_at "exh"
theorem len_S (n : Nat) (a b c : Int) (rs : List Row) (hl : rs.length ≤ 400) (h : AHeap) : bltO (orc tab (n + 1)) .len [SCH a b c rs] h = .ok (.int rs.length) h := by
  have q : noexc ((orc tab (n + 1)).call f_Scheme___len__ [SCH a b c rs]) h = .ok (.int rs.length) h := noexc_eq (r_len n a b c rs h)
  show M.bind (noexc ((orc tab (n + 1)).call f_Scheme___len__ [SCH a b c rs])) _ h = _
  rw [bind_app, q, bnd_ok, bind_app]
  show Out.bnd (.ok (rs.length : Int) h) _ = _
  rw [bnd_ok]
  exact ok1_of (by simp only [Bool.and_eq_true, decide_eq_true_eq]; omega) _ _
theorem sum3 (C : Orc) (x y z : Int) (h : AHeap) : bltO C .sum [.tup [.int x, .int y, .int z]] h = .ok (.int [x, y, z].sum) h := sumT C [x, y, z] h
theorem run_adds (n : Nat) {a b c : Int} {rs : List Row} (F : Fine a b c rs) (h : AHeap) : run tab (n + 3) f_Scheme_adds [SCH a b c rs] h = .ok (.int [fa rs, fb rs, fc c rs].sum) h := by
  refine run_eq (show tab.fns[f_Scheme_adds]? = some fd_Scheme_adds from rfl) (σ := [some (SCH a b c rs)]) rfl ?_ rfl
  show Out.bnd (xec _ ir_Scheme_adds _ _) _ = _
  have f1 := at_fS (n + 2) a b c rs h
  have f2 := at_fP (n + 2) a b c rs h
  have r := run_role n F h
  have s := sum3 (orc tab (n + 2)) (fa rs) (fb rs) (fc c rs) h
  generalize SCH a b c rs = S at f1 f2 ⊢
  generalize rs.map rT = T at f2 r
  unfold ir_Scheme_adds
  walk_at "exh"
theorem a_adds (n : Nat) {a b c : Int} {rs : List Row} (F : Fine a b c rs) (h : AHeap) : attrV (orc tab (n + 3)) nmAdds (SCH a b c rs) h = .ok (.int [fa rs, fb rs, fc c rs].sum) h := noexc_eq (run_adds n F h)
/-! ### small numbers -/
theorem sum_bd (B : Int) : ∀ xs : List Int, (∀ x ∈ xs, 0 ≤ x ∧ x ≤ B) → 0 ≤ xs.sum ∧ xs.sum ≤ B * xs.length
  | [], _ => by simp
  | x :: xs, hx => by
    obtain ⟨h1, h2⟩ := sum_bd B xs fun y hy => hx y (List.mem_cons_of_mem _ hy)
    obtain ⟨h3, h4⟩ := hx x List.mem_cons_self
    rw [List.sum_cons, List.length_cons]
    push_cast
    rw [Int.mul_add]
    omega
theorem cst_bd (xs : List Int) (hl : xs.length ≤ 1000) : 0 ≤ cst xs ∧ cst xs ≤ 1000 := by
  have : nz xs ≤ xs.length := List.length_filter_le _ _
  unfold cst
  split <;> omega
theorem f_bd {a b c : Int} {rs : List Row} (F : Fine a b c rs) : (0 ≤ fa rs ∧ fa rs ≤ 400000) ∧ (0 ≤ fb rs ∧ fb rs ≤ 400000) ∧ 0 ≤ fc c rs ∧ fc c rs ≤ 400000 := by
  have hl := F.len
  have hu : ∀ r ∈ rs, r.u.length ≤ 1000 ∧ r.v.length ≤ 1000 := fun r hr => by
    obtain ⟨f1, f2, _⟩ := F.fits r hr
    have := F.a2
    have := F.b2
    omega
  refine ⟨?_, ?_, ?_⟩
  · obtain ⟨h1, h2⟩ := sum_bd 1000 (rs.map fun r => cst r.u) (fun x hx => by
      obtain ⟨r, hr, rfl⟩ := List.mem_map.1 hx
      exact cst_bd _ (hu r hr).1)
    rw [List.length_map] at h2
    exact ⟨h1, by unfold fa; omega⟩
  · obtain ⟨h1, h2⟩ := sum_bd 1000 (rs.map fun r => cst r.v) (fun x hx => by
      obtain ⟨r, hr, rfl⟩ := List.mem_map.1 hx
      exact cst_bd _ (hu r hr).2)
    rw [List.length_map] at h2
    exact ⟨h1, by unfold fb; omega⟩
  · obtain ⟨h1, h2⟩ := sum_bd 1000 ((List.range c.toNat).map fun (k : Nat) => cst (rs.map fun r => r.w.getD k 0)) (fun x hx => by
      obtain ⟨k, hk, rfl⟩ := List.mem_map.1 hx
      exact cst_bd _ (by rw [List.length_map]; omega))
    rw [List.length_map, List.length_range] at h2
    have := F.c2
    exact ⟨h1, by unfold fc; omega⟩
/-! ### a drawn scheme -/
def rowsB : NT.S := match ir__law_scheme with
  | .seq _ (.seq _ (.seq (.for_ _ _ b) _)) => b
  | s => s
/-- the numbers of one part -/
def entE : NT.E := match ir__law_scheme with
  | .seq _ (.seq _ (.seq (.for_ _ _ (.seq (.expr (.bm _ _ (.cons (.blt _ (.cons (.lc _ _ _ _ e) _)) _))) _)) _)) => e
  | _ => .nil
def Small (xs : List Int) : Prop := ∀ x ∈ xs, x.natAbs ≤ 9
theorem rng_s (k : Int) (h0 : 0 ≤ k) (h1 : k ≤ 1000) : rngOk 0 k = true := by unfold rngOk; simp only [Bool.and_eq_true, decide_eq_true_eq]; omega
theorem ents (m : Nat) (σ : NT.Loc) (hσ : σ.length = 8) {b : Bag} (hb : b.Ok) (hs : AHeap) (k : Int) (k0 : 0 ≤ k) (k1 : k ≤ 36) (h0 : σ[0]? = some (some (.ref 0))) (h6 : σ[6]? = some (some (.int k))) :
    Rn (ev (orc tab (m + 2)) σ entE (bagO b :: hs)) fun v h' => ∃ xs b', v = LI xs ∧ (xs.length : Int) = k ∧ Small xs ∧ b'.Ok ∧ h' = bagO b' :: hs := by
  have e6 : σ[6]?.getD none = some (.int k) := by rw [h6]; rfl
  have ei : evI (orc tab (m + 2)) σ (.rng (.cst (.int 0)) (.var 6)) (bagO b :: hs) = .ok (rngL 0 k) (bagO b :: hs) := by
    have r := rng_s k k0 (by omega)
    clear h0 h6
    walk_at "exh"
  have hl : (rngL 0 k).length = k.toNat := by unfold rngL; simp
  have lc : Rn (lcL (turn (orc tab (m + 2)) σ [7] [7] (.tv (.cst (.bl true))) (.call f__law_pick (.cons (.var 0) (.cons (.lst (.cons (.cst (.int 0)) (.cons (.cst (.int 1)) (.cons (.cst (.int 1)) (.cons (.neg (.cst (.int 1))) (.cons (.cst (.int 2)) (.cons (.bin .Sub (.call f__law_draw (.cons (.var 0) (.cons (.cst (.int 19)) (.nil)))) (.cst (.int 9))) (.nil)))))))) (.nil))))) (rngL 0 k) (bagO b :: hs))
      fun r h' => ∃ xs b', r = xs.map AV.int ∧ (xs.length : Int) = k ∧ Small xs ∧ b'.Ok ∧ h' = bagO b' :: hs := by
    refine rn_lc (fun i acc h => ∃ xs b', acc = xs.map AV.int ∧ xs.length = i ∧ Small xs ∧ Bag.Ok b' ∧ h = bagO b' :: hs) _ ?_ ?_ _ ⟨[], b, rfl, rfl, (fun _ h => nomatch h), hb, rfl⟩
    · rintro i x acc h hx ⟨xs, b', rfl, hi, hg, hb', rfl⟩
      apply turn_rn
      simp only [wipeL]
      have e0 : ((σ.set 7 none).set 7 (some x))[0]?.getD none = some (.ref 0) := by simp [h0]
      obtain ⟨_, _, e1, d, b2, rfl, f1, f2, hb2, rfl⟩ := (run_draw hdraw hdp (m + 1) hb' hs (m := 19) (by decide) (divOk_s (by decide) (by decide))).get
      obtain ⟨v, _, e2, b3, hv, hb3, rfl⟩ := (run_pick hpick hdraw hdp m hb2 hs [.int 0, .int 1, .int 1, .int (-1), .int 2, .int (d - 9)] (by simp) (by simp)).get
      obtain ⟨z, rfl, hz⟩ : ∃ z : Int, v = .int z ∧ z.natAbs ≤ 9 := by
        simp only [List.mem_cons, List.not_mem_nil, or_false] at hv
        rcases hv with rfl | rfl | rfl | rfl | rfl | rfl <;> exact ⟨_, rfl, by omega⟩
      have goal : (∃ xs' b'', (xs.map AV.int ++ consO (some (AV.int z)) []) = xs'.map AV.int ∧ xs'.length = i + 1 ∧ Small xs' ∧ Bag.Ok b'' ∧ bagO b3 :: hs = bagO b'' :: hs) :=
        ⟨xs ++ [z], b3, by simp [consO], by simp [hi], (fun y hy => by
          rcases List.mem_append.1 hy with q | q
          · exact hg y q
          · rw [List.mem_singleton.1 q]; exact hz), hb3, rfl⟩
      clear hv hg hz ei e6 h0 h6 hb hb' hb2 hb3
      walk_at "exh"
      exact goal
    · rintro acc h ⟨xs, b', e1, e2, e3, e4, e5⟩
      exact ⟨xs, b', e1, by omega, e3, e4, e5⟩
  obtain ⟨r, h', el, xs, b', rfl, q1, q2, q3, rfl⟩ := lc.get
  have m1 : ((xs.map AV.int).length ≤ line) = True := le_line (by omega)
  refine Rn.eq (a := LI xs) (h := bagO b' :: hs) ?_ ⟨xs, b', rfl, q1, q2, q3, rfl⟩
  show ev (orc tab (m + 2)) σ (.lc [7] [7] (.rng (.cst (.int 0)) (.var 6)) (.tv (.cst (.bl true))) _) _ = _
  rw [ev_lc, ei, bnd_ok, bind_app]
  have el' := el
  rw [show (turn (orc tab (m + 2)) σ [7] [7] (.tv (.cst (.bl true))) (.call f__law_pick (.cons (.var 0) (.cons (.lst (.cons (.cst (.int 0)) (.cons (.cst (.int 1)) (.cons (.cst (.int 1)) (.cons (.neg (.cst (.int 1))) (.cons (.cst (.int 2)) (.cons (.bin .Sub (.call f__law_draw (.cons (.var 0) (.cons (.cst (.int 19)) (.nil)))) (.cst (.int 9))) (.nil)))))))) (.nil))))) = _ from rfl] at el'
  refine Eq.trans (congrArg (fun o => Out.bnd o fun ys => ok1 (decide (ys.length ≤ line)) (AV.lst ys)) el') ?_
  rw [bnd_ok]
  exact ok1_of (by simpa using m1) _ _
theorem row_v (m : Nat) (σ : NT.Loc) (hσ : σ.length = 8) {b : Bag} (hb : b.Ok) (hs : AHeap) (a b' c : Int) (ha : 0 ≤ a ∧ a ≤ 36) (hb' : 0 ≤ b' ∧ b' ≤ 36) (hc : 0 ≤ c ∧ c ≤ 36) (h0 : σ[0]? = some (some (.ref 0))) (h3 : σ[3]? = some (some (SZ a b' c))) :
    Rn (ev (orc tab (m + 2)) σ (.blt .tuple (.cons (.lc [6] [6] (.itv (.var 3)) (.tv (.cst (.bl true))) entE) .nil)) (bagO b :: hs)) fun v h' => ∃ r b2, v = rL r ∧ r.Fits a b' c ∧ (Small r.u ∧ Small r.v ∧ Small r.w) ∧ b2.Ok ∧ h' = bagO b2 :: hs := by
  have k0 : ∀ k : Int, ((σ.set 6 none).set 6 (some (.int k)))[0]? = some (some (.ref 0)) := fun k => by simp [h0]
  have k6 : ∀ k : Int, ((σ.set 6 none).set 6 (some (.int k)))[6]? = some (some (.int k)) := fun k => by simp [hσ]
  obtain ⟨_, _, e1, u, b1, rfl, l1, s1, o1, rfl⟩ := (ents m ((σ.set 6 none).set 6 (some (.int a))) (by simp [hσ]) hb hs a ha.1 ha.2 (k0 a) (k6 a)).get
  obtain ⟨_, _, e2, v, b2, rfl, l2, s2, o2, rfl⟩ := (ents m ((σ.set 6 none).set 6 (some (.int b'))) (by simp [hσ]) o1 hs b' hb'.1 hb'.2 (k0 b') (k6 b')).get
  obtain ⟨_, _, e3, w, b3, rfl, l3, s3, o3, rfl⟩ := (ents m ((σ.set 6 none).set 6 (some (.int c))) (by simp [hσ]) o2 hs c hc.1 hc.2 (k0 c) (k6 c)).get
  have el : lcL (turn (orc tab (m + 2)) σ [6] [6] (.tv (.cst (.bl true))) entE) [.int a, .int b', .int c] (bagO b :: hs) = .ok [LI u, LI v, LI w] (bagO b3 :: hs) :=
    lcL_some (turn_is e1) (lcL_some (turn_is e2) (lcL_some (turn_is e3) rfl))
  have it : items (SZ a b' c) = some [.int a, .int b', .int c] := rfl
  have e : σ[3]?.getD none = some (SZ a b' c) := by rw [h3]; rfl
  have m1 : (([LI u, LI v, LI w] : List AV).length ≤ line) = True := eq_true (by simp [line])
  have q : ev (orc tab (m + 2)) σ (.blt .tuple (.cons (.lc [6] [6] (.itv (.var 3)) (.tv (.cst (.bl true))) entE) .nil)) (bagO b :: hs) = .ok (.tup [LI u, LI v, LI w]) (bagO b3 :: hs) := by
    generalize entE = q at el ⊢
    generalize [LI u, LI v, LI w] = ys at el m1 ⊢
    generalize SZ a b' c = S at it e
    clear k0 k6 e1 e2 e3 h0 h3
    walk_at "exh"
  exact Rn.eq q ⟨⟨u, v, w⟩, b3, rfl, ⟨l1, l2, l3⟩, ⟨s1, s2, s3⟩, o3, rfl⟩
structure Drawn3 (a b c : Int) (most : Int) (rs : List Row) : Prop where
  fits : ∀ r ∈ rs, r.Fits a b c ∧ Small r.u ∧ Small r.v ∧ Small r.w
  a : 1 ≤ a ∧ a ≤ most
  b : 1 ≤ b ∧ b ≤ most
  c : 1 ≤ c ∧ c ≤ most
theorem row_turn (m : Nat) (i : Int) (M0 L0 : AV) (w5 : Option AV) {b : Bag} (hb : b.Ok) (hs : AHeap) (a b' c : Int) (ha : 0 ≤ a ∧ a ≤ 36) (hb' : 0 ≤ b' ∧ b' ≤ 36) (hc : 0 ≤ c ∧ c ≤ 36) (rs : List Row) (hl : rs.length ≤ 1000) :
    ∃ r b2, forB (orc tab (m + 2)) [5] rowsB (.int i) [some (.ref 0), some M0, some L0, some (SZ a b' c), some (.ref (hs.length + 1)), w5, none, none] (bagO b :: (hs ++ [.lst (rs.map rL)])) =
      .ok (.nx [some (.ref 0), some M0, some L0, some (SZ a b' c), some (.ref (hs.length + 1)), some (.int i), none, none]) (bagO b2 :: (hs ++ [.lst ((rs ++ [r]).map rL)])) ∧ r.Fits a b' c ∧ (Small r.u ∧ Small r.v ∧ Small r.w) ∧ b2.Ok := by
  obtain ⟨_, _, e, r, b2, rfl, f, s, o, rfl⟩ := (row_v m [some (.ref 0), some M0, some L0, some (SZ a b' c), some (.ref (hs.length + 1)), some (.int i), none, none] rfl hb (hs ++ [.lst (rs.map rL)]) a b' c ha hb' hc rfl rfl).get
  refine ⟨r, b2, ?_, f, s, o⟩
  rw [forB_app]
  have g1 := bmG_app (lst_beside b hs (rs.map rL))
  have g2 := bmV_app (lst_beside b2 hs (rs.map rL)) (by rw [List.length_map]; unfold line; omega) (rL r)
  rw [set_beside, show rs.map rL ++ [rL r] = (rs ++ [r]).map rL by simp] at g2
  generalize bagO b :: (hs ++ [AObj.lst (rs.map rL)]) = h0 at e g1 ⊢
  generalize bagO b2 :: (hs ++ [AObj.lst (rs.map rL)]) = h1 at e g2
  generalize bagO b2 :: (hs ++ [AObj.lst ((rs ++ [r]).map rL)]) = h2 at g2 ⊢
  generalize rL r = R at e g2
  generalize SZ a b' c = S at e ⊢
  generalize hs.length + 1 = p at e g1 g2 ⊢
  clear f s o hb ha hb' hc hl
  unfold entE ir__law_scheme at e
  unfold rowsB ir__law_scheme
  walk_at "exh"
theorem frz_LI (R : Nat → Option AV) (xs : List Int) : frzA R (LI xs) = some (LI xs) := by
  show (frzAs R (xs.map AV.int)).map AV.lst = _
  rw [frz_ints]; rfl
theorem frz_rL (R : Nat → Option AV) (r : Row) : frzA R (rL r) = some (rL r) := by
  show (match frzA R (LI r.u), (match frzA R (LI r.v), (match frzA R (LI r.w), some [] with | some y, some ys => some (y :: ys) | _, _ => none) with | some y, some ys => some (y :: ys) | _, _ => none) with | some y, some ys => some (y :: ys) | _, _ => none).map AV.tup = _
  rw [frz_LI, frz_LI, frz_LI]; rfl
theorem frz_rowsL (R : Nat → Option AV) : ∀ rs : List Row, frzAs R (rs.map rL) = some (rs.map rL)
  | [] => rfl
  | r :: rs => by
    show (match frzA R (rL r), frzAs R (rs.map rL) with | some y, some ys => some (y :: ys) | _, _ => none) = _
    rw [frz_rL, frz_rowsL R rs]; rfl
theorem sizes_v (m : Nat) {b : Bag} (hb : b.Ok) (hs : AHeap) (most long : Int) (h1 : 1 ≤ most) (h2 : most ≤ 36) :
    ∃ x y z b2, xec (orc tab (m + 2)) (stN 0 ir__law_scheme) [some (.ref 0), some (.int most), some (.int long), none, none, none, none, none] (bagO b :: hs) = .ok (.nx [some (.ref 0), some (.int most), some (.int long), some (SZ x y z), none, none, none, none]) (bagO b2 :: hs) ∧
      (1 ≤ x ∧ x ≤ most) ∧ (1 ≤ y ∧ y ≤ most) ∧ (1 ≤ z ∧ z ≤ most) ∧ b2.Ok := by
  have dr : ∀ {b : Bag} (hb : b.Ok) (i : Int), ∃ d b2, turn (orc tab (m + 2)) [some (.ref 0), some (.int most), some (.int long), none, none, none, none, none] [5] [5] (.tv (.cst (.bl true))) (.bin .Add (.cst (.int 1)) (.call f__law_draw (.cons (.var 0) (.cons (.var 1) (.nil))))) (.int i) (bagO b :: hs) = .ok (some (.int d)) (bagO b2 :: hs) ∧ (1 ≤ d ∧ d ≤ most) ∧ b2.Ok := by
    intro b hb i
    obtain ⟨_, _, e1, d, b2, rfl, f1, f2, hb2, rfl⟩ := (run_draw hdraw hdp (m + 1) hb hs (m := most) (by omega) (divOk_s (by omega) (by omega))).get
    refine ⟨1 + d, b2, turn_is ?_, ⟨by omega, by omega⟩, hb2⟩
    generalize bagO b :: hs = h0 at e1 ⊢
    generalize bagO b2 :: hs = h1 at e1 ⊢
    clear hb hb2
    walk_at "exh"
  obtain ⟨x, b1, e1, f1, o1⟩ := dr hb 0
  obtain ⟨y, b2, e2, f2, o2⟩ := dr o1 1
  obtain ⟨z, b3, e3, f3, o3⟩ := dr o2 2
  refine ⟨x, y, z, b3, ?_, f1, f2, f3, o3⟩
  have el := lcL_some e1 (lcL_some e2 (lcL_some e3 (show lcL (turn (orc tab (m + 2)) [some (.ref 0), some (.int most), some (.int long), none, none, none, none, none] [5] [5] (.tv (.cst (.bl true))) (.bin .Add (.cst (.int 1)) (.call f__law_draw (.cons (.var 0) (.cons (.var 1) (.nil)))))) [] (bagO b3 :: hs) = _ from rfl)))
  have r3 : rngL 0 3 = [.int 0, .int 1, .int 2] := rfl
  have g3 : rngOk 0 3 = true := by decide
  have m1 : (([.int x, .int y, .int z] : List AV).length ≤ line) = True := eq_true (by simp [line])
  unfold SZ
  generalize [AV.int x, .int y, .int z] = ys at el m1 ⊢
  generalize bagO b :: hs = h0 at el ⊢
  generalize bagO b3 :: hs = h1 at el ⊢
  clear e1 e2 e3 dr hb
  show xec _ (.asg 3 (.blt .tuple (.cons (.lc [5] [5] (.rng (.cst (.int 0)) (.cst (.int 3))) (.tv (.cst (.bl true))) (.bin .Add (.cst (.int 1)) (.call f__law_draw (.cons (.var 0) (.cons (.var 1) (.nil)))))) (.nil)))) _ _ = _
  walk_at "exh"
theorem run_scheme (m : Nat) {b : Bag} (hb : b.Ok) (hs : AHeap) (most long : Int) (h1 : 1 ≤ most) (h2 : most ≤ 36) (h3 : 0 ≤ long) (h4 : long ≤ 400) : Rn (run tab (m + 3) f__law_scheme [.ref 0, .int most, .int long] (bagO b :: hs)) fun v h' =>
    ∃ x y z rs b2, v = .tup [SZ x y z, .lst (rs.map rL)] ∧ Drawn3 x y z most rs ∧ (rs.length : Int) ≤ long ∧ b2.Ok ∧ h' = bagO b2 :: hs := by
  obtain ⟨x, y, z, b1, e1, hx, hy, hz, o1⟩ := sizes_v m hb hs most long h1 h2
  obtain ⟨_, _, e3, d, b2, rfl, d0, d1, o2, rfl⟩ := (run_draw hdraw hdp (m + 1) o1 (hs ++ [.lst []]) (m := long + 1) (by omega) (divOk_s (by omega) (by omega))).get
  have e2 : xec (orc tab (m + 2)) (stN 1 ir__law_scheme) [some (.ref 0), some (.int most), some (.int long), some (SZ x y z), none, none, none, none] (bagO b1 :: hs) = .ok (.nx [some (.ref 0), some (.int most), some (.int long), some (SZ x y z), some (.ref (hs.length + 1)), none, none, none]) (bagO b1 :: (hs ++ [.lst []])) := by
    show xec _ (.asg 4 (.mlst (.nil))) _ _ = _
    generalize SZ x y z = S
    walk_at "exe"
  have inv := rn_for (body := forB (orc tab (m + 2)) [5] rowsB) (Q := fun f h' => ∃ (w5 : Option AV) (rs : List Row) (b3 : Bag), f = .nx [some (.ref 0), some (.int most), some (.int long), some (SZ x y z), some (.ref (hs.length + 1)), w5, none, none] ∧ h' = bagO b3 :: (hs ++ [.lst (rs.map rL)]) ∧ (rs.length : Int) ≤ long ∧ (∀ r ∈ rs, r.Fits x y z ∧ Small r.u ∧ Small r.v ∧ Small r.w) ∧ b3.Ok)
    (fun i σ h' => ∃ (w5 : Option AV) (rs : List Row) (b3 : Bag), σ = [some (.ref 0), some (.int most), some (.int long), some (SZ x y z), some (.ref (hs.length + 1)), w5, none, none] ∧ h' = bagO b3 :: (hs ++ [.lst (rs.map rL)]) ∧ rs.length = i ∧ (∀ r ∈ rs, r.Fits x y z ∧ Small r.u ∧ Small r.v ∧ Small r.w) ∧ b3.Ok) (rngL 0 d) (by
    rintro i v σ h' hv ⟨w5, rs, b3, rfl, rfl, hi, hr, o3⟩
    have hid : i < d.toNat := by
      have := (List.getElem?_eq_some_iff.mp hv).1
      simpa [rngL] using this
    have hv := rngL_get hv
    subst hv
    obtain ⟨r, b4, e, f, s, o4⟩ := row_turn m _ (.int most) (.int long) w5 o3 hs x y z (by omega) (by omega) (by omega) rs (by omega)
    rw [e]
    refine ⟨_, rs ++ [r], b4, rfl, rfl, by simp [hi], fun q hq => ?_, o4⟩
    rcases List.mem_append.1 hq with hq | hq
    · exact hr q hq
    · rw [List.mem_singleton.1 hq]; exact ⟨f, s⟩) (by
    rintro σ h' ⟨w5, rs, b3, rfl, rfl, hi, hr, o3⟩
    refine ⟨w5, rs, b3, rfl, rfl, ?_, hr, o3⟩
    have : (rngL 0 d).length = d.toNat := by simp [rngL]
    omega) [some (.ref 0), some (.int most), some (.int long), some (SZ x y z), some (.ref (hs.length + 1)), none, none, none] (bagO b2 :: (hs ++ [.lst []])) ⟨_, [], b2, rfl, rfl, rfl, (fun _ h => nomatch h), o2⟩
  obtain ⟨_, _, e4, w5, rs, b3, rfl, rfl, hl, hr, o3⟩ := inv.get
  have r0 := rng_s d d0 (by omega)
  have body : Out.bnd (xec (orc tab (m + 2)) ir__law_scheme [some (.ref 0), some (.int most), some (.int long), none, none, none, none, none] (bagO b :: hs)) flowV = .ok (.tup [SZ x y z, .ref (hs.length + 1)]) (bagO b3 :: (hs ++ [.lst (rs.map rL)])) := by
    have a1 := seq_step (b := match ir__law_scheme with | .seq _ t => t | s => s) e1
    have a2 := seq_step (b := match ir__law_scheme with | .seq _ (.seq _ t) => t | s => s) e2
    have a3 : xec (orc tab (m + 2)) ir__law_scheme [some (.ref 0), some (.int most), some (.int long), none, none, none, none, none] (bagO b :: hs) = _ := a1.trans a2
    rw [a3]
    unfold rowsB ir__law_scheme at e4
    unfold ir__law_scheme
    generalize bagO b1 :: (hs ++ [AObj.lst []]) = q1 at e3 ⊢
    generalize bagO b2 :: (hs ++ [AObj.lst []]) = q2 at e3 e4
    generalize bagO b3 :: (hs ++ [AObj.lst (rs.map rL)]) = q3 at e4 ⊢
    generalize SZ x y z = S at e4 ⊢
    generalize hs.length + 1 = p at e4 ⊢
    clear a1 a2 a3 e1 e2 inv hr hl hx hy hz hb o1 o2 o3
    simp only [stN]
    walk_at "exh"
  refine Rn.eq (a := .tup [SZ x y z, .lst (rs.map rL)]) (h := bagO b3 :: hs) ?_ ⟨x, y, z, rs, b3, rfl, ⟨hr, hx, hy, hz⟩, hl, o3, rfl⟩
  rw [run_succ (show tab.fns[f__law_scheme]? = some fd__law_scheme from rfl) (m + 2) _ _ (σ := [some (.ref 0), some (.int most), some (.int long), none, none, none, none, none]) rfl]
  show exitO _ (Out.bnd (xec (orc tab (m + 2)) ir__law_scheme _ _) flowV) = _
  rw [body]
  exact exit_bagl (fun R => rfl) (fun R => frz_rowsL R rs)
end K72
set_option linter.all false
set_option maxRecDepth 100000
set_option maxHeartbeats 0
namespace K72
open PySem NT
-- MAC abs_nat evI_enm
local macro_rules | `(tactic| walk_at "exe") => `(tactic| simp only [bnd_ok, bnd_exc, bind_app, pure_app, of_some, ok1_true, guard_true, ite_app, ev_cst, ev_var, ev_bin, ev_neg, ev_cmp, ev_chn, ev_and, ev_or, ev_notv, ev_ifx, ev_tup, ev_lst, ev_mlst, ev_sub, ev_slc, ev_slcL, ev_slcH, ev_call, ev_blt, ev_attr, ev_meth, ev_new, ev_fst, ev_fmt, evJ_nil, evJ_cons, evs_arr, ev_got, gotO_ok, gotO_exc, ev_bm, ev_lc, evT_and, evT_or, evT_not, evT_cmp, evT_chn, evT_tv, evs_nil, evs_cons, evI_rng, evI_zip, evI_itv, xec_skip, xec_seq, seqF_nx, seqF_rt, seqF_bk, seqF_ct, xec_expr, xec_ret, xec_asg, xec_unp, xec_par, xec_setFld, xec_raise, xec_setSub, xec_aug, xec_ife, xec_for, xec_brk, xec_cnt, flowV_nx, flowV_rt, bindT_one, bindT_two, bindT_three, bindT_four, bindT_L2, bindT_L3, lget_app, orc_call, cmp_eqI, cmp_neI, cmp_ltI, cmp_leI, cmp_gtI, cmp_geI, cmp_eqB, cmp_eqS, cmp_neS, cmp_isN, cmp_notN, bin_addI, bin_subI, bin_mulI, bin_divI, bin_modI, bin_powI, neg_I, asB_app, asI_app, asS_app, tru_bl, blt_abs, blt_int, blt_lenL, blt_lenT, blt_lenS, blt_list, blt_listT, blt_tuple, blt_isinst, blt_isinsC, blt_isinsT, blt_all, blt_any, blt_sum, blt_str, blt_max, isiA_nil, isiA_cons, sub_L, sub_T, setAll, bmTy_join, bmV_join, slc_S, slc_L, slc_T, bin_addS, bin_addL, arrL, ln_0, ln_1, ln_2, ln_3, ln_4, ln_5, ln_6, ln_7, ln_8, ln_9, ln_10, ln_11, ln_12, ln_13, ln_14, ln_15, ln_16, ln_17, ln_18, ln_19, ln_20, ln_21, ln_22, ln_23, ln_24, ln_25, ln_26, ln_27, ln_28, ln_29, ln_30, ln_31, ln_32, ln_33, ln_34, ln_35, ln_36, ln_37, ln_38, ln_39, ln_40, ty_non_int, ty_non_bool, ty_non_str, ty_non_list, ty_non_tuple, ty_bl_int, ty_bl_bool, ty_bl_str, ty_bl_list, ty_bl_tuple, ty_int_int, ty_int_bool, ty_int_str, ty_int_list, ty_int_tuple, ty_str_int, ty_str_bool, ty_str_str, ty_str_list, ty_str_tuple, ty_tup_int, ty_tup_bool, ty_tup_str, ty_tup_list, ty_tup_tuple, ty_lst_int, ty_lst_bool, ty_lst_str, ty_lst_list, ty_lst_tuple, bag0, bag1, bag2, bag3, bagS1, bagS2, bagS3, List.cons_append, List.nil_append, List.append_nil, List.getElem?_cons_zero, List.getElem?_cons_succ, List.getElem?_nil, Option.getD_some, Option.getD_none, List.getD_cons_zero, List.getD_cons_succ, List.set_cons_zero, List.set_cons_succ, List.length_cons, List.length_nil, List.map_cons, List.map_nil, Option.map_some, decide_eq_true_eq, Bool.and_true, Bool.true_and, Bool.and_false, Bool.false_and, Bool.or_true, Bool.true_or, Bool.or_false, Bool.false_or, Bool.not_true, Bool.not_false, if_true, if_false, ite_true, ite_false, Bool.false_eq_true, reduceIte, decide_true, decide_false, List.isEmpty_cons, Nat.reduceAdd, Int.cast_ofNat_Int, Int.reduceEq, Int.reduceLT, Int.reduceLE, Int.reduceAdd, Int.reduceSub, Int.reduceMul, Int.reduceNeg, Nat.zero_add, abs_nat, evI_enm])
local macro_rules | `(tactic| walk_at "exh") => `(tactic| simp only [bnd_ok, bnd_exc, bind_app, pure_app, of_some, ok1_true, guard_true, ite_app, ev_cst, ev_var, ev_bin, ev_neg, ev_cmp, ev_chn, ev_and, ev_or, ev_notv, ev_ifx, ev_tup, ev_lst, ev_mlst, ev_sub, ev_slc, ev_slcL, ev_slcH, ev_call, ev_blt, ev_attr, ev_meth, ev_new, ev_fst, ev_fmt, evJ_nil, evJ_cons, evs_arr, ev_got, gotO_ok, gotO_exc, ev_bm, ev_lc, evT_and, evT_or, evT_not, evT_cmp, evT_chn, evT_tv, evs_nil, evs_cons, evI_rng, evI_zip, evI_itv, xec_skip, xec_seq, seqF_nx, seqF_rt, seqF_bk, seqF_ct, xec_expr, xec_ret, xec_asg, xec_unp, xec_par, xec_setFld, xec_raise, xec_setSub, xec_aug, xec_ife, xec_for, xec_brk, xec_cnt, flowV_nx, flowV_rt, bindT_one, bindT_two, bindT_three, bindT_four, bindT_L2, bindT_L3, lget_app, orc_call, cmp_eqI, cmp_neI, cmp_ltI, cmp_leI, cmp_gtI, cmp_geI, cmp_eqB, cmp_eqS, cmp_neS, cmp_isN, cmp_notN, bin_addI, bin_subI, bin_mulI, bin_divI, bin_modI, bin_powI, neg_I, asB_app, asI_app, asS_app, tru_bl, blt_abs, blt_int, blt_lenL, blt_lenT, blt_lenS, blt_list, blt_listT, blt_tuple, blt_isinst, blt_isinsC, blt_isinsT, blt_all, blt_any, blt_sum, blt_str, blt_max, isiA_nil, isiA_cons, sub_L, sub_T, setAll, bmTy_join, bmV_join, slc_S, slc_L, slc_T, bin_addS, bin_addL, arrL, ln_0, ln_1, ln_2, ln_3, ln_4, ln_5, ln_6, ln_7, ln_8, ln_9, ln_10, ln_11, ln_12, ln_13, ln_14, ln_15, ln_16, ln_17, ln_18, ln_19, ln_20, ln_21, ln_22, ln_23, ln_24, ln_25, ln_26, ln_27, ln_28, ln_29, ln_30, ln_31, ln_32, ln_33, ln_34, ln_35, ln_36, ln_37, ln_38, ln_39, ln_40, ty_non_int, ty_non_bool, ty_non_str, ty_non_list, ty_non_tuple, ty_bl_int, ty_bl_bool, ty_bl_str, ty_bl_list, ty_bl_tuple, ty_int_int, ty_int_bool, ty_int_str, ty_int_list, ty_int_tuple, ty_str_int, ty_str_bool, ty_str_str, ty_str_list, ty_str_tuple, ty_tup_int, ty_tup_bool, ty_tup_str, ty_tup_list, ty_tup_tuple, ty_lst_int, ty_lst_bool, ty_lst_str, ty_lst_list, ty_lst_tuple, bag0, bag1, bag2, bag3, bagS1, bagS2, bagS3, List.cons_append, List.nil_append, List.append_nil, List.getElem?_cons_zero, List.getElem?_cons_succ, List.getElem?_nil, Option.getD_some, Option.getD_none, List.getD_cons_zero, List.getD_cons_succ, List.set_cons_zero, List.set_cons_succ, List.length_cons, List.length_nil, List.map_cons, List.map_nil, Option.map_some, decide_eq_true_eq, Bool.and_true, Bool.true_and, Bool.and_false, Bool.false_and, Bool.or_true, Bool.true_or, Bool.or_false, Bool.false_or, Bool.not_true, Bool.not_false, if_true, if_false, ite_true, ite_false, Bool.false_eq_true, reduceIte, decide_true, decide_false, List.isEmpty_cons, Nat.reduceAdd, Int.cast_ofNat_Int, Int.reduceEq, Int.reduceLT, Int.reduceLE, Int.reduceAdd, Int.reduceSub, Int.reduceMul, Int.reduceNeg, Nat.zero_add, abs_nat, evI_enm, *])
/-! ### the law's own count -/
theorem sub_rL0 (r : Row) (h : AHeap) : subV (rL r) (.int 0) h = .ok (LI r.u) h := rfl
theorem sub_rL1 (r : Row) (h : AHeap) : subV (rL r) (.int 1) h = .ok (LI r.v) h := rfl
theorem sub_rL2 (r : Row) (h : AHeap) : subV (rL r) (.int 2) h = .ok (LI r.w) h := rfl
def partE : NT.E := match ir__law_fan with
  | .seq (.asg _ (.lc _ _ _ _ e)) _ => e
  | _ => .nil
def lateE : NT.E := match ir__law_fan with
  | .seq _ (.seq (.asg _ (.lc _ _ _ _ e)) _) => e
  | _ => .nil
def endE : NT.E := match ir__law_fan with
  | .seq _ (.seq _ (.seq (.ret (.lc _ _ _ _ e)) _)) => e
  | _ => .nil
theorem fan_part (n : Nat) (c : AV) (k : Int) (g : Row → List Int) (hg : ∀ r h, subV (rL r) (.int k) h = .ok (LI (g r)) h) (rs : List Row) (hr : rs.length ≤ 400) (hl : ∀ r ∈ rs, (g r).length ≤ 1000) (h : AHeap) :
    turn (orc tab n) [some (.lst (rs.map rL)), some c, none, none, none, none, none, none] [4] [4] (.tv (.cst (.bl true))) partE (.int k) h = .ok (some (.lst (rs.map fun r => .int (nz (g r))))) h := by
  refine turn_is ?_
  have lt : lcL (turn (orc tab n) [some (.lst (rs.map rL)), some c, none, none, some (.int k), none, none, none] [6] [6] (.tv (.cst (.bl true))) (.blt .len (.cons (.lc [7] [7] (.itv (.sub (.var 6) (.var 4))) (.cmp .NotEq (.var 7) (.cst (.int 0))) (.var 7)) (.nil)))) (rs.map rL) h = .ok (rs.map fun r => .int (nz (g r))) h :=
    lt_map rL (fun r => .int (nz (g r))) (by
      intro r hm
      have ft : lcL (turn (orc tab n) [some (.lst (rs.map rL)), some c, none, none, some (.int k), none, some (rL r), none] [7] [7] (.cmp .NotEq (.var 7) (.cst (.int 0))) (.var 7)) ((g r).map .int) h = .ok (((g r).filter fun x => decide (x ≠ 0)).map .int) h :=
        lt_filter AV.int AV.int _ (by
          intro x _
          refine ⟨_, bindT_one _ _ _ _, ?_, rfl⟩
          simp only [wipeL]
          walk_at "exe"
          simp)
      have s := hg r h
      have i := it_LI (g r)
      have m : ((((g r).filter fun x => decide (x ≠ 0)).map AV.int).length ≤ line) = True := le_line (Nat.le_trans (List.length_filter_le _ _) (hl r hm))
      have l : ((((g r).filter fun x => decide (x ≠ 0)).map AV.int).length : Int) = (nz (g r) : Nat) := by rw [List.length_map]; rfl
      simp only [wipeL]
      generalize rL r = R at s ft ⊢
      generalize rs.map rL = RR at ft ⊢
      generalize LI (g r) = L at s i
      generalize ((g r).filter fun x => decide (x ≠ 0)).map AV.int = ys at ft m l
      clear hg hl hm hr
      walk_at "exh")
  have i : items (.lst (rs.map rL)) = some (rs.map rL) := rfl
  have m : ((rs.map fun r => AV.int (nz (g r))).length ≤ line) = True := le_line (by omega)
  generalize rs.map rL = RR at lt i ⊢
  generalize (rs.map fun r => AV.int (nz (g r))) = Y at lt m ⊢
  clear hg hl hr
  unfold partE ir__law_fan
  walk_at "exh"
def nc (rs : List Row) (k : Nat) : Nat := nz (rs.map fun r => r.w.getD k 0)
theorem nc_filter (rs : List Row) (k : Nat) : (rs.filter fun r => decide (r.w.getD k 0 ≠ 0)).length = nc rs k := by
  unfold nc nz
  rw [List.filter_map, List.length_map]; rfl
theorem fan_late (n : Nat) {a b c : Int} (v2 : Option AV) {rs : List Row} (F : Fine a b c rs) (k : Nat) (hk : k < c.toNat) (h : AHeap) :
    ev (orc tab n) [some (.lst (rs.map rL)), some (.int c), v2, none, some (.int (k : Nat)), none, none, none] lateE h = .ok (.int (nc rs k)) h := by
  have ft : lcL (turn (orc tab n) [some (.lst (rs.map rL)), some (.int c), v2, none, some (.int (k : Nat)), none, none, none] [6] [6] (.cmp .NotEq (.sub (.sub (.var 6) (.cst (.int 2))) (.var 4)) (.cst (.int 0))) (.var 6)) (rs.map rL) h = .ok ((rs.filter fun r => decide (r.w.getD k 0 ≠ 0)).map rL) h :=
    lt_filter rL rL _ (by
      intro r hr
      have f := (F.fits r hr).2.2
      refine ⟨_, bindT_one _ _ _ _, ?_, rfl⟩
      have e2 := sub_rL2 r h
      have e3 := sub_LI (xs := r.w) (k := k) (by omega) h
      simp only [wipeL]
      generalize rL r = R at e2 ⊢
      generalize rs.map rL = RR at *
      generalize LI r.w = W at e2 e3
      generalize r.w.getD k 0 = z at e3 ⊢
      clear f hr
      walk_at "exh"
      simp)
  have i : items (.lst (rs.map rL)) = some (rs.map rL) := rfl
  have m : (((rs.filter fun r => decide (r.w.getD k 0 ≠ 0)).map rL).length ≤ line) = True := le_line (Nat.le_trans (List.length_filter_le _ _) (Nat.le_trans F.len (by decide)))
  have l : (((rs.filter fun r => decide (r.w.getD k 0 ≠ 0)).map rL).length : Int) = (nc rs k : Nat) := by rw [List.length_map, nc_filter]
  generalize ((rs.filter fun r => decide (r.w.getD k 0 ≠ 0)).map rL) = ys at ft m l
  generalize rs.map rL = RR at ft i ⊢
  clear F hk
  unfold lateE ir__law_fan
  walk_at "exh"
def mx (x : Int) : Int := if (0 : Int) > x - 1 then 0 else x - 1
theorem end_sum (n : Nat) (v0 v1 v2 v3 : Option AV) (xs : List Int) (hl : xs.length ≤ 1000) (h : AHeap) :
    turn (orc tab n) [v0, v1, v2, v3, none, none, none, none] [5] [5] (.tv (.cst (.bl true))) endE (.lst (xs.map .int)) h = .ok (some (.int (xs.map mx).sum)) h := by
  refine turn_is ?_
  have lt : lcL (turn (orc tab n) [v0, v1, v2, v3, none, some (.lst (xs.map .int)), none, none] [7] [7] (.tv (.cst (.bl true))) (.blt .max (.cons (.bin .Sub (.var 7) (.cst (.int 1))) (.cons (.cst (.int 0)) (.nil))))) (xs.map .int) h = .ok ((xs.map mx).map .int) h := by
    rw [List.map_map]
    exact lt_map AV.int (fun x => .int (mx x)) (by
      intro x _
      simp only [wipeL]
      unfold mx
      walk_at "exe")
  have i : items (.lst (xs.map AV.int)) = some (xs.map .int) := rfl
  have m : (((xs.map mx).map AV.int).length ≤ line) = True := le_line (by rw [List.length_map]; omega)
  have a := allI_map (xs.map mx)
  generalize xs.map AV.int = X at lt i ⊢
  generalize xs.map mx = Y at lt m a ⊢
  unfold endE ir__law_fan
  walk_at "exh"
theorem sum_fa (rs : List Row) : ((rs.map fun r => ((nz r.u : Nat) : Int)).map mx).sum = fa rs := by
  unfold fa; rw [List.map_map]; rfl
theorem sum_fb (rs : List Row) : ((rs.map fun r => ((nz r.v : Nat) : Int)).map mx).sum = fb rs := by
  unfold fb; rw [List.map_map]; rfl
theorem sum_fc (c : Int) (rs : List Row) : (((List.range c.toNat).map fun k => ((nc rs k : Nat) : Int)).map mx).sum = fc c rs := by
  unfold fc; rw [List.map_map]; rfl
theorem run_fan (n : Nat) {a b c : Int} {rs : List Row} (F : Fine a b c rs) (h : AHeap) : run tab (n + 1) f__law_fan [.lst (rs.map rL), .int c] h = .ok (LI [fa rs, fb rs, fc c rs]) h := by
  refine run_eq (show tab.fns[f__law_fan]? = some fd__law_fan from rfl) (σ := [some (.lst (rs.map rL)), some (.int c), none, none, none, none, none, none]) rfl ?_ rfl
  show Out.bnd (xec _ ir__law_fan _ _) _ = _
  have hl := F.len
  have hu : ∀ r ∈ rs, r.u.length ≤ 1000 ∧ r.v.length ≤ 1000 := fun r hr => by
    obtain ⟨f1, f2, _⟩ := F.fits r hr
    have := F.a2
    have := F.b2
    omega
  have p0 := fan_part n (.int c) 0 (fun r => r.u) sub_rL0 rs hl (fun r hr => (hu r hr).1) h
  have p1 := fan_part n (.int c) 1 (fun r => r.v) sub_rL1 rs hl (fun r hr => (hu r hr).2) h
  have l1 := lcL_some p0 (lcL_some p1 (show lcL (turn (orc tab n) [some (.lst (rs.map rL)), some (.int c), none, none, none, none, none, none] [4] [4] (.tv (.cst (.bl true))) partE) [] h = .ok [] h from rfl))
  have t0 : (AV.lst (rs.map fun r => .int (nz r.u))) = .lst ((rs.map fun r => ((nz r.u : Nat) : Int)).map .int) := by rw [List.map_map]; rfl
  have t1 : (AV.lst (rs.map fun r => .int (nz r.v))) = .lst ((rs.map fun r => ((nz r.v : Nat) : Int)).map .int) := by rw [List.map_map]; rfl
  rw [t0, t1] at l1
  have l2 : ∀ v2, lcL (turn (orc tab n) [some (.lst (rs.map rL)), some (.int c), v2, none, none, none, none, none] [4] [4] (.tv (.cst (.bl true))) lateE) (rngL 0 c) h = .ok (((List.range c.toNat).map fun k => ((nc rs k : Nat) : Int)).map .int) h := fun v2 => by
    rw [rngL0, List.map_map]
    exact lt_map (C := orc tab n) (σ := [some (.lst (rs.map rL)), some (.int c), v2, none, none, none, none, none]) (h := h) (is := [4]) (vs := [4]) (elt := lateE) (fun (k : Nat) => AV.int (k : Nat)) (fun (k : Nat) => .int (nc rs k)) (by
      intro k hk
      have e := fan_late n v2 F k (List.mem_range.1 hk) h
      simp only [wipeL, bindT_one, bnd_ok, List.set_cons_succ, List.set_cons_zero]
      exact e)
  have e0 := end_sum n (some (.lst (rs.map rL))) (some (.int c))
  have q0 := sum_fa rs
  have q1 := sum_fb rs
  have q2 := sum_fc c rs
  have m0 : (rs.map fun r => ((nz r.u : Nat) : Int)).length ≤ 1000 := by rw [List.length_map]; omega
  have m1 : (rs.map fun r => ((nz r.v : Nat) : Int)).length ≤ 1000 := by rw [List.length_map]; omega
  have m2 : ((List.range c.toNat).map fun k => ((nc rs k : Nat) : Int)).length ≤ 1000 := by have := F.c2; simp; omega
  have l2 := l2 (some (.lst [.lst ((rs.map fun r => ((nz r.u : Nat) : Int)).map .int), .lst ((rs.map fun r => ((nz r.v : Nat) : Int)).map .int)]))
  have r3 : rngOk 0 c = true := rng_s c (by have := F.c1; omega) (by have := F.c2; omega)
  have r2 : rngOk 0 2 = true := by decide
  have r2' : rngL 0 2 = [.int 0, .int 1] := rfl
  generalize (rs.map fun r => ((nz r.u : Nat) : Int)) = X0 at *
  generalize (rs.map fun r => ((nz r.v : Nat) : Int)) = X1 at *
  generalize ((List.range c.toNat).map fun k => ((nc rs k : Nat) : Int)) = X2 at *
  generalize rs.map rL = RR at *
  have l3 : lcL (turn (orc tab n) [some (.lst RR), some (.int c), some (.lst [.lst (X0.map .int), .lst (X1.map .int)]), some (.lst (X2.map .int)), none, none, none, none] [5] [5] (.tv (.cst (.bl true))) endE) [.lst (X0.map .int), .lst (X1.map .int), .lst (X2.map .int)] h = .ok [.int (fa rs), .int (fb rs), .int (fc c rs)] h := by
    rw [← q0, ← q1, ← q2]
    exact lcL_some (e0 _ _ X0 m0 h) (lcL_some (e0 _ _ X1 m1 h) (lcL_some (e0 _ _ X2 m2 h) rfl))
  have k2 : ((X2.map AV.int).length ≤ line) = True := le_line m2
  have k3 : (([.int (fa rs), .int (fb rs), .int (fc c rs)] : List AV).length ≤ line) = True := eq_true (by simp [line])
  have k4 : (([.lst (X0.map AV.int), .lst (X1.map AV.int)] : List AV).length ≤ line) = True := eq_true (by simp [line])
  have it : items (.lst [.lst (X0.map AV.int), .lst (X1.map AV.int), .lst (X2.map AV.int)]) = some [.lst (X0.map AV.int), .lst (X1.map AV.int), .lst (X2.map AV.int)] := rfl
  unfold LI
  show _ = Out.ok (AV.lst [.int (fa rs), .int (fb rs), .int (fc c rs)]) h
  generalize fa rs = A at *
  generalize fb rs = B at *
  generalize fc c rs = D at *
  clear q0 q1 q2 e0 p0 p1 t0 t1 hu F hl m0 m1 m2
  generalize X0.map AV.int = Y0 at *
  generalize X1.map AV.int = Y1 at *
  generalize X2.map AV.int = Y2 at *
  unfold partE ir__law_fan at l1
  unfold lateE ir__law_fan at l2
  unfold endE ir__law_fan at l3
  unfold ir__law_fan
  walk_at "exh"
/-! ### the cost -/
def mS (P : Int) : Nat → Int
  | 0 => 1
  | n + 1 => mS P n * P
def xS (a : Int) : Nat → Int
  | 0 => 1
  | n + 1 => xS a n * a
def tS (a b c P A B D : Int) : Nat → Int
  | 0 => 0
  | n + 1 => [A * xS a n, B * xS b n, D * xS c n].sum + P * tS a b c P A B D n
def costB : NT.S := match ir_cost with
  | .seq _ (.seq _ (.seq _ (.seq (.for_ _ _ b) _))) => b
  | s => s
theorem zipmul (C : Orc) (σ : NT.Loc) (hσ : σ.length = 10) (i j : Nat) (hi : i < 10) (hj : j < 10) (hij : i ≠ j) (p q : Int) (hm : mulOk p q = true) (h : AHeap) :
    turn C σ [i, j] [i, j] (.tv (.cst (.bl true))) (.bin .Mult (.var i) (.var j)) (.tup [.int p, .int q]) h = .ok (some (.int (p * q))) h := by
  apply turn_app
  rw [bindT_two, bnd_ok]
  simp only [wipeL]
  have e1 : (((((σ.set j none).set i none).set i (some (.int p))).set j (some (.int q)))[i]?.getD none) = some (.int p) := by
    rw [List.getElem?_set_ne (Ne.symm hij)]; simp [hσ, hi]
  have e2 : (((((σ.set j none).set i none).set i (some (.int p))).set j (some (.int q)))[j]?.getD none) = some (.int q) := by simp [hσ, hj]
  generalize ((((σ.set j none).set i none).set i (some (AV.int p))).set j (some (.int q))) = s2 at e1 e2 ⊢
  clear hi hj hij hσ
  walk_at "exh"
theorem len_bd {rs : List Row} (hl : rs.length ≤ 400) : (0 : Int) ≤ (rs.length : Nat) ∧ ((rs.length : Nat) : Int) ≤ 400 := by omega
theorem mul_P (P t : Int) (h0 : 0 ≤ P ∧ P ≤ 400) : mulOk P t = true := mulOk_l (by omega)
theorem mul_P2 (P t : Int) (h0 : 0 ≤ P ∧ P ≤ 400) : mulOk t P = true := mulOk_r (by omega)
theorem aug_P (P m : Int) (h0 : 0 ≤ P ∧ P ≤ 400) (h : AHeap) : augV .Mult (.int m) (.int P) h = .ok (.int (m * P)) h := ok1_of (by simp only [Bool.or_eq_true, decide_eq_true_eq]; right; omega) _ _
theorem ct_z1 (C : Orc) (S d : AV) (A B D x y z m i : Int) (v5 : Option AV) (hA : A.natAbs < 18446744073709551616) (hB : B.natAbs < 18446744073709551616) (hD : D.natAbs < 18446744073709551616) (h : AHeap) :
    lcL (turn C [some S, some d, some (.tup [.int A, .int B, .int D]), some (.lst [.int x, .int y, .int z]), some (.int m), v5, some (.int i), none, none, none] [9, 7] [9, 7] (.tv (.cst (.bl true))) (.bin .Mult (.var 9) (.var 7))) [.tup [.int A, .int x], .tup [.int B, .int y], .tup [.int D, .int z]] h = .ok [.int (A * x), .int (B * y), .int (D * z)] h :=
  lcL_some (zipmul _ _ rfl 9 7 (by decide) (by decide) (by decide) A x (mulOk_l hA) h) (lcL_some (zipmul _ _ rfl 9 7 (by decide) (by decide) (by decide) B y (mulOk_l hB) h) (lcL_some (zipmul _ _ rfl 9 7 (by decide) (by decide) (by decide) D z (mulOk_l hD) h) rfl))
theorem small36 (a : Int) (h1 : 1 ≤ a) (h2 : a ≤ 36) (x : Int) : mulOk x a = true := mulOk_r (by omega)
theorem ct_z2 (C : Orc) (S d : AV) (A B D x y z m i a b c : Int) (v5 : Option AV) (ha : ∀ x, mulOk x a = true) (hb : ∀ x, mulOk x b = true) (hc : ∀ x, mulOk x c = true) (h : AHeap) :
    lcL (turn C [some S, some d, some (.tup [.int A, .int B, .int D]), some (.lst [.int x, .int y, .int z]), some (.int m), v5, some (.int i), none, none, none] [7, 8] [7, 8] (.tv (.cst (.bl true))) (.bin .Mult (.var 7) (.var 8))) [.tup [.int x, .int a], .tup [.int y, .int b], .tup [.int z, .int c]] h = .ok [.int (x * a), .int (y * b), .int (z * c)] h :=
  lcL_some (zipmul _ _ rfl 7 8 (by decide) (by decide) (by decide) x a (ha x) h) (lcL_some (zipmul _ _ rfl 7 8 (by decide) (by decide) (by decide) y b (hb y) h) (lcL_some (zipmul _ _ rfl 7 8 (by decide) (by decide) (by decide) z c (hc z) h) rfl))
theorem ct_x (n : Nat) (S d Z : AV) (a b c A B D x y z m t i P : Int) (w6 : Option AV) (h : AHeap) (ls : bltO (orc tab (n + 1)) .len [S] h = .ok (.int P) h) (az : attrV (orc tab (n + 1)) nmSizes S h = .ok Z h)
    (z1 : ∀ v5, lcL (turn (orc tab (n + 1)) [some S, some d, some (.tup [.int A, .int B, .int D]), some (.lst [.int x, .int y, .int z]), some (.int m), v5, some (.int i), none, none, none] [9, 7] [9, 7] (.tv (.cst (.bl true))) (.bin .Mult (.var 9) (.var 7))) [.tup [.int A, .int x], .tup [.int B, .int y], .tup [.int D, .int z]] h = .ok [.int (A * x), .int (B * y), .int (D * z)] h)
    (z2 : ∀ v5, lcL (turn (orc tab (n + 1)) [some S, some d, some (.tup [.int A, .int B, .int D]), some (.lst [.int x, .int y, .int z]), some (.int m), v5, some (.int i), none, none, none] [7, 8] [7, 8] (.tv (.cst (.bl true))) (.bin .Mult (.var 7) (.var 8))) [.tup [.int x, .int a], .tup [.int y, .int b], .tup [.int z, .int c]] h = .ok [.int (x * a), .int (y * b), .int (z * c)] h)
    (v2 : zipV (.lst [.int x, .int y, .int z]) Z = some [.tup [.int x, .int a], .tup [.int y, .int b], .tup [.int z, .int c]]) (m1 : mulOk P t = true) (m2 : augV .Mult (.int m) (.int P) h = .ok (.int (m * P)) h) :
    forB (orc tab (n + 1)) [6] costB (.int i) [some S, some d, some (.tup [.int A, .int B, .int D]), some (.lst [.int x, .int y, .int z]), some (.int m), some (.int t), w6, none, none, none] h =
      .ok (.nx [some S, some d, some (.tup [.int A, .int B, .int D]), some (.lst [.int (x * a), .int (y * b), .int (z * c)]), some (.int (m * P)), some (.int ([A * x, B * y, D * z].sum + P * t)), some (.int i), none, none, none]) h := by
  rw [forB_app]
  have v1 : zipV (.tup [.int A, .int B, .int D]) (.lst [.int x, .int y, .int z]) = some [.tup [.int A, .int x], .tup [.int B, .int y], .tup [.int D, .int z]] := rfl
  have s3 : allI [.int (A * x), .int (B * y), .int (D * z)] = some [A * x, B * y, D * z] := rfl
  have k1 : (([.int (A * x), .int (B * y), .int (D * z)] : List AV).length ≤ line) = True := eq_true (by simp [line])
  have k2 : (([.int (x * a), .int (y * b), .int (z * c)] : List AV).length ≤ line) = True := eq_true (by simp [line])
  generalize [A * x, B * y, D * z] = Q1 at s3 ⊢
  generalize [AV.int (A * x), .int (B * y), .int (D * z)] = Y1 at z1 s3 k1
  generalize [AV.int (x * a), .int (y * b), .int (z * c)] = Y2 at z2 k2 ⊢
  generalize [AV.tup [.int A, .int x], .tup [.int B, .int y], .tup [.int D, .int z]] = Z1 at z1 v1
  generalize [AV.tup [.int x, .int a], .tup [.int y, .int b], .tup [.int z, .int c]] = Z2 at z2 v2
  generalize AV.tup [.int A, .int B, .int D] = T1 at z1 z2 v1 ⊢
  generalize AV.lst [.int x, .int y, .int z] = T2 at z1 z2 v1 v2 ⊢
  unfold costB ir_cost
  walk_at "exh"
theorem cost_turn (n : Nat) {a b c : Int} {rs : List Row} (F : Fine a b c rs) (d : AV) (A B D x y z m t i : Int) (hA : A.natAbs < 18446744073709551616) (hB : B.natAbs < 18446744073709551616) (hD : D.natAbs < 18446744073709551616) (w6 : Option AV) (h : AHeap) :
    forB (orc tab (n + 1)) [6] costB (.int i) [some (SCH a b c rs), some d, some (.tup [.int A, .int B, .int D]), some (.lst [.int x, .int y, .int z]), some (.int m), some (.int t), w6, none, none, none] h =
      .ok (.nx [some (SCH a b c rs), some d, some (.tup [.int A, .int B, .int D]), some (.lst [.int (x * a), .int (y * b), .int (z * c)]), some (.int (m * (rs.length : Nat))), some (.int ([A * x, B * y, D * z].sum + (rs.length : Nat) * t)), some (.int i), none, none, none]) h :=
  ct_x n (SCH a b c rs) d (SZ a b c) a b c A B D x y z m t i _ w6 h (len_S n a b c rs F.len h) (a_sizes n a b c rs h) (fun v5 => ct_z1 _ _ d A B D x y z m i v5 hA hB hD h) (fun v5 => ct_z2 _ _ d A B D x y z m i a b c v5 (small36 a F.a1 F.a2) (small36 b F.b1 F.b2) (small36 c F.c1 F.c2) h) rfl (mul_P _ _ (len_bd F.len)) (aug_P _ _ (len_bd F.len) h)
theorem f_small (A : Int) (h : 0 ≤ A ∧ A ≤ 400000) : A.natAbs < 18446744073709551616 := by omega
theorem nat_bd {k : Nat} (hk : k ≤ 60) : (0 : Int) ≤ (k : Nat) ∧ ((k : Nat) : Int) ≤ 60 := by omega
theorem inb60 (n : Nat) (k : Int) (hk : 0 ≤ k ∧ k ≤ 60) (h : AHeap) : run tab (n + 2) f_in_bounds [.int k, .int 0, .int 60] h = .ok (.bl true) h := run_inb n k 0 60 hk.1 hk.2 h
theorem rng60 (k : Int) (hk : 0 ≤ k ∧ k ≤ 60) : rngOk 0 k = true := rng_s k hk.1 (by omega)
def cS (S d AA : AV) (a b c P A B D : Int) (w6 : Option AV) (j : Nat) : NT.Loc := [some S, some d, some AA, some (.lst [.int (xS a j), .int (xS b j), .int (xS c j)]), some (.int (mS P j)), some (.int (tS a b c P A B D j)), w6, none, none, none]
theorem cS_s (S d AA : AV) (a b c P A B D : Int) (w6 : Option AV) (j : Nat) : ([some S, some d, some AA, some (.lst [.int (xS a j * a), .int (xS b j * b), .int (xS c j * c)]), some (.int (mS P j * P)), some (.int ([A * xS a j, B * xS b j, D * xS c j].sum + P * tS a b c P A B D j)), w6, none, none, none] : NT.Loc) = cS S d AA a b c P A B D w6 (j + 1) := rfl
theorem cost_loop (n : Nat) {a b c : Int} {rs : List Row} (F : Fine a b c rs) (kk : Int) (h : AHeap) :
    ∃ w6, forL (forB (orc tab (n + 2)) [6] costB) (rngL 0 kk) (cS (SCH a b c rs) (.int kk) (.tup [.int (fa rs), .int (fb rs), .int (fc c rs)]) a b c (rs.length : Nat) (fa rs) (fb rs) (fc c rs) none 0) h =
      .ok (.nx (cS (SCH a b c rs) (.int kk) (.tup [.int (fa rs), .int (fb rs), .int (fc c rs)]) a b c (rs.length : Nat) (fa rs) (fb rs) (fc c rs) w6 (rngL 0 kk).length)) h := by
  obtain ⟨fA, fB, fD⟩ := f_bd F
  have fA := f_small _ fA
  have fB := f_small _ fB
  have fD := f_small _ fD
  obtain ⟨σ', lp, w6, rfl⟩ := for_inv (body := forB (orc tab (n + 2)) [6] costB) (h := h) (fun j σ => ∃ w6, σ = cS (SCH a b c rs) (.int kk) (.tup [.int (fa rs), .int (fb rs), .int (fc c rs)]) a b c (rs.length : Nat) (fa rs) (fb rs) (fc c rs) w6 j) (rngL 0 kk) 0 _ (by
    rintro i x σ hx ⟨w6, rfl⟩
    have hv := rngL_get hx
    subst hv
    exact ⟨_, cost_turn (n + 1) F (.int kk) _ _ _ _ _ _ _ _ _ fA fB fD w6 h, _, cS_s _ _ _ _ _ _ _ _ _ _ _ _⟩) ⟨none, rfl⟩
  rw [Nat.zero_add] at lp
  exact ⟨w6, lp⟩
theorem cost_x (n : Nat) (S Z T AA : AV) (kk M TT : Int) (w : NT.Loc) (h : AHeap) (ib : run tab (n + 2) f_in_bounds [.int kk, .int 0, .int 60] h = .ok (.bl true) h) (az : attrV (orc tab (n + 2)) nmSizes S h = .ok Z h) (ap : attrV (orc tab (n + 2)) nmProducts S h = .ok T h)
    (r : run tab (n + 2) f_role_adds [Z, T] h = .ok AA h) (rk : rngOk 0 kk = true)
    (lp : forL (forB (orc tab (n + 2)) [6] costB) (rngL 0 kk) [some S, some (.int kk), some AA, some (.lst [.int 1, .int 1, .int 1]), some (.int 1), some (.int 0), none, none, none, none] h = .ok (.nx w) h) (w4 : w[4]?.getD none = some (.int M)) (w5 : w[5]?.getD none = some (.int TT)) :
    run tab (n + 3) f_cost [S, .int kk] h = .ok (.tup [.int M, .int TT]) h := by
  refine run_eq (show tab.fns[f_cost]? = some fd_cost from rfl) (σ := [some S, some (.int kk), none, none, none, none, none, none, none, none]) rfl ?_ rfl
  show Out.bnd (xec _ ir_cost _ _) _ = _
  unfold costB ir_cost at lp
  unfold ir_cost
  walk_at "exh"
theorem run_cost (n : Nat) {a b c : Int} {rs : List Row} (F : Fine a b c rs) (k : Nat) (hk : k ≤ 60) (h : AHeap) :
    run tab (n + 3) f_cost [SCH a b c rs, .int k] h = .ok (.tup [.int (mS (rs.length : Nat) k), .int (tS a b c (rs.length : Nat) (fa rs) (fb rs) (fc c rs) k)]) h := by
  obtain ⟨w6, lp⟩ := cost_loop n F (k : Int) h
  have hl : (rngL 0 (k : Int)).length = k := by simp [rngL]
  rw [hl] at lp
  exact cost_x n _ _ _ _ _ _ _ _ h (inb60 n (k : Int) (nat_bd hk) h) (a_sizes (n + 1) a b c rs h) (a_products (n + 1) a b c rs h) (run_role n F h) (rng60 (k : Int) (nat_bd hk)) lp rfl rfl
/-! ### the law's loop over the depth -/
def turnS : NT.S := match ir_law with
  | .seq _ (.seq (.for_ _ _ b) _) => b
  | s => s
def inB : NT.S := match turnS with
  | .seq _ (.seq _ (.seq _ (.seq _ (.seq (.for_ _ _ b) _)))) => b
  | s => s
theorem mulsub (C : Orc) (s2 : NT.Loc) (i j : Nat) (k p q : Int) (X Y : AV) (h : AHeap) (e1 : s2[i]?.getD none = some X) (e2 : s2[j]?.getD none = some Y) (e3 : s2[14]?.getD none = some (.int k)) (s1 : subV X (.int k) h = .ok (.int p) h) (s3 : subV Y (.int k) h = .ok (.int q) h) (hm : mulOk p q = true) :
    ev C s2 (.bin .Mult (.sub (.var i) (.var 14)) (.sub (.var j) (.var 14))) h = .ok (.int (p * q)) h := by
  walk_at "exh"
theorem lc3 (C : Orc) (σ : NT.Loc) (hσ : σ.length = 15) (i j : Nat) (hi : i ≠ 14) (hj : j ≠ 14) (X Y : AV) (p0 p1 p2 q0 q1 q2 : Int) (h : AHeap) (e1 : σ[i]? = some (some X)) (e2 : σ[j]? = some (some Y))
    (a0 : subV X (.int 0) h = .ok (.int p0) h) (a1 : subV X (.int 1) h = .ok (.int p1) h) (a2 : subV X (.int 2) h = .ok (.int p2) h) (b0 : subV Y (.int 0) h = .ok (.int q0) h) (b1 : subV Y (.int 1) h = .ok (.int q1) h) (b2 : subV Y (.int 2) h = .ok (.int q2) h)
    (m0 : mulOk p0 q0 = true) (m1 : mulOk p1 q1 = true) (m2 : mulOk p2 q2 = true) :
    lcL (turn C σ [14] [14] (.tv (.cst (.bl true))) (.bin .Mult (.sub (.var i) (.var 14)) (.sub (.var j) (.var 14)))) [.int 0, .int 1, .int 2] h = .ok [.int (p0 * q0), .int (p1 * q1), .int (p2 * q2)] h := by
  have g : ∀ v : AV, ((σ.set 14 none).set 14 (some v))[i]?.getD none = some X := fun v => by rw [List.getElem?_set_ne (Ne.symm hi), List.getElem?_set_ne (Ne.symm hi), e1]; rfl
  have g2 : ∀ v : AV, ((σ.set 14 none).set 14 (some v))[j]?.getD none = some Y := fun v => by rw [List.getElem?_set_ne (Ne.symm hj), List.getElem?_set_ne (Ne.symm hj), e2]; rfl
  have g3 : ∀ v : AV, ((σ.set 14 none).set 14 (some v))[14]?.getD none = some v := fun v => by simp [hσ]
  exact lcL_some (turn_is (mulsub C _ i j 0 p0 q0 X Y h (g _) (g2 _) (g3 _) a0 b0 m0)) (lcL_some (turn_is (mulsub C _ i j 1 p1 q1 X Y h (g _) (g2 _) (g3 _) a1 b1 m1)) (lcL_some (turn_is (mulsub C _ i j 2 p2 q2 X Y h (g _) (g2 _) (g3 _) a2 b2 m2)) rfl))
theorem in_x (v0 v1 v2 ZZ RR S FF : AV) (A B D a b c x y z m t j d P : Int) (bb : Bool) (w11 : Option AV) (h : AHeap)
    (rc : run tab 30 f_cost [S, .int j] h = .ok (.tup [.int m, .int t]) h) (ls : bltO (orc tab 30) .len [RR] h = .ok (.int P) h) (ci : cmpO (orc tab 30) .In (.int j) (.lst [.int 0, .int 1, .int 2, .int d]) h = .ok (.bl bb) h)
    (z1 : ∀ v8 v9, lcL (turn (orc tab 30) [some v0, some v1, some v2, some ZZ, some RR, some S, some FF, some (.int d), v8, v9, some (.lst [.int x, .int y, .int z]), some (.int j), none, none, none] [14] [14] (.tv (.cst (.bl true))) (.bin .Mult (.sub (.var 6) (.var 14)) (.sub (.var 10) (.var 14)))) [.int 0, .int 1, .int 2] h = .ok [.int (A * x), .int (B * y), .int (D * z)] h)
    (z2 : ∀ v8 v9, lcL (turn (orc tab 30) [some v0, some v1, some v2, some ZZ, some RR, some S, some FF, some (.int d), v8, v9, some (.lst [.int x, .int y, .int z]), some (.int j), none, none, none] [14] [14] (.tv (.cst (.bl true))) (.bin .Mult (.sub (.var 10) (.var 14)) (.sub (.var 3) (.var 14)))) [.int 0, .int 1, .int 2] h = .ok [.int (x * a), .int (y * b), .int (z * c)] h)
    (m1 : mulOk P t = true) (m2 : mulOk m P = true) :
    forB (orc tab 30) [11] inB (.int j) [some v0, some v1, some v2, some ZZ, some RR, some S, some FF, some (.int d), some (.int m), some (.int t), some (.lst [.int x, .int y, .int z]), w11, none, none, none] h =
      .ok (.nx [some v0, some v1, some v2, some ZZ, some RR, some S, some FF, some (.int d), some (.int (m * P)), some (.int ([A * x, B * y, D * z].sum + P * t)), some (.lst [.int (x * a), .int (y * b), .int (z * c)]), some (.int j), none, none, none]) h := by
  rw [forB_app]
  have sm : run tab 30 f__law_same [.tup [.int m, .int t], .tup [.int m, .int t]] h = .ok (.bl true) h := run_sameR hsame 1 28 _ h rfl
  have s3 : allI [.int (A * x), .int (B * y), .int (D * z)] = some [A * x, B * y, D * z] := rfl
  have k1 : (([.int (A * x), .int (B * y), .int (D * z)] : List AV).length ≤ line) = True := eq_true (by simp [line])
  have k2 : (([.int (x * a), .int (y * b), .int (z * c)] : List AV).length ≤ line) = True := eq_true (by simp [line])
  have r3 : rngL 0 3 = [.int 0, .int 1, .int 2] := rfl
  have g3 : rngOk 0 3 = true := by decide
  generalize [A * x, B * y, D * z] = Q1 at s3 ⊢
  generalize [AV.int (A * x), .int (B * y), .int (D * z)] = Y1 at z1 s3 k1
  generalize [AV.int (x * a), .int (y * b), .int (z * c)] = Y2 at z2 k2 ⊢
  generalize AV.lst [.int x, .int y, .int z] = T2 at z1 z2 ⊢
  unfold inB turnS ir_law
  cases bb <;> walk_at "exh"
def iS (v0 v1 v2 ZZ RR S FF : AV) (d a b c P A B D : Int) (w : Option AV) (j : Nat) : NT.Loc := [some v0, some v1, some v2, some ZZ, some RR, some S, some FF, some (.int d), some (.int (mS P j)), some (.int (tS a b c P A B D j)), some (.lst [.int (xS a j), .int (xS b j), .int (xS c j)]), w, none, none, none]
theorem iS_s (v0 v1 v2 ZZ RR S FF : AV) (d a b c P A B D : Int) (w : Option AV) (j : Nat) : ([some v0, some v1, some v2, some ZZ, some RR, some S, some FF, some (.int d), some (.int (mS P j * P)), some (.int ([A * xS a j, B * xS b j, D * xS c j].sum + P * tS a b c P A B D j)), some (.lst [.int (xS a j * a), .int (xS b j * b), .int (xS c j * c)]), w, none, none, none] : NT.Loc) = iS v0 v1 v2 ZZ RR S FF d a b c P A B D w (j + 1) := rfl
theorem len_rows (C : Orc) (rs : List Row) (h : AHeap) : bltO C .len [.lst (rs.map rL)] h = .ok (.int rs.length) h := by
  show Out.ok (AV.int ((rs.map rL).length : Nat)) h = _
  rw [List.length_map]
theorem in_mem (j d : Int) (h : AHeap) : cmpO (orc tab 30) .In (.int j) (.lst [.int 0, .int 1, .int 2, .int d]) h = .ok (.bl (inF (.int j) [.int 0, .int 1, .int 2, .int d])) h := rfl
theorem lt_of {i : Nat} {d : Int} (h : (i : Int) < d + 1) (hd : d ≤ 60) : i ≤ 60 := by omega
theorem in_loop (w0 : Option AV) (v0 v1 v2 : AV) {a b c : Int} {rs : List Row} (F : Fine a b c rs) (d : Int) (hd : 0 ≤ d) (hd2 : d ≤ 60) (h : AHeap) :
    ∃ w, forL (forB (orc tab 30) [11] inB) (rngL 0 (d + 1)) (iS v0 v1 v2 (SZ a b c) (.lst (rs.map rL)) (SCH a b c rs) (LI [fa rs, fb rs, fc c rs]) d a b c (rs.length : Nat) (fa rs) (fb rs) (fc c rs) w0 0) h =
      .ok (.nx (iS v0 v1 v2 (SZ a b c) (.lst (rs.map rL)) (SCH a b c rs) (LI [fa rs, fb rs, fc c rs]) d a b c (rs.length : Nat) (fa rs) (fb rs) (fc c rs) w (rngL 0 (d + 1)).length)) h := by
  obtain ⟨fA, fB, fD⟩ := f_bd F
  have fA := f_small _ fA
  have fB := f_small _ fB
  have fD := f_small _ fD
  obtain ⟨σ', lp, w, rfl⟩ := for_inv (body := forB (orc tab 30) [11] inB) (h := h) (fun j σ => ∃ w, σ = iS v0 v1 v2 (SZ a b c) (.lst (rs.map rL)) (SCH a b c rs) (LI [fa rs, fb rs, fc c rs]) d a b c (rs.length : Nat) (fa rs) (fb rs) (fc c rs) w j) (rngL 0 (d + 1)) 0 _ (by
    rintro i x σ hx ⟨w, rfl⟩
    have hi : (i : Int) < d + 1 := by
      have := (List.getElem?_eq_some_iff.mp hx).1
      have : i < (d + 1).toNat := by simpa [rngL] using this
      omega
    have hv := rngL_get hx
    subst hv
    rw [Nat.zero_add, Int.zero_add]
    exact ⟨_, in_x v0 v1 v2 (SZ a b c) (.lst (rs.map rL)) (SCH a b c rs) (LI [fa rs, fb rs, fc c rs]) (fa rs) (fb rs) (fc c rs) a b c (xS a i) (xS b i) (xS c i) (mS (rs.length : Nat) i) (tS a b c (rs.length : Nat) (fa rs) (fb rs) (fc c rs) i) (i : Nat) d (rs.length : Nat) _ w h
      (run_cost 27 F i (lt_of hi hd2) h) (len_rows _ rs h) (in_mem _ _ h)
      (fun v8 v9 => lc3 _ _ rfl 6 10 (by decide) (by decide) _ _ _ _ _ _ _ _ h rfl rfl rfl rfl rfl rfl rfl rfl (mulOk_l fA) (mulOk_l fB) (mulOk_l fD))
      (fun v8 v9 => lc3 _ _ rfl 10 3 (by decide) (by decide) _ _ _ _ _ _ _ _ h rfl rfl rfl rfl rfl rfl rfl rfl (small36 a F.a1 F.a2 _) (small36 b F.b1 F.b2 _) (small36 c F.c1 F.c2 _))
      (mul_P _ _ (len_bd F.len)) (mul_P2 _ _ (len_bd F.len)), _, iS_s _ _ _ _ _ _ _ _ _ _ _ _ _ _ _ _ _⟩) ⟨w0, rfl⟩
  rw [Nat.zero_add] at lp
  exact ⟨w, lp⟩
theorem drawn_fine {a b c : Int} {rs : List Row} (D : Drawn3 a b c 3 rs) (hl : (rs.length : Int) ≤ 6) : Fine a b c rs := by
  obtain ⟨h1, h2, h3, h4⟩ := D
  exact ⟨fun r hr => (h1 r hr).1, h2.1, by omega, h3.1, by omega, h4.1, by omega, by omega⟩
theorem tS1 (a b c P A B D : Int) : tS a b c P A B D 1 = [A, B, D].sum := by
  show [A * 1, B * 1, D * 1].sum + P * 0 = _
  simp
theorem mS1 (P : Int) : mS P 1 = P := by
  show 1 * P = P
  simp
theorem turn_x (s0 K ZZ RR S FF Cc : AV) (v3 v4 v5 v6 v7 v8 v9 v10 v11 w8 w9 w10 w11 : Option AV) (d P Q : Int) (h0 h1 h2 : AHeap) (e1 : run tab 30 f__law_scheme [.ref 0, .int 3, .int 6] h0 = .ok (.tup [ZZ, RR]) h1) (e2 : newV (orc tab 30) 0 [ZZ, RR] h1 = .ok S h1) (e3 : subV ZZ (.int 2) h1 = .ok Cc h1)
    (e4 : run tab 30 f__law_fan [RR, Cc] h1 = .ok FF h1) (e5 : run tab 30 f__law_draw [.ref 0, .int 61] h1 = .ok (.int d) h2) (g : rngOk 0 (d + 1) = true)
    (lp : forL (forB (orc tab 30) [11] inB) (rngL 0 (d + 1)) [some s0, some (.ref 0), some K, some ZZ, some RR, some S, some FF, some (.int d), some (.int 1), some (.int 0), some (.lst [.int 1, .int 1, .int 1]), v11, none, none, none] h2 = .ok (.nx [some s0, some (.ref 0), some K, some ZZ, some RR, some S, some FF, some (.int d), w8, w9, w10, w11, none, none, none]) h2)
    (e6 : run tab 30 f_cost [S, .int 1] h2 = .ok (.tup [.int P, .int Q]) h2) (e7 : attrV (orc tab 30) nmAdds S h2 = .ok (.int Q) h2) (e8 : bltO (orc tab 30) .len [RR] h2 = .ok (.int P) h2) (e9 : bltO (orc tab 30) .sum [FF] h2 = .ok (.int Q) h2) :
    xec (orc tab 30) turnS [some s0, some (.ref 0), some K, v3, v4, v5, v6, v7, v8, v9, v10, v11, none, none, none] h0 = .ok (.nx [some s0, some (.ref 0), some K, some ZZ, some RR, some S, some FF, some (.int d), w8, w9, w10, w11, none, none, none]) h2 := by
  have sm : run tab 30 f__law_same [.lst [.tup [.int P, .int Q], .int Q], .lst [.tup [.int P, .int Q], .int Q]] h2 = .ok (.bl true) h2 := run_sameR hsame 2 27 _ h2 rfl
  unfold inB turnS ir_law at lp
  unfold turnS ir_law
  walk_at "exh"
def Pv (s : AV) (_ : Nat) (σ : NT.Loc) (h : AHeap) : Prop := ∃ (b : Bag) (v2 v3 v4 v5 v6 v7 v8 v9 v10 v11 : Option AV), b.Ok ∧ h = [bagO b] ∧ σ = [some s, some (.ref 0), v2, v3, v4, v5, v6, v7, v8, v9, v10, v11, none, none, none]
theorem rng61 (d : Int) (h0 : 0 ≤ d) (h1 : d ≤ 60) : rngOk 0 (d + 1) = true := rng_s (d + 1) (by omega) (by omega)
theorem turn_ok (s : AV) (i : Nat) (k : Int) (σ : NT.Loc) (h : AHeap) (hp : Pv s i σ h) : Rn (xec (orc tab 30) turnS (σ.set 2 (some (.int k))) h) fun f h' => match f with
    | .nx σ' => Pv s (i + 1) σ' h'
    | _ => False := by
  obtain ⟨b, v2, v3, v4, v5, v6, v7, v8, v9, v10, v11, hb, rfl, rfl⟩ := hp
  obtain ⟨_, _, e1, x, y, z, rs, b1, rfl, D, hl, o1, rfl⟩ := (run_scheme 27 hb [] 3 6 (by decide) (by decide) (by decide) (by decide)).get
  have F := drawn_fine D hl
  obtain ⟨_, _, e5, d, b2, rfl, d0, d1, o2, rfl⟩ := (run_draw hdraw hdp 29 o1 [] (m := 61) (by decide) (divOk_s (by decide) (by decide))).get
  obtain ⟨w, lp⟩ := in_loop v11 s (.ref 0) (.int k) F d d0 (by omega) [bagO b2]
  have c1 := run_cost 27 F 1 (by decide) [bagO b2]
  rw [tS1, mS1] at c1
  have r := turn_x s (.int k) (SZ x y z) (.lst (rs.map rL)) (SCH x y z rs) (LI [fa rs, fb rs, fc z rs]) (.int z) v3 v4 v5 v6 v7 v8 v9 v10 v11 _ _ _ _ d (rs.length : Nat) [fa rs, fb rs, fc z rs].sum [bagO b] [bagO b1] [bagO b2] e1 (new_S 27 F _) rfl (run_fan 29 F _) e5 (rng61 d d0 (by omega)) lp
    c1 (a_adds 27 F _) (len_rows _ rs _) (sumL _ [fa rs, fb rs, fc z rs] _)
  exact Rn.eq r ⟨b2, _, _, _, _, _, _, _, _, _, _, o2, rfl, rfl⟩
def endS : NT.S := match ir_law with
  | .seq _ (.seq _ e) => e
  | s => s
theorem end_ok (s : AV) (v2 v3 v4 v5 v6 v7 v8 v9 v10 v11 : Option AV) (b : Bag) : xec (orc tab 30) endS [some s, some (.ref 0), v2, v3, v4, v5, v6, v7, v8, v9, v10, v11, none, none, none] [bagO b] = .ok (.rt (.bl true)) [bagO b] := by
  have q : xec (orcX tab 30) endS [some s, some (.ref 0), v2, v3, v4, v5, v6, v7, v8, v9, v10, v11, none, none, none] (deads 1) = .ok (.rt (.bl true)) (deads 1) := by kernel_rfl
  have z := exe_xec (T := tab) (n := 30) [bagO b] (h' := deads 1) q
  rw [z, show (deads 1) = deads [bagO b].length from rfl, ov_deads]
theorem law_true : ∀ ns : List Int, ns.length ≤ 63 → (∀ z ∈ ns, Builtin.Int.intBits z ≤ 1048576) → ∃ h', run tab (lev + 1) 0 [.lst (ns.map .int)] [] = .ok (.bl true) h' := by
  intro ns hn _
  generalize hs : AV.lst (ns.map .int) = s
  obtain ⟨_, _, e1, rfl, b, hb, rfl⟩ := (run_bag hbag (by decide) 29 ns hn).get
  rw [hs] at e1
  have r1 : rngOk 0 4 = true := by decide
  have inv := rn_for (body := forB (orc tab 30) [2] turnS) (Q := fun f h' => ∃ (b : Bag) (v2 v3 v4 v5 v6 v7 v8 v9 v10 v11 : Option AV), f = .nx [some s, some (.ref 0), v2, v3, v4, v5, v6, v7, v8, v9, v10, v11, none, none, none] ∧ h' = [bagO b]) (Pv s) (rngL 0 4) (by
    intro i x σ h hx hp
    have hk : ∃ k : Int, x = .int k := by
      have := List.mem_of_getElem? hx
      unfold rngL at this
      obtain ⟨k, _, rfl⟩ := List.mem_map.1 this
      exact ⟨_, rfl⟩
    obtain ⟨k, rfl⟩ := hk
    rw [forB_app, bindT_one, bnd_ok]
    refine (turn_ok s i k σ h hp).mono fun f h' q => ?_
    cases f with
    | nx σ' => exact q
    | _ => exact q.elim) (fun σ h ⟨b, v2, v3, v4, v5, v6, v7, v8, v9, v10, v11, _, hh, hσ⟩ => ⟨b, v2, v3, v4, v5, v6, v7, v8, v9, v10, v11, by rw [hσ], hh⟩)
    [some s, some (.ref 0), none, none, none, none, none, none, none, none, none, none, none, none, none] [bagO b] ⟨b, _, _, _, _, _, _, _, _, _, _, hb, rfl, rfl⟩
  obtain ⟨_, _, e, b', v2, v3, v4, v5, v6, v7, v8, v9, v10, v11, rfl, rfl⟩ := inv.get
  have en := end_ok s v2 v3 v4 v5 v6 v7 v8 v9 v10 v11 b'
  refine law_end (show tab.fns[0]? = some fd_law from rfl) (σ := [some s, none, none, none, none, none, none, none, none, none, none, none, none, none, none]) (h' := [bagO b']) rfl ?_
  show Out.bnd (xec (orc tab 30) ir_law _ _) _ = _
  have ed : ir_law = .seq (.asg 1 (.call f__law_bag (.cons (.var 0) (.nil)))) (.seq (.for_ [2] (.rng (.cst (.int 0)) (.cst (.int 4))) turnS) endS) := rfl
  rw [ed]
  generalize turnS = t at e ⊢
  generalize endS = w at en ⊢
  clear inv hb hn hs
  walk_at "exh"
end K72
set_option linter.all false
set_option maxRecDepth 100000
set_option maxHeartbeats 0
namespace K72
open PySem PySem.Spec PyProof.Rows NT
theorem runq (w : World) : HandSHeadRun.RunEq R (PySem.W.view R.prog [48]) hk ob 20000 loose w := by
  intro os
  kernel_rfl
end K72
open PySem PySem.W PySem.Calls PyProof.Rows in
theorem PySem.Challenge.cw_numbertypes_k72_whole_costs_of_nested_sc_holds : PySem.Challenge.rw_numbertypes_k72_whole_costs_of_nested_sc.Holds := by
  w_on; o_law
  refine HandSHeadRun.head_any (r := OpenLaw.row PySem.Challenge.rw_numbertypes_k72_whole_costs_of_nested_sc) (q := view (OpenLaw.row PySem.Challenge.rw_numbertypes_k72_whole_costs_of_nested_sc).prog [48]) (H := K72.hk) (ob := K72.ob) (M := 20000) (loose := K72.loose) (d := HandSHeadRun.topDef (OpenLaw.row PySem.Challenge.rw_numbertypes_k72_whole_costs_of_nested_sc).prog 48) (kwd := []) K72.ob_eq
    (by kernel_rfl) (fun s => by kernel_rfl) K72.runq (by kernel_rfl) (by kernel_rfl) (by kernel_rfl) (by rfl) (by first | assumption | decide +kernel) (by decide +kernel) ⟨rfl, rfl, rfl, rfl, rfl, by decide +kernel⟩ ?hw ?hc
  case hw => w_witness2
  case hc =>
    refine NT.law_walk (l := PySem.Challenge.rw_numbertypes_k72_whole_costs_of_nested_sc) (T := K72.tab) (g := K72.gc) (x := "_law_script") (k := K72.lev) (fl := 0) (fd := K72.fd_law) (D := K72.dd_law) rfl (by kernel_rfl) ⟨rfl, by decide, by decide⟩ rfl rfl rfl rfl rfl K72.st_law (fun f pat h => List.all_eq_true.mp (show (K72.tab.ct.pats.all fun p => (K72.tab.fns[p.1]?).isSome) = true by kernel_rfl) (f, pat) h) (fun h => absurd h (by decide)) ?F K72.law_true
    intro w mg fa h Y G hmg own
    have hmg : mg ("law" : PySem.Str) = some (.ref fa) := by
      have e : (HandSHeadRun.topDef (OpenLaw.row PySem.Challenge.rw_numbertypes_k72_whole_costs_of_nested_sc).prog 48).name = ("law" : PySem.Str) := by kernel_rfl
      rw [← e]; exact hmg
    exact NT.law_facts (L := K72.L) (T := K72.tab) (fl := 0) (D0 := K72.dd_law) K72.lawS rfl rfl (fun h => absurd h (by decide)) (by kernel_rfl) (.inl rfl) w mg fa h Y G hmg own

import PyProof.Rows.All
import Wide.All
import OpenK.AllK
import Wide.FinOn
import HandS.ForMost
import HandS.TupAny
import HandS.Exc
import HandS.Lambda
import HandS.Slots
import HandS.HeadHook1
import HandS.ExcInit
import KE.GoesEnum
import HandS.Zip
import HandS.Walk
import HandS.FStr
import HandS.Star
import HandS.Style
import HandS.IsInst
import HandS.Codes
import HandS.Defaults
import HandS.HeadHook2
import HandS.SetFor
import HandS.RaiseMore
import HandS.SlotsOwn
import HandS.MakeKw
import HandS.ClsMeth
import HandS.HeadWalk
import HandS.Head0
import HandS.Head1
import HandS.Head2
import HandS.EndBits
import HandS.TupMul
import HandS.Dict
import HandS.Wide
import HandS.List
import HandS.Strs
import KE.KCallOwn
import HandS.Conv
import KE.KExcInit
import HandS.ExcOwn
import HandS.ExcValue
import HandS.ExcIs
import HandS.ExcField
import KE.KExcIs
import PyProof.ExcClass
import HandS.HotCalls
import HandS.HeadHook4
import KE.KNestM
import PySem.Challenge.RW_fallranks_k01_limits_and_errors
set_option Elab.async false
set_option linter.all false
set_option maxRecDepth 100000
set_option maxHeartbeats 0
/-! En1: the plain data, the small syntax, what it means (weakest preconditions). -/
namespace En
open PySem L2
/-- built-in types by name -/
inductive Tn where
  | int | bool | str | tuple | list | dict | none
  deriving DecidableEq
def Tn.nm : Tn → String
  | .int => "int"
  | .bool => "bool"
  | .str => "str"
  | .tuple => "tuple"
  | .list => "list"
  | .dict => "dict"
  | .none => "NoneType"
/-- plain data -/
inductive D where
  | non | bl (b : Bool) | int (i : Int) | str (x : Str)
  | tup (xs : List D) | ntp (xs : List D) | lst (xs : List D) | dic (kvs : List (Key × D))
  | cls (x : Str) | ty (n : Tn)
  | obj (c : Str) (fs : List D) | exc (a dd : Addr) (f : Str) (d : D) | er0 (c : Str) | er1 (c f : Str) (d : D) | pal (w : Bool) | adr (a : Addr)
  deriving Inhabited
/-- the pail of draws: of the first family of laws, of the second -/
abbrev D.pail : D := .pal false
/-- what comes of an expression: a datum, or a list that nobody else holds -/
inductive Rv where
  | v (d : D) | fr (xs : List D)
def Rv.d : Rv → D
  | .v d => d
  | .fr xs => .lst xs
/-- a name's place: a datum, or a list of its own -/
inductive Slot where
  | val (d : D) | own (xs : List D) (t : Option Addr)
abbrev Env := List (Option Slot)
/-- a wish about errors: the class and what it was made with -/
abbrev XP := Str → List D → Prop
abbrev Call := Str → List D → (Rv → Prop) → XP → Prop
/-- built-in functions -/
inductive Bf where
  | isi | len | all | any | tup | lst | str | int | abs | min | max | sum | repr | sorted | bool | ord | chr | dict | set | round | divmod | lrg | ntup
  deriving DecidableEq
/-- methods of built-in types -/
inductive Mf where
  | join | split | count | get | items | keys | values | index | strip | startswith | endswith | replace | copy | idl
  deriving DecidableEq
/-! ### the small syntax -/
mutual
inductive Tg where
  | nm (i : Nat) | tp (ts : Tgs)
inductive Tgs where
  | nil | cons (t : Tg) (r : Tgs)
end
mutual
inductive Ex where
  | var (i : Nat) | con (d : D) | glo (d : D)
  | bin (op : Operator) (a b : Ex) | neg (a : Ex) | not (a : Ex) | and (a b : Ex) | or (a b : Ex)
  | cmp (op : CmpOp) (a b : Ex) | cmo (n : Bool) (a b : Ex) | cmi (n : Bool) (a b : Ex) | chn (o p : CmpOp) (a b c : Ex) | ite (t a b : Ex)
  | tup (es : Exs) | lst (es : Exs)
  | fn (f : Str) (es : Exs) | fnk (f : Str) (pm : List Nat) (es ks : Exs) | blt (f : Bf) (es : Exs) | mth (m : Mf) (o : Ex) (es : Exs) | mcl (m : Str) (o : Ex) (es : Exs) | mck (m : Str) (pm : List Nat) (o : Ex) (es ks : Exs) | att (o : Ex) (f : Str)
  | idx (o i : Ex) | slc (o : Ex) (lo hi : Exo) | rev (o : Ex)
  | lc (elt : Ex) (tg : Tg) (it : Ix) (cond : Exo) (own : List Nat)
  | fst (es : Exs) | dct (kvs : List (Key × D))
inductive Exs where
  | nil | cons (e : Ex) (r : Exs) | star (e : Ex) (r : Exs)
inductive Exo where
  | no | so (e : Ex)
inductive Ix where
  | seq (e : Ex) | rng1 (a : Ex) | rng2 (a b : Ex) | enu (e : Ex) | zip (a b : Ex)
end
mutual
inductive Sm where
  | ret (e : Ex) | retN | retO (i : Nat)
  | set (i : Nat) (e : Ex) | own (i : Nat) (e : Ex) | unp (tg : Tgs) (e : Ex) | uno (i j : Nat) (a b : Ex) | unf (i j : Nat) (a b : Ex) | pa3 (i j l : Nat) (a b c : Ex) | par (ks : List Nat) (es : Exs)
  | app (i : Nat) (e : Ex) | ext (i : Nat) (e : Ex) | put (i : Nat) (k e : Ex) | dvs (i : Nat) (k : Ex) (j : Nat) (e : Ex) | pop (i : Nat) | cio (j : Nat) (f : Str) (fl : List Bool) (es : Exs)
  | drop (e : Ex) | iff (t : Ex) (a b : Sms) | forr (tg : Tg) (it : Ix) (b : Sms) | whl (t : Ex) (b : Sms)
  | rse (c : Str) (es : Exs) | pss | brk | cnt | frz (i : Nat) | dead
inductive Sms where
  | nil | cons (s : Sm) (r : Sms)
end
/-! ### data as the library's data -/
mutual
def isDat : D → Bool
  | .non => true
  | .bl _ => true
  | .int _ => true
  | .str _ => true
  | .tup xs => isDats xs
  | .lst xs => isDats xs
  | _ => false
def isDats : List D → Bool
  | [] => true
  | x :: r => isDat x && isDats r
end
def keyPy : Key → PyData
  | .inl i => .int i
  | .inr x => .str x
def flatPy : D → PyData
  | .bl b => .bool b
  | .int i => .int i
  | .str x => .str x
  | _ => .none
mutual
def toPy : D → PyData
  | .non => .none
  | .bl b => .bool b
  | .int i => .int i
  | .str x => .str x
  | .tup xs => .tuple (toPys xs)
  | .lst xs => .list (toPys xs)
  | .dic kvs => .dict (kvs.map fun e => (keyPy e.1, flatPy e.2))
  | _ => .none
def toPys : List D → List PyData
  | [] => []
  | x :: r => toPy x :: toPys r
end
/-- a dict of flat data -/
def dicOk : List (Key × D) → Bool
  | [] => true
  | (_, .int _) :: r => dicOk r
  | (_, .str _) :: r => dicOk r
  | _ => false
/-- what repr shows -/
def isShw : D → Bool
  | .dic kvs => dicOk kvs
  | x => isDat x
/-! ### operators -/
def cutD (xs : List D) (lo hi : Option Int) : List D := (xs.drop (HT.sIx xs.length 0 lo)).take (HT.sIx xs.length xs.length hi - HT.sIx xs.length 0 lo)
/-- // by a small divisor, or by one below 2 ^ 9000 -/
def CDv (_ j : Int) : Prop := 0 < j ∧ (j < 1073741824 ∨ j.natAbs.log2 < 9000)
def binW : Operator → D → D → (Rv → Prop) → Prop
  | .Add, .int i, .int j, Q => Q (.v (.int (i + j)))
  | .Add, .str x, .str y, Q => x.length + y.length ≤ sizeLine ∧ Q (.v (.str (x ++ y)))
  | .Add, .tup xs, .tup ys, Q => xs.length + ys.length ≤ sizeLine ∧ Q (.v (.tup (xs ++ ys)))
  | .Add, .lst xs, .lst ys, Q => xs.length + ys.length ≤ sizeLine ∧ Q (.fr (xs ++ ys))
  | .Sub, .int i, .int j, Q => Q (.v (.int (i - j)))
  | .Mult, .int i, .int j, Q => IntMulOk i j ∧ Q (.v (.int (i * j)))
  | .Mult, .tup xs, .int k, Q => xs ≠ [] ∧ 0 ≤ k ∧ k ≤ 1000 ∧ xs.length ≤ 1000 ∧ Q (.v (.tup (List.replicate k.toNat xs).flatten))
  | .Mult, .lst xs, .int k, Q => 1 ≤ k ∧ k ≤ 1000 ∧ xs.length ≤ 1000 ∧ Q (.fr (List.replicate k.toNat xs).flatten)
  | .FloorDiv, .int i, .int j, Q => CDv i j ∧ Q (.v (.int (i / j)))
  | .Mod, .int i, .int j, Q => 0 < j ∧ Q (.v (.int (i % j)))
  | .Pow, .int i, .int j, Q => CPow i j ∧ Q (.v (.int (i ^ j.toNat)))
  | _, _, _, _ => False
def negW : D → (Rv → Prop) → Prop
  | .int i, Q => Q (.v (.int (-i)))
  | _, _ => False
def flatD : D → Bool
  | .non => true
  | .bl _ => true
  | .int _ => true
  | .str _ => true
  | _ => false
/-- equality of flat data, as Python has it -/
def eqF : D → D → Bool
  | .non, .non => true
  | .bl a, .bl b => a == b
  | .int a, .int b => a == b
  | .str a, .str b => a == b
  | .bl a, .int b => (if a then 1 else 0) == b
  | .int a, .bl b => a == (if b then 1 else 0)
  | _, _ => false
def isObj : D → Bool
  | .obj _ _ => true
  | _ => false
def E0 : XP := fun _ _ => False
/-- ==: of strings; of data at any depth; of own objects, by the class's def -/
def eqW (C : Call) (x y : D) (Q : Bool → Prop) : Prop := (∃ a b : Str, x = .str a ∧ y = .str b ∧ Q (decide (a = b))) ∨ (isDat x = true ∧ isDat y = true ∧ SeqAt.shaped (toPy x) = true ∧ SeqAt.shaped (toPy y) = true ∧ Q (PyData.eqv (toPy x) (toPy y))) ∨
  (isObj x = true ∧ isObj y = true ∧ C "__eq__" [x, y] (fun r => ∃ b, r = .v (.bl b) ∧ Q b) E0) ∨ (∃ xs, x = .tup xs ∧ y = .tup [] ∧ Q xs.isEmpty) ∨ (∃ xs, x = .lst xs ∧ y = .lst [] ∧ Q xs.isEmpty)
/-- the own object of two, then the other -/
def oSw : D → D → D × D
  | .obj c f, y => (.obj c f, y)
  | x, y => (y, x)
def kndD : D → Bool
  | .non => true
  | .bl _ => true
  | .int _ => true
  | .str _ => true
  | .tup _ => true
  | .lst _ => true
  | .dic _ => true
  | _ => false
/-- of that class, or of a kind of the language -/
def samO (c : Str) : D → Bool
  | .obj c' _ => decide (c' = c)
  | d => kndD d
/-- == of an own object and another thing, on either side -/
def eqOb (C : Call) (x y : D) (Q : Bool → Prop) : Prop := isObj (oSw x y).1 = true ∧ C "__eq__" [(oSw x y).1, (oSw x y).2] (fun r => ∃ b, r = .v (.bl b) ∧ Q b) E0
/-- an own object in a list -/
def inG (C : Call) (x : D) : List D → (Bool → Prop) → Prop
  | [], Q => Q false
  | y :: r, Q => (kndD y = false → Q true) ∧ eqOb C y x fun b => (b = true → Q true) ∧ (b = false → inG C x r Q)
def inO (C : Call) (x y : D) (Q : Bool → Prop) : Prop := ∃ ys, y = .lst ys ∧ ys ≠ [] ∧ isObj x = true ∧ inG C x ys Q
def flp : Bool → Bool → Bool
  | true, k => !k
  | false, k => k
/-- x in y -/
def inW (x : D) : D → (Bool → Prop) → Prop
  | .lst ys, Q => flatD x = true ∧ ys.all flatD = true ∧ Q (ys.any fun y => eqF y x)
  | .tup ys, Q => flatD x = true ∧ ys.all flatD = true ∧ Q (ys.any fun y => eqF y x)
  | .str z, Q => ∃ c, x = .str ⟨#[c]⟩ ∧ Q (decide (c ∈ z.cps.toList))
  | _, _ => False
def isNon : D → Bool
  | .non => true
  | _ => false
def cmpW (C : Call) : CmpOp → D → D → (Bool → Prop) → Prop
  | .Lt, .int i, .int j, Q => Q (decide (i < j))
  | .LtE, .int i, .int j, Q => Q (decide (i ≤ j))
  | .Gt, .int i, .int j, Q => Q (decide (j < i))
  | .GtE, .int i, .int j, Q => Q (decide (j ≤ i))
  | .Is, x, .non, Q => Q (isNon x)
  | .IsNot, x, .non, Q => Q (!isNon x)
  | .Eq, x, y, Q => eqW C x y Q
  | .NotEq, x, y, Q => eqW C x y fun b => Q (!b)
  | .In, x, y, Q => inW x y Q
  | .NotIn, x, y, Q => inW x y fun b => Q (!b)
  | _, _, _, _ => False
/-- truth -/
def truW : D → (Bool → Prop) → Prop
  | .non, Q => Q false
  | .bl b, Q => Q b
  | .int i, Q => Q (i != 0)
  | .str x, Q => x.length ≤ sizeLine ∧ Q ((x.length : Int) != 0)
  | .tup xs, Q => Q (!xs.isEmpty)
  | .lst xs, Q => Q (!xs.isEmpty)
  | _, _ => False
def idxW : D → D → (Rv → Prop) → Prop
  | .lst xs, .int i, Q => ∃ d, atI xs i = some d ∧ Q (.v d)
  | .tup xs, .int i, Q => ∃ d, atI xs i = some d ∧ Q (.v d)
  | .str x, .int i, Q => x.length ≤ sizeLine ∧ ∃ c, atI x.cps.toList i = some c ∧ Q (.v (.str ⟨#[c]⟩))
  | _, _, _ => False
def slcW (d : D) (lo hi : Option Int) (Q : Rv → Prop) : Prop := match d with
  | .lst xs => Q (.fr (cutD xs lo hi))
  | .tup xs => Q (.v (.tup (cutD xs lo hi)))
  | .str x => x.length ≤ sizeLine ∧ Q (.v (.str (cutS x lo hi)))
  | _ => False
/-- what a walked datum yields -/
def seqW : D → (List D → Prop) → Prop
  | .lst xs, Q => Q xs
  | .tup xs, Q => Q xs
  | .str x, Q => x.length ≤ sizeLine ∧ Q (x.cps.toList.map fun c => .str ⟨#[c]⟩)
  | _, _ => False
def enuW : D → (List D → Prop) → Prop
  | .lst xs, Q => Q xs
  | .tup xs, Q => Q xs
  | _, _ => False
def zipW : D → D → (List D → List D → Prop) → Prop
  | .lst xs, .lst ys, Q => Q xs ys
  | .tup xs, .tup ys, Q => Q xs ys
  | _, _, _ => False
def enumD (xs : List D) : List D := (List.range xs.length).map fun i => .tup [.int (i : Nat), (xs.getD i .non)]
def zipD (xs ys : List D) : List D := List.zipWith (fun x y => .tup [x, y]) xs ys
/-- the things of a tuple or of a list -/
def tupL : D → Option (List D)
  | .tup ds => some ds
  | .lst ds => some ds
  | _ => none
def tupR : Rv → Option (List D)
  | .v d => tupL d
  | .fr _ => none
mutual
def bindTg : Tg → D → Env → (Env → Prop) → Prop
  | .nm i, d, r, K => K (r.set i (some (.val d)))
  | .tp ts, d, r, K => ∃ ds, tupL d = some ds ∧ bindTgs ts ds r K
def bindTgs : Tgs → List D → Env → (Env → Prop) → Prop
  | .nil, ds, r, K => ds = [] ∧ K r
  | .cons t ts, ds, r, K => ∃ x xs, ds = x :: xs ∧ bindTg t x r fun r' => bindTgs ts xs r' K
end
def wip (r : Env) : List Nat → Env
  | [] => r
  | v :: vs => (wip r vs).set v none
def foldW {α : Type} (step : D → α → (α → Prop) → Prop) : List D → α → (α → Prop) → Prop
  | [], a, Q => Q a
  | x :: xs, a, Q => step x a fun a' => foldW step xs a' Q
def varW (i : Nat) (r : Env) (Q : D → Prop) : Prop := ∃ d, r[i]? = some (some (.val d)) ∧ Q d
/-- a name that is read, also one that has a list of its own -/
def barW (i : Nat) (r : Env) (Q : D → Prop) : Prop := (∃ d, r[i]? = some (some (.val d)) ∧ Q d) ∨ ∃ xs t, r[i]? = some (some (.own xs t)) ∧ Q (.lst xs)
/-- the text of a datum in an f-string -/
def fmtW : D → (Str → Prop) → Prop
  | .str x, Q => x.length ≤ sizeLine ∧ Q x
  | .int i, Q => i.natAbs.log2 < 1920 ∧ Q (toString i)
  | _, _ => False
/-- the built-in functions, the methods of built-in types: given to the meaning -/
structure Lib where
  blt : Call → Bf → List D → (Rv → Prop) → XP → Prop
  mth : Mf → D → List D → (Rv → Prop) → Prop
  mty : Mf → D → Bool
  mok : Str → D → Bool
/-- what an expression means: as it comes, as a test, as a datum that is only read -/
structure EvP where
  R : (Rv → Prop) → XP → Prop
  T : (Bool → Prop) → XP → Prop
  S : (D → Prop) → XP → Prop
def mkV (R : (Rv → Prop) → XP → Prop) : EvP := ⟨R, fun Q E => R (fun x => truW x.d Q) E, fun Q E => R (fun x => Q x.d) E⟩
def mkT (R : (Rv → Prop) → XP → Prop) (T : (Bool → Prop) → XP → Prop) : EvP := ⟨R, T, fun Q E => R (fun x => Q x.d) E⟩
/-- a list of expressions: as they come; only read -/
structure EvA where
  R : (List D → Prop) → XP → Prop
  S : (List D → Prop) → XP → Prop
section
variable (B : Lib) (C : Call)
mutual
def evP : Ex → Env → EvP
  | .var i, r => ⟨fun Q _ => varW i r fun d => Q (.v d), fun Q _ => barW i r fun x => truW x Q, fun Q _ => barW i r Q⟩
  | .con d, _ => mkV fun Q _ => Q (.v d)
  | .glo d, _ => mkV fun Q _ => Q (.v d)
  | .bin op a b, r => mkV fun Q E => (evP a r).S (fun x => (evP b r).S (fun y => binW op x y Q) E) E
  | .neg a, r => mkV fun Q E => (evP a r).S (fun x => negW x Q) E
  | .not a, r => mkT (fun Q E => (evP a r).S (fun x => truW x fun b => Q (.v (.bl (!b)))) E) fun Q E => (evP a r).T (fun b => Q (!b)) E
  | .and a b, r => mkT (fun Q E => (evP a r).S (fun x => ∃ c, x = .bl c ∧ (if c = true then (evP b r).R Q E else Q (.v (.bl false)))) E)
      fun Q E => (evP a r).T (fun c => if c = true then (evP b r).T Q E else Q false) E
  | .or a b, r => mkT (fun Q E => (evP a r).S (fun x => ∃ c, x = .bl c ∧ (if c = true then Q (.v (.bl true)) else (evP b r).R Q E)) E)
      fun Q E => (evP a r).T (fun c => if c = true then Q true else (evP b r).T Q E) E
  | .cmp op a b, r => mkT (fun Q E => (evP a r).S (fun x => (evP b r).S (fun y => cmpW C op x y fun k => Q (.v (.bl k))) E) E)
      fun Q E => (evP a r).S (fun x => (evP b r).S (fun y => cmpW C op x y Q) E) E
  | .cmo n a b, r => mkT (fun Q E => (evP a r).R (fun x => (evP b r).R (fun y => eqOb C x.d y.d fun k => Q (.v (.bl (flp n k)))) E) E)
      fun Q E => (evP a r).R (fun x => (evP b r).R (fun y => eqOb C x.d y.d fun k => Q (flp n k)) E) E
  | .cmi n a b, r => mkT (fun Q E => (evP a r).R (fun x => (evP b r).S (fun y => inO C x.d y fun k => Q (.v (.bl (flp n k)))) E) E)
      fun Q E => (evP a r).R (fun x => (evP b r).S (fun y => inO C x.d y fun k => Q (flp n k)) E) E
  | .chn o p a b c, r => mkT (fun Q E => (evP a r).S (fun x => (evP b r).S (fun y => cmpW C o x y fun k => if k = true then (evP c r).S (fun z => cmpW C p y z fun k => Q (.v (.bl k))) E else Q (.v (.bl false))) E) E)
      fun Q E => (evP a r).S (fun x => (evP b r).S (fun y => cmpW C o x y fun k => if k = true then (evP c r).S (fun z => cmpW C p y z Q) E else Q false) E) E
  | .ite t a b, r => mkV fun Q E => (evP t r).T (fun c => if c = true then (evP a r).R Q E else (evP b r).R Q E) E
  | .tup es, r => mkV fun Q E => (evAs es r).R (fun xs => xs.length ≤ sizeLine ∧ Q (.v (.tup xs))) E
  | .lst es, r => mkV fun Q E => (evAs es r).R (fun xs => xs.length ≤ sizeLine ∧ Q (.fr xs)) E
  | .fn f es, r => mkV fun Q E => (evAs es r).R (fun xs => C f xs Q E) E
  | .blt f es, r => mkV fun Q E => (evAs es r).S (fun xs => B.blt C f xs Q E) E
  | .mth m o es, r => mkV fun Q E => (evP o r).S (fun x => B.mty m x = true ∧ (evAs es r).S (fun xs => B.mth m x xs Q) E) E
  | .fnk f pm es ks, r => mkV fun Q E => (evAs es r).R (fun xs => (evAs ks r).R (fun ys => C f (pm.map fun j => (xs ++ ys).getD j .non) Q E) E) E
  | .mcl m o es, r => mkV fun Q E => (evP o r).R (fun x => B.mok m x.d = true ∧ (evAs es r).R (fun xs => C m (x.d :: xs) Q E) E) E
  | .mck m pm o es ks, r => mkV fun Q E => (evP o r).R (fun x => B.mok m x.d = true ∧ (evAs es r).R (fun xs => (evAs ks r).R (fun ys => C m (x.d :: pm.map fun j => (xs ++ ys).getD j .non) Q E) E) E) E
  | .att o f, r => mkV fun Q E => (evP o r).R (fun x => C f [x.d] Q E) E
  | .idx o i, r => mkV fun Q E => (evP o r).S (fun x => (evP i r).S (fun y => idxW x y Q) E) E
  | .slc o lo hi, r => mkV fun Q E => (evP o r).S (fun x => evO lo r (fun l => evO hi r (fun h => slcW x l h Q) E) E) E
  | .rev o, r => mkV fun Q E => (evP o r).S (fun x => (∃ xs, x = .tup xs ∧ Q (.v (.tup xs.reverse))) ∨ ∃ xs, x = .lst xs ∧ Q (.fr xs.reverse)) E
  | .lc elt tg it cond own, r => mkV fun Q E => evI it r (fun items => items.length ≤ sizeLine ∧ foldW (fun x acc K => bindTg tg x (wip r own) fun r2 =>
      evC cond r2 (fun b => if b = true then (evP elt r2).R (fun y => K (acc ++ [y.d])) E0 else K acc)) items [] fun acc => Q (.fr acc)) E
  | .fst es, r => mkV fun Q E => evF es r Str.empty (fun s => Q (.v (.str s))) E
  | .dct kvs, _ => mkV fun Q _ => Q (.v (.dic kvs))
def evAs : Exs → Env → EvA
  | .nil, _ => ⟨fun Q _ => Q [], fun Q _ => Q []⟩
  | .cons e es, r => ⟨fun Q E => (evP e r).R (fun x => (evAs es r).R (fun xs => Q (x.d :: xs)) E) E, fun Q E => (evP e r).S (fun x => (evAs es r).S (fun xs => Q (x :: xs)) E) E⟩
  | .star e es, r => ⟨fun Q E => (evP e r).S (fun x => enuW x fun ys => (evAs es r).R (fun xs => Q (ys ++ xs)) E) E, fun _ _ => False⟩
def evF : Exs → Env → Str → (Str → Prop) → XP → Prop
  | .nil, _, acc, Q, _ => Q acc
  | .cons e es, r, acc, Q, E => (evP e r).S (fun x => fmtW x fun s => (acc ++ s).length ≤ sizeLine ∧ evF es r (acc ++ s) Q E) E
  | .star _ _, _, _, _, _ => False
def evO : Exo → Env → (Option Int → Prop) → XP → Prop
  | .no, _, Q, _ => Q none
  | .so e, r, Q, E => (evP e r).S (fun x => ∃ i, x = .int i ∧ Q (some i)) E
def evC : Exo → Env → (Bool → Prop) → Prop
  | .no, _, Q => Q true
  | .so e, r, Q => (evP e r).T Q E0
def evI : Ix → Env → (List D → Prop) → XP → Prop
  | .seq e, r, Q, E => (evP e r).S (fun x => seqW x Q) E
  | .rng1 a, r, Q, E => (evP a r).S (fun x => ∃ j : Int, x = .int j ∧ (-1000000 ≤ j ∧ j ≤ 1000000) ∧ Q ((List.range j.toNat).map fun i => .int (i : Nat))) E
  | .rng2 a b, r, Q, E => (evP a r).S (fun x => (evP b r).S (fun y => ∃ i j : Int, x = .int i ∧ y = .int j ∧ -1000000 ≤ i ∧ i ≤ 1000000 ∧ -1000000 ≤ j ∧ j ≤ 1000000 ∧ Q ((List.range (j - i).toNat).map fun k => .int (i + (k : Nat)))) E) E
  | .enu e, r, Q, E => (evP e r).S (fun x => enuW x fun xs => Q (enumD xs)) E
  | .zip a b, r, Q, E => (evP a r).S (fun x => (evP b r).S (fun y => zipW x y fun xs ys => Q (zipD xs ys)) E) E
end
def evR (e : Ex) (r : Env) (Q : Rv → Prop) (E : XP) : Prop := (evP B C e r).R Q E
def evT (e : Ex) (r : Env) (Q : Bool → Prop) (E : XP) : Prop := (evP B C e r).T Q E
def evS (e : Ex) (r : Env) (Q : D → Prop) (E : XP) : Prop := (evP B C e r).S Q E
/-! ### statements -/
structure Nd where
  nx : Env → Prop
  rt : Rv → Env → Prop
  bk : Env → Prop := fun _ => False
  ct : Env → Prop := fun _ => False
/-- the names that a for walks are changed no more -/
def fzV (i : Nat) (r : Env) : Env := match r[i]? with
  | some (some (.own xs _)) => r.set i (some (.val (.lst xs)))
  | _ => r
def fzE : Ex → Env → Env
  | .var i, r => fzV i r
  | _, r => r
/-- what a for walks, and the names' places then -/
def evIF : Ix → Env → (List D → Env → Prop) → XP → Prop
  | .seq e, r, Q, E => evS B C e r (fun x => seqW x fun xs => Q xs (fzE e r)) E
  | .rng1 a, r, Q, E => evI B C (.rng1 a) r (fun xs => Q xs r) E
  | .rng2 a b, r, Q, E => evI B C (.rng2 a b) r (fun xs => Q xs r) E
  | .enu e, r, Q, E => evS B C e r (fun x => enuW x fun xs => Q (enumD xs) (fzE e r)) E
  | .zip a b, r, Q, E => evS B C a r (fun x => evS B C b (fzE a r) (fun y => zipW x y fun xs ys => Q (zipD xs ys) (fzE b (fzE a r))) E) E
def slotOf : Rv → Slot
  | .v d => .val d
  | .fr xs => .own xs none
def setAll : List Nat → List D → Env → Env
  | i :: ks, d :: ds, r => setAll ks ds (r.set i (some (.val d)))
  | _, _, r => r
def forW (turn : D → Env → (Env → Prop) → Prop) : List D → Env → (Env → Prop) → Prop
  | [], r, K => K r
  | x :: xs, r, K => turn x r fun r' => forW turn xs r' K
/-! calls that change lists of the caller: which of the values are such lists -/
def ioIx : List Bool → Exs → List Nat
  | true :: fl, .cons (.var i) es => i :: ioIx fl es
  | false :: fl, .cons _ es => ioIx fl es
  | _, _ => []
def ioOwn : List Bool → Exs → Env → Bool
  | true :: fl, .cons (.var i) es, r => (match r[i]? with
    | some (some (.own _ _)) => true
    | _ => false) && ioOwn fl es r
  | false :: fl, .cons _ es, r => ioOwn fl es r
  | [], .nil, _ => true
  | _, _, _ => false
def ioFlat : List Bool → List D → Bool
  | true :: fl, _ :: ds => ioFlat fl ds
  | false :: fl, d :: ds => flatD d && ioFlat fl ds
  | [], [] => true
  | _, _ => false
def ioSet : List Bool → Exs → List D → Env → Option Env
  | true :: fl, .cons (.var i) es, .lst y :: ys, r => (match r[i]? with
    | some (some (.own _ t)) => ioSet fl es ys (r.set i (some (.own y t)))
    | _ => none)
  | false :: fl, .cons _ es, ys, r => ioSet fl es ys r
  | [], .nil, [], r => some r
  | _, _, _, _ => none
mutual
def exS : Sm → Nd → Env → XP → Prop
  | .ret e, N, r, E => evR B C e r (fun x => N.rt x r) E
  | .retN, N, r, _ => N.rt (.v .non) r
  | .retO i, N, r, _ => (∃ xs t, r[i]? = some (some (.own xs t)) ∧ N.rt (.fr xs) r) ∨ ∃ d, r[i]? = some (some (.val d)) ∧ N.rt (.v d) r
  | .frz i, N, r, _ => N.nx (fzV i r)
  | .set i e, N, r, E => evR B C e r (fun x => N.nx (r.set i (some (.val x.d)))) E
  | .own i e, N, r, E => evR B C e r (fun x => N.nx (r.set i (some (slotOf x)))) E
  | .unp tg e, N, r, E => evR B C e r (fun x => ∃ xs, tupR x = some xs ∧ bindTgs tg xs r N.nx) E
  | .uno i j a b, N, r, E => evR B C a r (fun x => ∃ d, x = .v d ∧ evR B C b r (fun y => N.nx ((r.set i (some (.val d))).set j (some (slotOf y)))) E) E
  | .unf i j a b, N, r, E => evR B C a r (fun x => evR B C b r (fun y => N.nx ((r.set i (some (slotOf x))).set j (some (slotOf y)))) E) E
  | .pa3 i j l a b c, N, r, E => evR B C a r (fun x => ∃ d, x = .v d ∧ evR B C b r (fun y => evR B C c r (fun u => N.nx (((r.set i (some (.val d))).set j (some (slotOf y))).set l (some (slotOf u)))) E) E) E
  | .par ks es, N, r, E => (evAs B C es r).R (fun xs => xs.length = ks.length ∧ N.nx (setAll ks xs r)) E
  | .app i e, N, r, E => ∃ xs t, r[i]? = some (some (.own xs t)) ∧ xs.length < sizeLine ∧ evR B C e r (fun x => N.nx (r.set i (some (.own (xs ++ [x.d]) t)))) E
  | .ext i e, N, r, E => ∃ xs t, r[i]? = some (some (.own xs t)) ∧ evR B C e r (fun x => ∃ ys, x = .fr ys ∧ xs.length + ys.length ≤ sizeLine ∧ N.nx (r.set i (some (.own (xs ++ ys) t)))) E
  | .put i k e, N, r, E => ∃ xs t, r[i]? = some (some (.own xs t)) ∧ evR B C e r (fun x => evS B C k r (fun y => ∃ j n, y = .int j ∧ ixN xs.length j = some n ∧ N.nx (r.set i (some (.own (xs.set n x.d) t)))) E) E
  | .dvs i k j e, N, r, E => ∃ xs t, r[i]? = some (some (.own xs t)) ∧ evR B C e r (fun x => ∃ a b, x = .v (.tup [a, b]) ∧ evS B C k r (fun y => ∃ z n, y = .int z ∧ ixN xs.length z = some n ∧ N.nx ((r.set i (some (.own (xs.set n a) t))).set j (some (.val b)))) E) E
  | .pop i, N, r, _ => ∃ xs x t, r[i]? = some (some (.own (xs ++ [x]) t)) ∧ N.nx (r.set i (some (.own xs t)))
  | .cio j f fl es, N, r, _ => (ioIx fl es).Nodup ∧ ioOwn fl es r = true ∧ (evAs B C es r).S (fun ds => ioFlat fl ds = true ∧ C f ds (fun x => ∃ d ys r', x = .v (.tup (d :: ys)) ∧ ioSet fl es ys r = some r' ∧ N.nx (r'.set j (some (.val d)))) E0) E0
  | .drop e, N, r, E => evR B C e r (fun _ => N.nx r) E
  | .iff t a b, N, r, E => evT B C t r (fun c => if c = true then exSs a N r E else exSs b N r E) E
  | .forr tg it b, N, r, E => evIF B C it r (fun items r0 => forW (fun x r1 K => bindTg tg x r1 fun r2 => exSs b { N with nx := K, ct := K, bk := N.nx } r2 E) items r0 N.nx) E
  | .whl t b, N, r, E => ∃ W : Nat → Env → Prop, (∃ m, W m r) ∧ ∀ m r, W m r → evT B C t r (fun c => if c = true then exSs b { N with nx := fun r' => ∃ m', m' < m ∧ W m' r', ct := fun r' => ∃ m', m' < m ∧ W m' r', bk := N.nx } r E else N.nx r) E
  | .rse c es, _, r, E => C "!lv" [] (fun _ => True) E0 ∧ (evAs B C es r).R (fun xs => C c xs (fun _ => E c xs) E0) E
  | .dead, _, _, _ => False
  | .pss, N, r, _ => N.nx r
  | .brk, N, r, _ => N.bk r
  | .cnt, N, r, _ => N.ct r
def exSs : Sms → Nd → Env → XP → Prop
  | .nil, N, r, _ => N.nx r
  | .cons s q, N, r, E => exS s { N with nx := fun r' => exSs q N r' E } r E
end
end
/-! ### defs -/
structure Fn where
  ps : Nat
  n : Nat
  body : Sms
def startD (n : Nat) (ds : List D) : Env := ds.map (fun d => some (Slot.val d)) ++ List.replicate (n - ds.length) none
def callW (B : Lib) (fs : List (Str × Fn)) (prim : Call → Call) : Nat → Call
  | 0, _, _, _, _ => False
  | k + 1, f, ds, Q, E => match fs.lookup f with
    | some F => ds.length = F.ps ∧ exSs B (callW B fs prim k) F.body { nx := fun _ => Q (.v .non), rt := fun x _ => Q x } (startD F.n ds) E
    | none => prim (callW B fs prim k) f ds Q E
end En
/-! En2: monotony; how data lies in the heap; readings. -/
namespace En
open PySem L2
/-! ### monotony -/
theorem foldW_mono {α : Type} {s t : D → α → (α → Prop) → Prop} (h : ∀ x a K K', (∀ b, K b → K' b) → s x a K → t x a K') : ∀ (xs : List D) (a : α) (Q Q' : α → Prop), (∀ b, Q b → Q' b) → foldW s xs a Q → foldW t xs a Q'
  | [], _, _, _, hq, z => hq _ z
  | x :: xs, a, Q, Q', hq, z => h x a _ _ (fun b zb => foldW_mono h xs b Q Q' hq zb) z
theorem forW_mono {s t : D → Env → (Env → Prop) → Prop} (h : ∀ x a K K', (∀ b, K b → K' b) → s x a K → t x a K') : ∀ (xs : List D) (a : Env) (Q Q' : Env → Prop), (∀ b, Q b → Q' b) → forW s xs a Q → forW t xs a Q'
  | [], _, _, _, hq, z => hq _ z
  | x :: xs, a, Q, Q', hq, z => h x a _ _ (fun b zb => forW_mono h xs b Q Q' hq zb) z
theorem binW_mono {op : Operator} {x y : D} {Q Q' : Rv → Prop} (h : ∀ r, Q r → Q' r) (z : binW op x y Q) : binW op x y Q' := by
  unfold binW at z ⊢
  split at z <;> first
    | exact h _ z
    | exact ⟨z.1, h _ z.2⟩
    | exact ⟨z.1, z.2.1, z.2.2.1, z.2.2.2.1, h _ z.2.2.2.2⟩
    | exact ⟨z.1, z.2.1, z.2.2.1, h _ z.2.2.2⟩
    | exact z.elim
theorem negW_mono {x : D} {Q Q' : Rv → Prop} (h : ∀ r, Q r → Q' r) (z : negW x Q) : negW x Q' := by
  unfold negW at z ⊢
  split at z <;> first
    | exact h _ z
    | exact z.elim
def MonoC (C : Call) : Prop := ∀ f xs Q Q' E E', (∀ r, Q r → Q' r) → (∀ c ds, E c ds → E' c ds) → C f xs Q E → C f xs Q' E'
theorem eqW_mono {C : Call} (hC : MonoC C) {x y : D} {Q Q' : Bool → Prop} (h : ∀ r, Q r → Q' r) (z : eqW C x y Q) : eqW C x y Q' := by
  rcases z with ⟨a, b, e1, e2, z⟩ | z | ⟨h1, h2, z⟩ | ⟨xs, e1, e2, z⟩ | ⟨xs, e1, e2, z⟩
  · exact .inl ⟨a, b, e1, e2, h _ z⟩
  · exact .inr (.inl ⟨z.1, z.2.1, z.2.2.1, z.2.2.2.1, h _ z.2.2.2.2⟩)
  · exact .inr (.inr (.inl ⟨h1, h2, hC _ _ _ _ _ _ (fun r ⟨b, e, q⟩ => ⟨b, e, h _ q⟩) (fun _ _ z => z) z⟩))
  · exact .inr (.inr (.inr (.inl ⟨xs, e1, e2, h _ z⟩)))
  · exact .inr (.inr (.inr (.inr ⟨xs, e1, e2, h _ z⟩)))
theorem inW_mono {x y : D} {Q Q' : Bool → Prop} (h : ∀ r, Q r → Q' r) (z : inW x y Q) : inW x y Q' := by
  unfold inW at z ⊢
  split at z <;> first
    | exact ⟨z.1, z.2.1, h _ z.2.2⟩
    | exact z.elim
    | (obtain ⟨c, e, z⟩ := z; exact ⟨c, e, h _ z⟩)
theorem cmpW_mono {C : Call} (hC : MonoC C) {op : CmpOp} {x y : D} {Q Q' : Bool → Prop} (h : ∀ r, Q r → Q' r) (z : cmpW C op x y Q) : cmpW C op x y Q' := by
  unfold cmpW at z ⊢
  split at z <;> first
    | exact h _ z
    | exact eqW_mono hC h z
    | exact eqW_mono hC (fun r q => h _ q) z
    | exact inW_mono h z
    | exact inW_mono (fun r q => h _ q) z
    | exact z.elim
theorem eqOb_mono {C : Call} (hC : MonoC C) {x y : D} {Q Q' : Bool → Prop} (h : ∀ r, Q r → Q' r) (z : eqOb C x y Q) : eqOb C x y Q' := ⟨z.1, hC _ _ _ _ _ _ (fun r ⟨b, e, q⟩ => ⟨b, e, h _ q⟩) (fun _ _ z => z) z.2⟩
theorem inG_mono {C : Call} (hC : MonoC C) {x : D} : ∀ {ys : List D} {Q Q' : Bool → Prop}, (∀ r, Q r → Q' r) → inG C x ys Q → inG C x ys Q'
  | [], _, _, h, z => h _ z
  | y :: r, _, _, h, z => ⟨fun e => h _ (z.1 e), eqOb_mono hC (fun b q => ⟨fun e => h _ (q.1 e), fun e => inG_mono hC h (q.2 e)⟩) z.2⟩
theorem inO_mono {C : Call} (hC : MonoC C) {x y : D} {Q Q' : Bool → Prop} (h : ∀ r, Q r → Q' r) (z : inO C x y Q) : inO C x y Q' := by
  obtain ⟨ys, e, e2, e3, z⟩ := z
  exact ⟨ys, e, e2, e3, inG_mono hC h z⟩
theorem truW_mono {x : D} {Q Q' : Bool → Prop} (h : ∀ r, Q r → Q' r) (z : truW x Q) : truW x Q' := by
  unfold truW at z ⊢
  split at z <;> first
    | exact h _ z
    | exact ⟨z.1, h _ z.2⟩
    | exact z.elim
theorem idxW_mono {x y : D} {Q Q' : Rv → Prop} (h : ∀ r, Q r → Q' r) (z : idxW x y Q) : idxW x y Q' := by
  unfold idxW at z ⊢
  split at z <;> first
    | (obtain ⟨d, e, z⟩ := z; exact ⟨d, e, h _ z⟩)
    | (obtain ⟨l, d, e, z⟩ := z; exact ⟨l, d, e, h _ z⟩)
    | exact z.elim
theorem slcW_mono {x : D} {lo hi : Option Int} {Q Q' : Rv → Prop} (h : ∀ r, Q r → Q' r) (z : slcW x lo hi Q) : slcW x lo hi Q' := by
  unfold slcW at z ⊢
  split at z <;> first
    | exact h _ z
    | exact ⟨z.1, h _ z.2⟩
    | exact z.elim
theorem enuW_mono {x : D} {Q Q' : List D → Prop} (h : ∀ r, Q r → Q' r) (z : enuW x Q) : enuW x Q' := by
  unfold enuW at z ⊢
  split at z <;> first | exact h _ z | exact z.elim
theorem zipW_mono {x y : D} {Q Q' : List D → List D → Prop} (h : ∀ r s, Q r s → Q' r s) (z : zipW x y Q) : zipW x y Q' := by
  unfold zipW at z ⊢
  split at z <;> first | exact h _ _ z | exact z.elim
theorem seqW_mono {x : D} {Q Q' : List D → Prop} (h : ∀ r, Q r → Q' r) (z : seqW x Q) : seqW x Q' := by
  unfold seqW at z ⊢
  split at z <;> first
    | exact h _ z
    | exact ⟨z.1, h _ z.2⟩
    | exact z.elim
mutual
theorem bindTg_mono : ∀ (t : Tg) (d : D) (r : Env) (K K' : Env → Prop), (∀ r, K r → K' r) → bindTg t d r K → bindTg t d r K'
  | .nm i, d, r, K, K', h, z => by
    unfold bindTg at z ⊢
    exact h _ z
  | .tp ts, d, r, K, K', h, z => by
    unfold bindTg at z ⊢
    obtain ⟨ds, e, z⟩ := z
    exact ⟨ds, e, bindTgs_mono ts ds r K K' h z⟩
theorem bindTgs_mono : ∀ (t : Tgs) (d : List D) (r : Env) (K K' : Env → Prop), (∀ r, K r → K' r) → bindTgs t d r K → bindTgs t d r K'
  | .nil, d, r, K, K', h, z => by
    unfold bindTgs at z ⊢
    exact ⟨z.1, h _ z.2⟩
  | .cons t ts, d, r, K, K', h, z => by
    unfold bindTgs at z ⊢
    obtain ⟨x, xs, e, z⟩ := z
    exact ⟨x, xs, e, bindTg_mono t x r _ _ (fun r1 z1 => bindTgs_mono ts xs r1 K K' h z1) z⟩
end
theorem varW_mono {i : Nat} {r : Env} {Q Q' : D → Prop} (h : ∀ d, Q d → Q' d) (z : varW i r Q) : varW i r Q' := by
  obtain ⟨d, e, z⟩ := z
  exact ⟨d, e, h _ z⟩
theorem barW_mono {i : Nat} {r : Env} {Q Q' : D → Prop} (h : ∀ d, Q d → Q' d) (z : barW i r Q) : barW i r Q' := by
  rcases z with ⟨d, e, z⟩ | ⟨d, t, e, z⟩
  · exact .inl ⟨d, e, h _ z⟩
  · exact .inr ⟨d, t, e, h _ z⟩
structure Lib.Mono (B : Lib) : Prop where
  blt : ∀ C, MonoC C → ∀ f xs Q Q' E E', (∀ r, Q r → Q' r) → (∀ c ds, E c ds → E' c ds) → B.blt C f xs Q E → B.blt C f xs Q' E'
  mth : ∀ m x xs Q Q', (∀ r, Q r → Q' r) → B.mth m x xs Q → B.mth m x xs Q'
theorem fmtW_mono {x : D} {Q Q' : Str → Prop} (h : ∀ r, Q r → Q' r) (z : fmtW x Q) : fmtW x Q' := by
  unfold fmtW at z ⊢
  split at z <;> first
    | exact ⟨z.1, h _ z.2⟩
    | exact z.elim
structure MoP (p : EvP) : Prop where
  R : ∀ Q Q' E E', (∀ r, Q r → Q' r) → (∀ c ds, E c ds → E' c ds) → p.R Q E → p.R Q' E'
  T : ∀ Q Q' E E', (∀ r, Q r → Q' r) → (∀ c ds, E c ds → E' c ds) → p.T Q E → p.T Q' E'
  S : ∀ Q Q' E E', (∀ r, Q r → Q' r) → (∀ c ds, E c ds → E' c ds) → p.S Q E → p.S Q' E'
structure MoA (p : EvA) : Prop where
  R : ∀ Q Q' E E', (∀ r, Q r → Q' r) → (∀ c ds, E c ds → E' c ds) → p.R Q E → p.R Q' E'
  S : ∀ Q Q' E E', (∀ r, Q r → Q' r) → (∀ c ds, E c ds → E' c ds) → p.S Q E → p.S Q' E'
theorem moV {R : (Rv → Prop) → XP → Prop} (h : ∀ Q Q' E E', (∀ r, Q r → Q' r) → (∀ c ds, E c ds → E' c ds) → R Q E → R Q' E') : MoP (mkV R) :=
  ⟨h, fun Q Q' E E' hq he z => h _ _ E E' (fun r q => truW_mono hq q) he z, fun Q Q' E E' hq he z => h _ _ E E' (fun r q => hq _ q) he z⟩
theorem moT {R : (Rv → Prop) → XP → Prop} {T : (Bool → Prop) → XP → Prop} (h : ∀ Q Q' E E', (∀ r, Q r → Q' r) → (∀ c ds, E c ds → E' c ds) → R Q E → R Q' E')
    (ht : ∀ Q Q' E E', (∀ r, Q r → Q' r) → (∀ c ds, E c ds → E' c ds) → T Q E → T Q' E') : MoP (mkT R T) :=
  ⟨h, ht, fun Q Q' E E' hq he z => h _ _ E E' (fun r q => hq _ q) he z⟩
theorem ite_mono {c : Bool} {A A' B B' : Prop} (h : A → A') (h' : B → B') (z : if c = true then A else B) : if c = true then A' else B' := by
  cases c
  · exact h' z
  · exact h z
section
variable {B : Lib} {C : Call} (hB : B.Mono) (hC : MonoC C)
include hB hC
mutual
theorem evP_mono : ∀ (e : Ex) (r : Env), MoP (evP B C e r)
  | .var i, r => by
    unfold evP
    exact ⟨fun Q Q' E E' hq he z => varW_mono (fun d q => hq _ q) z, fun Q Q' E E' hq he z => barW_mono (fun d q => truW_mono hq q) z, fun Q Q' E E' hq he z => barW_mono hq z⟩
  | .con d, r => by
    unfold evP
    exact moV fun Q Q' E E' hq he z => hq _ z
  | .glo d, r => by
    unfold evP
    exact moV fun Q Q' E E' hq he z => hq _ z
  | .bin op a b, r => by
    unfold evP
    exact moV fun Q Q' E E' hq he z => (evP_mono a r).S _ _ E E' (fun x q => (evP_mono b r).S _ _ E E' (fun y q => binW_mono hq q) he q) he z
  | .neg a, r => by
    unfold evP
    exact moV fun Q Q' E E' hq he z => (evP_mono a r).S _ _ E E' (fun x q => negW_mono hq q) he z
  | .not a, r => by
    unfold evP
    exact moT (fun Q Q' E E' hq he z => (evP_mono a r).S _ _ E E' (fun x q => truW_mono (fun b q => hq _ q) q) he z) fun Q Q' E E' hq he z => (evP_mono a r).T _ _ E E' (fun x q => hq _ q) he z
  | .and a b, r => by
    unfold evP
    exact moT (fun Q Q' E E' hq he z => (evP_mono a r).S _ _ E E' (fun x ⟨c, e, q⟩ => ⟨c, e, ite_mono (fun q => (evP_mono b r).R _ _ E E' hq he q) (fun q => hq _ q) q⟩) he z)
      fun Q Q' E E' hq he z => (evP_mono a r).T _ _ E E' (fun x q => ite_mono (fun q => (evP_mono b r).T _ _ E E' hq he q) (fun q => hq _ q) q) he z
  | .or a b, r => by
    unfold evP
    exact moT (fun Q Q' E E' hq he z => (evP_mono a r).S _ _ E E' (fun x ⟨c, e, q⟩ => ⟨c, e, ite_mono (fun q => hq _ q) (fun q => (evP_mono b r).R _ _ E E' hq he q) q⟩) he z)
      fun Q Q' E E' hq he z => (evP_mono a r).T _ _ E E' (fun x q => ite_mono (fun q => hq _ q) (fun q => (evP_mono b r).T _ _ E E' hq he q) q) he z
  | .cmp op a b, r => by
    unfold evP
    exact moT (fun Q Q' E E' hq he z => (evP_mono a r).S _ _ E E' (fun x q => (evP_mono b r).S _ _ E E' (fun y q => cmpW_mono hC (fun k q => hq _ q) q) he q) he z)
      fun Q Q' E E' hq he z => (evP_mono a r).S _ _ E E' (fun x q => (evP_mono b r).S _ _ E E' (fun y q => cmpW_mono hC hq q) he q) he z
  | .cmo n a b, r => by
    unfold evP
    exact moT (fun Q Q' E E' hq he z => (evP_mono a r).R _ _ E E' (fun x q => (evP_mono b r).R _ _ E E' (fun y q => eqOb_mono hC (fun k q => hq _ q) q) he q) he z)
      fun Q Q' E E' hq he z => (evP_mono a r).R _ _ E E' (fun x q => (evP_mono b r).R _ _ E E' (fun y q => eqOb_mono hC (fun k q => hq _ q) q) he q) he z
  | .cmi n a b, r => by
    unfold evP
    exact moT (fun Q Q' E E' hq he z => (evP_mono a r).R _ _ E E' (fun x q => (evP_mono b r).S _ _ E E' (fun y q => inO_mono hC (fun k q => hq _ q) q) he q) he z)
      fun Q Q' E E' hq he z => (evP_mono a r).R _ _ E E' (fun x q => (evP_mono b r).S _ _ E E' (fun y q => inO_mono hC (fun k q => hq _ q) q) he q) he z
  | .chn o p a b c, r => by
    unfold evP
    exact moT (fun Q Q' E E' hq he z => (evP_mono a r).S _ _ E E' (fun x q => (evP_mono b r).S _ _ E E' (fun y q => cmpW_mono hC (fun k q => ite_mono (fun q => (evP_mono c r).S _ _ E E' (fun y q => cmpW_mono hC (fun k q => hq _ q) q) he q) (fun q => hq _ q) q) q) he q) he z)
      fun Q Q' E E' hq he z => (evP_mono a r).S _ _ E E' (fun x q => (evP_mono b r).S _ _ E E' (fun y q => cmpW_mono hC (fun k q => ite_mono (fun q => (evP_mono c r).S _ _ E E' (fun y q => cmpW_mono hC hq q) he q) (fun q => hq _ q) q) q) he q) he z
  | .ite t a b, r => by
    unfold evP
    exact moV fun Q Q' E E' hq he z => (evP_mono t r).T _ _ E E' (fun c q => ite_mono (fun q => (evP_mono a r).R _ _ E E' hq he q) (fun q => (evP_mono b r).R _ _ E E' hq he q) q) he z
  | .tup es, r => by
    unfold evP
    exact moV fun Q Q' E E' hq he z => (evAs_mono es r).R _ _ E E' (fun xs q => ⟨q.1, hq _ q.2⟩) he z
  | .lst es, r => by
    unfold evP
    exact moV fun Q Q' E E' hq he z => (evAs_mono es r).R _ _ E E' (fun xs q => ⟨q.1, hq _ q.2⟩) he z
  | .fn f es, r => by
    unfold evP
    exact moV fun Q Q' E E' hq he z => (evAs_mono es r).R _ _ E E' (fun xs q => hC f xs _ _ _ _ hq he q) he z
  | .blt f es, r => by
    unfold evP
    exact moV fun Q Q' E E' hq he z => (evAs_mono es r).S _ _ E E' (fun xs q => hB.blt C hC f xs _ _ _ _ hq he q) he z
  | .mth m o es, r => by
    unfold evP
    exact moV fun Q Q' E E' hq he z => (evP_mono o r).S _ _ E E' (fun x q => ⟨q.1, (evAs_mono es r).S _ _ E E' (fun xs q => hB.mth m x xs _ _ hq q) he q.2⟩) he z
  | .fnk f pm es ks, r => by
    unfold evP
    exact moV fun Q Q' E E' hq he z => (evAs_mono es r).R _ _ E E' (fun xs q => (evAs_mono ks r).R _ _ E E' (fun ys q => hC _ _ _ _ _ _ hq he q) he q) he z
  | .mcl m o es, r => by
    unfold evP
    exact moV fun Q Q' E E' hq he z => (evP_mono o r).R _ _ E E' (fun x q => ⟨q.1, (evAs_mono es r).R _ _ E E' (fun xs q => hC m _ _ _ _ _ hq he q) he q.2⟩) he z
  | .mck m pm o es ks, r => by
    unfold evP
    exact moV fun Q Q' E E' hq he z => (evP_mono o r).R _ _ E E' (fun x q => ⟨q.1, (evAs_mono es r).R _ _ E E' (fun xs q => (evAs_mono ks r).R _ _ E E' (fun ys q => hC m _ _ _ _ _ hq he q) he q) he q.2⟩) he z
  | .att o f, r => by
    unfold evP
    exact moV fun Q Q' E E' hq he z => (evP_mono o r).R _ _ E E' (fun x q => hC f _ _ _ _ _ hq he q) he z
  | .idx a b, r => by
    unfold evP
    exact moV fun Q Q' E E' hq he z => (evP_mono a r).S _ _ E E' (fun x q => (evP_mono b r).S _ _ E E' (fun y q => idxW_mono hq q) he q) he z
  | .slc o lo hi, r => by
    unfold evP
    exact moV fun Q Q' E E' hq he z => (evP_mono o r).S _ _ E E' (fun x q => evO_mono lo r _ _ E E' (fun l q => evO_mono hi r _ _ E E' (fun h q => slcW_mono hq q) he q) he q) he z
  | .dct kvs, r => by
    unfold evP
    exact moV fun Q Q' E E' hq he z => hq _ z
  | .rev o, r => by
    unfold evP
    exact moV fun Q Q' E E' hq he z => (evP_mono o r).S _ _ E E' (fun x q => q.elim (fun ⟨xs, e, q⟩ => .inl ⟨xs, e, hq _ q⟩) fun ⟨xs, e, q⟩ => .inr ⟨xs, e, hq _ q⟩) he z
  | .lc elt tg it cond own, r => by
    unfold evP
    exact moV fun Q Q' E E' hq he z => evI_mono it r _ _ E E' (fun items q => ⟨q.1, foldW_mono (fun x a K K' hk q => bindTg_mono tg x _ _ _ (fun r2 q => evC_mono cond r2 _ _ (fun b q => ite_mono (fun q => (evP_mono elt r2).R _ _ E0 E0 (fun y q => hk _ q) (fun _ _ z => z) q) (fun q => hk _ q) q) q) q) items [] _ _ (fun acc q => hq _ q) q.2⟩) he z
  | .fst es, r => by
    unfold evP
    exact moV fun Q Q' E E' hq he z => evF_mono es r _ _ _ E E' (fun s q => hq _ q) he z
theorem evAs_mono : ∀ (es : Exs) (r : Env), MoA (evAs B C es r)
  | .nil, r => by
    unfold evAs
    exact ⟨fun Q Q' E E' hq he z => hq _ z, fun Q Q' E E' hq he z => hq _ z⟩
  | .cons e es, r => by
    unfold evAs
    exact ⟨fun Q Q' E E' hq he z => (evP_mono e r).R _ _ E E' (fun x q => (evAs_mono es r).R _ _ E E' (fun xs q => hq _ q) he q) he z, fun Q Q' E E' hq he z => (evP_mono e r).S _ _ E E' (fun x q => (evAs_mono es r).S _ _ E E' (fun xs q => hq _ q) he q) he z⟩
  | .star e es, r => by
    unfold evAs
    exact ⟨fun Q Q' E E' hq he z => (evP_mono e r).S _ _ E E' (fun x q => enuW_mono (fun ys q => (evAs_mono es r).R _ _ E E' (fun xs q => hq _ q) he q) q) he z, fun Q Q' E E' hq he z => z⟩
theorem evF_mono : ∀ (es : Exs) (r : Env) (acc : Str) (Q Q' : Str → Prop) (E E' : XP), (∀ r, Q r → Q' r) → (∀ c ds, E c ds → E' c ds) → evF B C es r acc Q E → evF B C es r acc Q' E'
  | .nil, r, acc, Q, Q', E, E', hq, he, z => by
    unfold evF at z ⊢
    exact hq _ z
  | .cons e es, r, acc, Q, Q', E, E', hq, he, z => by
    unfold evF at z ⊢
    exact (evP_mono e r).S _ _ E E' (fun x q => fmtW_mono (fun s q => ⟨q.1, evF_mono es r _ _ _ E E' hq he q.2⟩) q) he z
  | .star e es, r, acc, Q, Q', E, E', hq, he, z => by
    unfold evF at z
    exact z.elim
theorem evO_mono : ∀ (e : Exo) (r : Env) (Q Q' : Option Int → Prop) (E E' : XP), (∀ r, Q r → Q' r) → (∀ c ds, E c ds → E' c ds) → evO B C e r Q E → evO B C e r Q' E'
  | .no, r, Q, Q', E, E', hq, he, z => by
    unfold evO at z ⊢
    exact hq _ z
  | .so e, r, Q, Q', E, E', hq, he, z => by
    unfold evO at z ⊢
    exact (evP_mono e r).S _ _ E E' (fun x ⟨i, e, q⟩ => ⟨i, e, hq _ q⟩) he z
theorem evC_mono : ∀ (e : Exo) (r : Env) (Q Q' : Bool → Prop), (∀ r, Q r → Q' r) → evC B C e r Q → evC B C e r Q'
  | .no, r, Q, Q', hq, z => by
    unfold evC at z ⊢
    exact hq _ z
  | .so e, r, Q, Q', hq, z => by
    unfold evC at z ⊢
    exact (evP_mono e r).T _ _ E0 E0 hq (fun _ _ z => z) z
theorem evI_mono : ∀ (e : Ix) (r : Env) (Q Q' : List D → Prop) (E E' : XP), (∀ r, Q r → Q' r) → (∀ c ds, E c ds → E' c ds) → evI B C e r Q E → evI B C e r Q' E'
  | .seq e, r, Q, Q', E, E', hq, he, z => by
    unfold evI at z ⊢
    exact (evP_mono e r).S _ _ E E' (fun x q => seqW_mono hq q) he z
  | .rng1 a, r, Q, Q', E, E', hq, he, z => by
    unfold evI at z ⊢
    exact (evP_mono a r).S _ _ E E' (fun x ⟨j, e, l, q⟩ => ⟨j, e, l, hq _ q⟩) he z
  | .rng2 a b, r, Q, Q', E, E', hq, he, z => by
    unfold evI at z ⊢
    exact (evP_mono a r).S _ _ E E' (fun x q => (evP_mono b r).S _ _ E E' (fun y ⟨i, j, e, f, l1, l2, l3, l4, q⟩ => ⟨i, j, e, f, l1, l2, l3, l4, hq _ q⟩) he q) he z
  | .enu e, r, Q, Q', E, E', hq, he, z => by
    unfold evI at z ⊢
    exact (evP_mono e r).S _ _ E E' (fun x q => enuW_mono (fun ys q => hq _ q) q) he z
  | .zip a b, r, Q, Q', E, E', hq, he, z => by
    unfold evI at z ⊢
    exact (evP_mono a r).S _ _ E E' (fun x q => (evP_mono b r).S _ _ E E' (fun y q => zipW_mono (fun xs ys q => hq _ q) q) he q) he z
end
end
end En
/-! En3: how data lies in the heap; readings. -/
namespace En
open PySem L2
/-- all but lists that may change, and tables, stays -/
def Stb (H H' : Hp) : Prop := ∀ b o, H b = some o → (∀ xs, o ≠ .lst xs) → (∀ ps, o ≠ .tbl ps) → H' b = some o
theorem Stb.refl (H : Hp) : Stb H H := fun _ _ h _ _ => h
theorem Stb.trans {H H1 H2 : Hp} (a : Stb H H1) (b : Stb H1 H2) : Stb H H2 := fun c o h n m => b c o (a c o h n m) n m
abbrev ExN := LamX.ExtN
theorem ExN.stb {H H' : Hp} (h : ExN H H') : Stb H H' := fun b o e _ m => h b o e m
theorem ExN.new {H : Hp} {p : Addr} {o : HO} (h : H p = none) : ExN H (upd H p o) := fun b u e _ => by
  rw [upd_ne (ne_of_none e h)]
  exact e
theorem Stb.own {H : Hp} {p : Addr} {xs ys : List V} (h : H p = some (.lst xs)) : Stb H (upd H p (.lst ys)) := fun b u e n _ => by
  have ne : b ≠ p := fun z => by
    rw [z, h] at e
    exact n xs (Option.some.inj e).symm
  rw [upd_ne ne]
  exact e
/-- nothing lies there but perhaps a table -/
def Fr (H : Hp) (p : Addr) : Prop := ∀ o, H p = some o → ∃ ps, o = HO.tbl ps
theorem Fr.of {H : Hp} {p : Addr} (h : H p = none) : Fr H p := fun o e => by
  rw [h] at e
  cases e
theorem Fr.ne {H : Hp} {p b : Addr} {o : HO} (h : Fr H p) (e : H b = some o) (m : ∀ ps, o ≠ .tbl ps) : b ≠ p := fun z => by
  subst z
  obtain ⟨ps, q⟩ := h o e
  exact m ps q
theorem Fr.back {H H' : Hp} {p : Addr} (x : ExN H H') (h : Fr H' p) : Fr H p := fun o e => by
  cases o with
  | tbl ps => exact ⟨ps, rfl⟩
  | _ => exact h _ (x _ _ e (fun _ z => nomatch z))
theorem ExN.frz {H H' : Hp} {p : Addr} {o : HO} (x : ExN H H') (h : Fr H p) : ExN H (upd H' p o) := fun b u e m => by
  rw [upd_ne (h.ne e m)]
  exact x b u e m
/-- a list that is changed no more -/
def FzH (H : Hp) (a : Addr) (xs : List V) : Prop := ∃ o, H a = some (.frz o (.lst xs))
/-- .. or one of the text's own -/
def FzL (K : PySem.W.Frag) (H : Hp) (a : Addr) (xs : List V) : Prop := FzH H a xs ∨ ∃ (its : List Value) (n : Nat), K.lookup a = some { cls := .type "list", data := .seq its.toArray n } ∧ its.length ≤ sizeLine ∧ Vals xs its
theorem FzL.sq {K : PySem.W.Frag} {H : Hp} {a : Addr} {xs : List V} (h : FzL K H a xs) : SqL K H a xs := by
  rcases h with ⟨o, e⟩ | h
  · exact .inl (.inr ⟨o, e⟩)
  · obtain ⟨its, n, hk, hz, r⟩ := h
    exact .inr ⟨_, its.toArray, n, hk, rfl, rfl, rfl, by simpa using hz, by simpa using r⟩
/-- the pail of draws: three ints -/
def PInv (w : Bool) (i j : Int) : Prop := w = false → 0 ≤ i ∧ 0 ≤ j ∧ j < 2147483648
def PailO (w : Bool) (a : Addr) : HO := .ext fun h => ∃ (i j k : Int) (t u v : Tok) (n : Nat), h.get? a = some { cls := .type "list", data := .seq #[.int i t, .int j u, .int k v] n } ∧ PInv w i j
theorem exo_lst {e C : Addr} {d : Option Addr} {xs : List V} : exo e C d ≠ .lst xs := fun z => by
  have z' : HO.ext _ = HO.lst xs := z
  cases z'
theorem exd_lst {e : Addr} {fs : List (Str × V)} {xs : List V} : exd e fs ≠ .lst xs := fun z => by
  have z' : HO.ext _ = HO.lst xs := z
  cases z'
theorem exd_tbl {e : Addr} {fs : List (Str × V)} {ps : Array Value} : exd e fs ≠ .tbl ps := fun z => by
  have z' : HO.ext _ = HO.tbl ps := z
  cases z'
mutual
inductive RD (K : PySem.W.Frag) (H : Hp) : D → V → Prop
  | non : RD K H .non .non
  | bl (b : Bool) : RD K H (.bl b) (.bl b)
  | int (i : Int) : RD K H (.int i) (.int i)
  | str (x : Str) : RD K H (.str x) (.str x)
  | tup {a : Addr} {xs : List V} {ds : List D} : SqT K H a xs → RDs K H ds xs → RD K H (.tup ds) (.ref a)
  | er0 {a : Addr} {c : Str} : H a = some (exo a (He.ga K c) none) → RD K H (.er0 c) (.ref a)
  | er1 {a dx : Addr} {c f : Str} {d : D} {y : V} : H a = some (exo a (He.ga K c) (some dx)) → H dx = some (exd dx [(f, y)]) → RD K H d y → RD K H (.er1 c f d) (.ref a)
  | ntp {a : Addr} {o : Obj} {xs : List V} {ds : List D} : H a = some (.frz o (.tup xs)) → o.dict = none → RDs K H ds xs → RD K H (.ntp ds) (.ref a)
  | lst {a : Addr} {xs : List V} {ds : List D} : FzL K H a xs → RDs K H ds xs → RD K H (.lst ds) (.ref a)
  | dic {a : Addr} {o : Obj} {kvs : List (Key × D)} {xs : List V} : H a = some (.frz o (.dK ((kvs.map (·.1)).zip xs))) → xs.length = kvs.length → RDs K H (kvs.map (·.2)) xs → RD K H (.dic kvs) (.ref a)
  | cls (x : Str) : RD K H (.cls x) (.ref (He.ga K x))
  | ty (n : Tn) : RD K H (.ty n) (.ty n.nm)
  | obj {c : Str} {a dx : Addr} {vs : List V} {ds : List D} : SlX.Slt H a (He.ga K c) dx (vs.map some) → RDs K H ds vs → RD K H (.obj c ds) (.ref a)
  | pail {w : Bool} {a : Addr} : H a = some (PailO w a) → RD K H (.pal w) (.ref a)
  | adr (a : Addr) : RD K H (.adr a) (.ref a)
  | exc {a dd : Addr} {f : Str} {d : D} {v : V} : H dd = some (.xd [(f, v)]) → RD K H d v → RD K H (.exc a dd f d) (.ref a)
inductive RDs (K : PySem.W.Frag) (H : Hp) : List D → List V → Prop
  | nil : RDs K H [] []
  | cons {d : D} {ds : List D} {v : V} {vs : List V} : RD K H d v → RDs K H ds vs → RDs K H (d :: ds) (v :: vs)
end
theorem SqT.stb {K : PySem.W.Frag} {H H' : Hp} {a : Addr} {xs : List V} (s : Stb H H') (h : SqT K H a xs) : SqT K H' a xs := by
  rcases h with (h | ⟨o, h⟩) | h
  · exact .inl (.inl (s _ _ h (fun _ z => nomatch z) (fun _ z => nomatch z)))
  · exact .inl (.inr ⟨o, s _ _ h (fun _ z => nomatch z) (fun _ z => nomatch z)⟩)
  · exact .inr h
theorem FzL.stb {K : PySem.W.Frag} {H H' : Hp} {a : Addr} {xs : List V} (s : Stb H H') (h : FzL K H a xs) : FzL K H' a xs := by
  rcases h with ⟨o, h⟩ | h
  · exact .inl ⟨o, s _ _ h (fun _ z => nomatch z) (fun _ z => nomatch z)⟩
  · exact .inr h
theorem Slt.stb {H H' : Hp} {a C dx : Addr} {vs : List (Option V)} (s : Stb H H') (h : SlX.Slt H a C dx vs) : SlX.Slt H' a C dx vs := by
  rcases h with ⟨h, e⟩ | ⟨h, e⟩
  · exact .inl ⟨s _ _ h (fun _ z => nomatch z) (fun _ z => nomatch z), e⟩
  · exact .inr ⟨s _ _ h (fun _ z => nomatch z) (fun _ z => nomatch z), s _ _ e (fun _ z => nomatch z) (fun _ z => nomatch z)⟩
section
variable {K : PySem.W.Frag} {H H' : Hp}
mutual
theorem RD.stb (s : Stb H H') : ∀ {d : D} {v : V}, RD K H d v → RD K H' d v
  | _, _, .non => .non
  | _, _, .bl b => .bl b
  | _, _, .int i => .int i
  | _, _, .str x => .str x
  | _, _, .tup h r => .tup (SqT.stb s h) (RDs.stb s r)
  | _, _, .ntp h e r => .ntp (s _ _ h (fun _ z => nomatch z) (fun _ z => nomatch z)) e (RDs.stb s r)
  | _, _, .lst h r => .lst (FzL.stb s h) (RDs.stb s r)
  | _, _, .dic h l r => .dic (s _ _ h (fun _ z => nomatch z) (fun _ z => nomatch z)) l (RDs.stb s r)
  | _, _, .cls x => .cls x
  | _, _, .ty n => .ty n
  | _, _, .obj h r => .obj (Slt.stb s h) (RDs.stb s r)
  | _, _, .pail h => .pail (s _ _ h (fun _ z => nomatch z) (fun _ z => nomatch z))
  | _, _, .er0 h => .er0 (s _ _ h (fun _ => exo_lst) (fun _ => exo_tbl))
  | _, _, .er1 h h2 r => .er1 (s _ _ h (fun _ => exo_lst) (fun _ => exo_tbl)) (s _ _ h2 (fun _ => exd_lst) (fun _ => exd_tbl)) (RD.stb s r)
  | _, _, .adr a => .adr a
  | _, _, .exc h r => .exc (s _ _ h (fun _ z => nomatch z) (fun _ z => nomatch z)) (RD.stb s r)
theorem RDs.stb (s : Stb H H') : ∀ {ds : List D} {vs : List V}, RDs K H ds vs → RDs K H' ds vs
  | _, _, .nil => .nil
  | _, _, .cons r q => .cons (RD.stb s r) (RDs.stb s q)
end
theorem RDs.length : ∀ {ds : List D} {vs : List V}, RDs K H ds vs → ds.length = vs.length
  | _, _, .nil => rfl
  | _, _, .cons _ q => congrArg (· + 1) (RDs.length q)
theorem RDs.get : ∀ {ds : List D} {vs : List V} {i : Nat} {d : D}, RDs K H ds vs → ds[i]? = some d → ∃ v, vs[i]? = some v ∧ RD K H d v
  | _, _, _, _, .nil, e => by simp at e
  | _, _, 0, _, .cons r _, e => by
    simp at e
    subst e
    exact ⟨_, rfl, r⟩
  | _, _, i + 1, d, .cons _ q, e => by
    obtain ⟨v, h1, h2⟩ := RDs.get (i := i) (d := d) q (by simpa using e)
    exact ⟨v, by simpa using h1, h2⟩
theorem RDs.getv : ∀ {ds : List D} {vs : List V} {i : Nat} {v : V}, RDs K H ds vs → vs[i]? = some v → ∃ d, ds[i]? = some d ∧ RD K H d v
  | _, _, _, _, .nil, e => by simp at e
  | _, _, 0, _, .cons r _, e => by
    simp at e
    subst e
    exact ⟨_, rfl, r⟩
  | _, _, i + 1, d, .cons _ q, e => by
    obtain ⟨v, h1, h2⟩ := RDs.getv (i := i) (v := d) q (by simpa using e)
    exact ⟨v, by simpa using h1, h2⟩
theorem RDs.append : ∀ {ds es : List D} {vs ws : List V}, RDs K H ds vs → RDs K H es ws → RDs K H (ds ++ es) (vs ++ ws)
  | _, _, _, _, .nil, s => s
  | _, _, _, _, .cons r q, s => .cons r (RDs.append q s)
theorem RDs.drop : ∀ {ds : List D} {vs : List V} (n : Nat), RDs K H ds vs → RDs K H (ds.drop n) (vs.drop n)
  | _, _, 0, r => r
  | _, _, _ + 1, .nil => .nil
  | _, _, n + 1, .cons _ q => RDs.drop n q
theorem RDs.take : ∀ {ds : List D} {vs : List V} (n : Nat), RDs K H ds vs → RDs K H (ds.take n) (vs.take n)
  | _, _, 0, _ => .nil
  | _, _, _ + 1, .nil => .nil
  | _, _, n + 1, .cons r q => .cons r (RDs.take n q)
theorem RDs.set {d : D} {v : V} (r : RD K H d v) : ∀ {ds : List D} {vs : List V} (i : Nat), RDs K H ds vs → RDs K H (ds.set i d) (vs.set i v)
  | _, _, _, .nil => .nil
  | _, _, 0, .cons _ t => .cons r t
  | _, _, i + 1, .cons q t => .cons q (RDs.set r i t)
theorem RDs.one {d : D} {v : V} (h : RD K H d v) : RDs K H [d] [v] := .cons h .nil
theorem RDs.reverse {ds : List D} {vs : List V} (h : RDs K H ds vs) : RDs K H ds.reverse vs.reverse := by
  induction ds generalizing vs with
  | nil => cases h; exact .nil
  | cons d ds ih =>
    cases h with
    | cons r q =>
      rw [List.reverse_cons, List.reverse_cons]
      exact (ih q).append (.one r)
end
/-- a datum that is only read: also a list that may change -/
def RB (K : PySem.W.Frag) (H : Hp) (d : D) (v : V) : Prop := RD K H d v ∨ ∃ xs p us, d = .lst xs ∧ v = .ref p ∧ H p = some (.lst us) ∧ RDs K H xs us
theorem RB.ext {K : PySem.W.Frag} {H H' : Hp} {d : D} {v : V} (x : ExN H H') (h : RB K H d v) : RB K H' d v := by
  rcases h with h | ⟨xs, p, us, e1, e2, e3, r⟩
  · exact .inl (h.stb (ExN.stb x))
  · exact .inr ⟨xs, p, us, e1, e2, x _ _ e3 (fun _ z => nomatch z), r.stb (ExN.stb x)⟩
theorem RB.lst {K : PySem.W.Frag} {H : Hp} {xs : List D} {v : V} (h : RB K H (.lst xs) v) : ∃ p us, v = .ref p ∧ SqL K H p us ∧ RDs K H xs us := by
  rcases h with h | ⟨xs', p, us, e1, e2, e3, r⟩
  · cases h with
    | lst h r => exact ⟨_, _, rfl, h.sq, r⟩
  · cases e1
    exact ⟨p, us, e2, .inl (.inl e3), r⟩
theorem RB.rd {K : PySem.W.Frag} {H : Hp} {d : D} {v : V} (h : RB K H d v) (n : ∀ xs, d ≠ .lst xs) : RD K H d v := by
  rcases h with h | ⟨xs', p, us, e1, _⟩
  · exact h
  · exact absurd e1 (n _)
/-- behind an expression -/
def RR (K : PySem.W.Frag) (H H' : Hp) : Rv → V → Prop
  | .v d, v => RD K H' d v
  | .fr xs, v => ∃ p us, v = .ref p ∧ Fr H p ∧ H' p = some (.lst us) ∧ RDs K H' xs us
theorem RR.back {K : PySem.W.Frag} {H H1 H' : Hp} {x : Rv} {v : V} (e : ExN H H1) (h : RR K H1 H' x v) : RR K H H' x v := by
  cases x with
  | v d => exact h
  | fr xs =>
    obtain ⟨p, us, e1, e2, e3, e4⟩ := h
    exact ⟨p, us, e1, e2.back e, e3, e4⟩
def RSl (K : PySem.W.Frag) (H : Hp) : Slot → V → Prop
  | .val d, v => RD K H d v
  | .own xs t, v => ∃ p us, v = .ref p ∧ H p = some (.lst us) ∧ RDs K H xs us ∧ ∀ a, t = some a → p = a
structure RE (K : PySem.W.Frag) (H : Hp) (r : Env) (σ : St) : Prop where
  at_ : ∀ (i : Nat) (s : Slot), r[i]? = some (some s) → ∃ v, σ[i]? = some (some v) ∧ RSl K H s v
  inj : ∀ (i j : Nat) (xs ys : List D) (t u : Option Addr) (v : V), r[i]? = some (some (.own xs t)) → r[j]? = some (some (.own ys u)) → σ[i]? = some (some v) → σ[j]? = some (some v) → i = j
  len : r.length = σ.length
theorem RSl.ext {K : PySem.W.Frag} {H H' : Hp} {s : Slot} {v : V} (x : ExN H H') (h : RSl K H s v) : RSl K H' s v := by
  cases s with
  | val d => exact RD.stb (ExN.stb x) h
  | own xs t =>
    obtain ⟨p, us, e1, e2, r, ta⟩ := h
    exact ⟨p, us, e1, x _ _ e2 (fun _ z => nomatch z), r.stb (ExN.stb x), ta⟩
theorem RE.ext {K : PySem.W.Frag} {H H' : Hp} {r : Env} {σ : St} (x : ExN H H') (h : RE K H r σ) : RE K H' r σ :=
  ⟨fun i s e => by
    obtain ⟨v, e1, q⟩ := h.at_ i s e
    exact ⟨v, e1, q.ext x⟩, h.inj, h.len⟩
def RX (K : PySem.W.Frag) (fl : Str → List Str) (H : Hp) (c : Str) (ds : List D) (cls : Value) (d : Option Addr) : Prop :=
  cls = .ref (He.ga K c) ∧ (match fl c with
    | [] => d = none ∧ ds = []
    | fs => ∃ dx vs, d = some dx ∧ H dx = some (.xd (fs.zip vs)) ∧ vs.length = fs.length ∧ RDs K H ds vs)
/-- what the engine is told of a program -/
structure Cfg where
  K : PySem.W.Frag
  B : Lib
  T : List (Addr × Str)
  fl : Str → List Str
section
variable (G : Cfg) (C : Call) (W : WX)
abbrev Tb (H : Hp) : Prop := LamX.Tabs G.T H
/-- the wish about errors, told of data -/
def exq (σ : St) (H : Hp) : XP := fun c ds => ∀ cls d H', RX G.K G.fl H' c ds cls d → ExN H H' → Tb G H' → W cls d σ H'
def rdR (e : Ex) : TE := fun σ H Q => ∃ r, RE G.K H r σ ∧ Tb G H ∧ evR G.B C e r (fun x => ∀ v H', RR G.K H H' x v → ExN H H' → Tb G H' → Q v H') (exq G W σ H)
def rdV (e : Ex) : TE := fun σ H Q => ∃ r, RE G.K H r σ ∧ Tb G H ∧ evR G.B C e r (fun x => ∀ v H', RD G.K H' x.d v → ExN H H' → Tb G H' → Q v H') (exq G W σ H)
def rdS (e : Ex) : TE := fun σ H Q => ∃ r, RE G.K H r σ ∧ Tb G H ∧ evS G.B C e r (fun d => ∀ v H', RB G.K H' d v → ExN H H' → Tb G H' → Q v H') (exq G W σ H)
def rdT (e : Ex) : TT := fun σ H Q => ∃ r, RE G.K H r σ ∧ Tb G H ∧ evT G.B C e r (fun b => ∀ H', ExN H H' → Tb G H' → Q b H') (exq G W σ H)
def rdA (es : Exs) : TA := fun σ H Q => ∃ r, RE G.K H r σ ∧ Tb G H ∧ (evAs G.B C es r).R (fun xs => ∀ vs H', RDs G.K H' xs vs → ExN H H' → Tb G H' → Q vs H') (exq G W σ H)
def RBs (K : PySem.W.Frag) (H : Hp) (ds : List D) (vs : List V) : Prop := Paired (RB K H) ds vs
def rdAS (es : Exs) : TA := fun σ H Q => ∃ r, RE G.K H r σ ∧ Tb G H ∧ (evAs G.B C es r).S (fun xs => ∀ vs H', RBs G.K H' xs vs → ExN H H' → Tb G H' → Q vs H') (exq G W σ H)
end
theorem exq.ext {G : Cfg} {W : WX} {σ : St} {H H' : Hp} (x : ExN H H') (c : Str) (ds : List D) (h : exq G W σ H c ds) : exq G W σ H' c ds :=
  fun cls d H2 r x2 t => h cls d H2 r (x.trans x2) t
theorem RBs.ext {K : PySem.W.Frag} {H H' : Hp} (x : ExN H H') : ∀ {ds : List D} {vs : List V}, RBs K H ds vs → RBs K H' ds vs
  | _, _, .nil => .nil
  | _, _, .cons r q => .cons (r.ext x) (RBs.ext x q)
/-! ### weaker readings -/
section
variable {X : Cx}
theorem PE.imp {e : Expr} {t t' : TE} (h : PE X e t) (w : ∀ σ H Q, t' σ H Q → t σ H Q) : PE X e t' := ⟨fun pins s σ H Q I q => h.run pins s σ H Q I (w σ H Q q)⟩
theorem PT.imp {e : Expr} {t t' : TT} (h : PT X e t) (w : ∀ σ H Q, t' σ H Q → t σ H Q) : PT X e t' := ⟨fun pins s σ H Q I q => h.run pins s σ H Q I (w σ H Q q)⟩
theorem PW.imp {e : Expr} {t t' : TT} (h : PW X e t) (w : ∀ σ H Q, t' σ H Q → t σ H Q) : PW X e t' := ⟨fun wh pins s σ H Q I q => h.run wh pins s σ H Q I (w σ H Q q)⟩
theorem PA.imp {e : List Expr} {t t' : TA} (h : PA X e t) (w : ∀ σ H Q, t' σ H Q → t σ H Q) : PA X e t' := ⟨fun pos pins s σ H Q I q => h.run pos pins s σ H Q I (w σ H Q q)⟩
theorem PS.imp {e : Stmt} {t t' : TS} (h : PS X e t) (w : ∀ D σ H, t' D σ H → t D σ H) : PS X e t' := ⟨fun pins s σ H D I q => h.run pins s σ H D I (w D σ H q)⟩
theorem PSs.imp {e : List Stmt} {t t' : TS} (h : PSs X e t) (w : ∀ D σ H, t' D σ H → t D σ H) : PSs X e t' := ⟨fun pins s σ H D I q => h.run pins s σ H D I (w D σ H q)⟩
/-! ### a list is frozen -/
theorem Inv.freeze {pins : List (Addr × Obj)} {σ : St} {H : Hp} {s : Shared} {p : Addr} {xs : List V} (I : Inv X pins σ H s) (h : H p = some (.lst xs)) : ∃ o, Inv X pins σ (upd H p (.frz o (.lst xs))) s := by
  have ok := I.hok p _ h
  obtain ⟨z, its, n, r, e⟩ := id ok
  refine ⟨_, I.un (h' := s.heap) (t' := s.toks) (H' := upd H p (.frz { cls := .type "list", data := .seq its.toArray n } (.lst xs))) ⟨fun b o q _ _ _ => q, fun b o q _ _ _ => ⟨o.slots, q⟩, fun b o _ n _ => ?_, fun b o q _ => ⟨o, q⟩, fun b ys q => ?_, fun b o u q => ?_, fun b ps q => ⟨#[], ?_⟩⟩ fun b u q => ?_⟩
  · rw [upd_ne (ne_of_none h n).symm]
    exact n
  · rw [upd_ne (ne_of q h (fun z => nomatch z))]
    exact q
  · rw [upd_ne (ne_of q h (fun z => nomatch z))]
    exact q
  · rw [upd_ne (ne_of q h (fun z => nomatch z)), q]
    simp
  · by_cases hb : b = p
    · subst hb
      rw [upd_same] at q
      cases q
      exact ⟨e, z, its, n, r, e⟩
    · rw [upd_ne hb] at q
      refine (I.hok b u q).stay (fun c v _ e => e) (fun c q => ?_) fun c ys q => ?_
      · rw [upd_ne (ne_of q h (fun z => nomatch z))]
        exact q
      · rw [upd_ne (ne_of q h (fun z => nomatch z))]
        exact q
theorem Tabs.frz {T : List (Addr × Str)} {H : Hp} {p : Addr} {xs : List V} {o : Obj} (t : LamX.Tabs T H) (h : H p = some (.lst xs)) : LamX.Tabs T (upd H p (.frz o (.lst xs))) := fun q hq => by
  obtain ⟨ps, h1, h2, h3⟩ := t q hq
  refine ⟨ps, ?_, h2, fun pos cv hc => ?_⟩
  · rw [upd_ne (ne_of h1 h (fun z => nomatch z))]
    exact h1
  · obtain ⟨c, e1, e2⟩ := h3 pos cv hc
    refine ⟨c, e1, ?_⟩
    rw [upd_ne (ne_of e2 h (fun z => nomatch z))]
    exact e2
theorem Tabs.new {T : List (Addr × Str)} {H : Hp} {p : Addr} {o : HO} (t : LamX.Tabs T H) (h : H p = none) : LamX.Tabs T (upd H p o) := t.ext fun b u e => by
  rw [upd_ne (ne_of_none e h)]
  exact e
theorem RDs.frz {K : PySem.W.Frag} {H : Hp} {p : Addr} {us : List V} {o : Obj} (h : H p = some (.lst us)) {ds : List D} {vs : List V} (r : RDs K H ds vs) : RDs K (upd H p (.frz o (.lst us))) ds vs :=
  r.stb fun b u e n _ => by
    rw [upd_ne (fun z => n us (by rw [z, h] at e; exact (Option.some.inj e).symm))]
    exact e
theorem pe_frz {G : Cfg} {C : Call} {W : WX} {e : Expr} {i : Ex} (hB : G.B.Mono) (hC : MonoC C) (h : PE X e (rdR G C W i)) : PE X e (rdV G C W i) := by
  refine ⟨fun pins s σ H Q I q => ?_⟩
  obtain ⟨r, re, tb, q⟩ := q
  refine thn (h.run pins s σ H (fun v H1 => Tb G H1 ∧ ((∀ H2, H2 = H1 → Q v H2) ∨ ∃ p us, H1 p = some (.lst us) ∧ ∀ o, Q v (upd H1 p (.frz o (.lst us))))) I ⟨r, re, tb, (evP_mono hB hC i r).R _ _ _ _ (fun x z v H' rr x2 t => ?_) (fun _ _ z => z) q⟩) fun u s1 ⟨v, H1, I1, rv, tb1, z⟩ => ?_
  · refine ⟨t, ?_⟩
    cases x with
    | v d => exact .inl fun H2 e => by rw [e]; exact z v H' rr x2 t
    | fr xs =>
      obtain ⟨p, us, e1, e2, e3, e4⟩ := rr
      refine .inr ⟨p, us, e3, fun o => ?_⟩
      refine z v _ ?_ (ExN.frz x2 e2) (Tabs.frz t e3)
      rw [e1]
      exact .lst (.inl ⟨o, upd_same⟩) (RDs.frz e3 e4)
  · rcases z with z | ⟨p, us, e, z⟩
    · exact ⟨v, H1, I1, rv, z H1 rfl⟩
    · obtain ⟨o, I2⟩ := Inv.freeze I1 e
      exact ⟨v, _, I2, rv, z o⟩
/-- from the value as it comes to the value that is only read -/
theorem rdS_of {G : Cfg} {C : Call} {W : WX} {e : Expr} {i : Ex} (hB : G.B.Mono) (hC : MonoC C) (hn : ∀ k, i ≠ .var k) (h : PE X e (rdV G C W i)) : PE X e (rdS G C W i) := by
  refine PE.imp h fun σ H Q q => ?_
  obtain ⟨r, re, tb, q⟩ := q
  refine ⟨r, re, tb, ?_⟩
  have e : evS G.B C i r (fun d => ∀ v H', RB G.K H' d v → ExN H H' → Tb G H' → Q v H') (exq G W σ H) → evR G.B C i r (fun x => ∀ v H', RB G.K H' x.d v → ExN H H' → Tb G H' → Q v H') (exq G W σ H) := by
    intro z
    cases i <;> first
      | exact z
      | exact absurd rfl (hn _)
  exact (evP_mono hB hC i r).R _ _ _ _ (fun x z v H' rd => z v H' (.inl rd)) (fun _ _ z => z) (e q)
end
end En
namespace En
open PySem L2 PyProof.Rows TL
/-! Xm1: t * 1 of a tuple; t == () of any tuple; a dict that stays as it is. -/
open PySem.Spec
theorem tuple_mul1 (l : Addr) (items : Array Value) (n : Nat) (dd : Option Addr) (sl : Array (Option Value)) (u : Tok) :
    Meets (Builtin.«tuple.__mul__» ⟨[.ref l, .int 1 u], []⟩) (fun _ R s => s.heap.get? l = some { cls := .type "tuple", dict := dd, data := .seq items n, slots := sl } ∧ R (.ok (.ret (Value.ref l))) s) :=
  .of_wp fun prog w A R s h => by
    obtain ⟨hp, g, d, tk, os⟩ := s
    obtain ⟨hl, h⟩ := h
    have f1 := AutoSeq1.idx_int
    wp_walk using wpAny_loadPart' hl
    exact ⟨_, rfl, h⟩
theorem tuple_mul0 (l : Addr) (items : Array Value) (n : Nat) (dd : Option Addr) (sl : Array (Option Value)) (u : Tok) (c1 : (items.isEmpty || (0 : Int) == 1) = false) :
    Meets (Builtin.«tuple.__mul__» ⟨[.ref l, .int 0 u], []⟩) (fun _ R s => s.heap.get? l = some { cls := .type "tuple", dict := dd, data := .seq items n, slots := sl } ∧ R (.ok (.ret (Value.ref s.heap.objs.size))) { s with heap := s.heap.push { cls := Value.type "tuple", data := Data.seq #[] }, toks := s.toks }) :=
  .of_wp fun prog w A R s h => by
    obtain ⟨hp, g, d, tk, os⟩ := s
    obtain ⟨hl, h⟩ := h
    have f1 := AutoSeq1.idx_int
    wp_walk using wpAny_loadPart' hl
    refine wpAny_ite_false (decide_eq_false (by rw [c1]; exact Bool.false_ne_true)) ?_
    wp_walk using wpAny_loadPart' hl
    exact ⟨_, rfl, h⟩
theorem tuple_eq0 (l b : Addr) (items : Array Value) (n n2 : Nat) (dd dd2 : Option Addr) (sl sl2 : Array (Option Value)) :
    Meets (Builtin.«tuple.__eq__» ⟨[.ref l, .ref b], []⟩) (fun _ R s => s.heap.get? l = some { cls := .type "tuple", dict := dd, data := .seq items n, slots := sl } ∧ s.heap.get? b = some { cls := .type "tuple", dict := dd2, data := .seq #[] n2, slots := sl2 } ∧ R (.ok (.ret (Value.bool (items.size == 0)))) s) :=
  .of_wp fun prog w A R s h => by
    obtain ⟨hp, g, d, tk, os⟩ := s
    obtain ⟨hl, hb, h⟩ := h
    wp_walk using wpAny_loadPart' hl
    refine wpAny_of_eq (a := true) isSubtype_tuple_tuple ?_
    rw [if_neg (by decide)]
    refine wpAny_bind (tupleItemsOf_ ⟨_, hl, rfl, n, rfl⟩ (wpAny_bind (tupleItemsOf_ ⟨_, hb, rfl, n2, rfl⟩ ?_)))
    have ez : items.toList.zip (#[] : Array Value).toList = [] := by simp
    rw [ez]
    simp only [List.forIn_nil]
    refine wpAny_bind (wpAny_pure ?_)
    have e : Builtin.Tuple.tupleCompareSizes CmpOp.Eq items.size (#[] : Array Value).size = .bool (items.size == 0) := by
      unfold Builtin.Tuple.tupleCompareSizes
      rfl
    show wpAny _ _ (ret (Builtin.Tuple.tupleCompareSizes CmpOp.Eq items.size (#[] : Array Value).size)) _ _ _
    rw [e]
    exact wpAny_pure ⟨_, rfl, h⟩
theorem tuple_ne0 (l b : Addr) (items : Array Value) (n n2 : Nat) (dd dd2 : Option Addr) (sl sl2 : Array (Option Value)) :
    Meets (Builtin.«tuple.__ne__» ⟨[.ref l, .ref b], []⟩) (fun _ R s => s.heap.get? l = some { cls := .type "tuple", dict := dd, data := .seq items n, slots := sl } ∧ s.heap.get? b = some { cls := .type "tuple", dict := dd2, data := .seq #[] n2, slots := sl2 } ∧ R (.ok (.ret (Value.bool (items.size != 0)))) s) :=
  .of_wp fun prog w A R s h => by
    obtain ⟨hp, g, d, tk, os⟩ := s
    obtain ⟨hl, hb, h⟩ := h
    wp_walk using wpAny_loadPart' hl
    refine wpAny_of_eq (a := true) isSubtype_tuple_tuple ?_
    rw [if_neg (by decide)]
    refine wpAny_bind (tupleItemsOf_ ⟨_, hl, rfl, n, rfl⟩ (wpAny_bind (tupleItemsOf_ ⟨_, hb, rfl, n2, rfl⟩ ?_)))
    have ez : items.toList.zip (#[] : Array Value).toList = [] := by simp
    rw [ez]
    simp only [List.forIn_nil]
    refine wpAny_bind (wpAny_pure ?_)
    have e : Builtin.Tuple.tupleCompareSizes CmpOp.NotEq items.size (#[] : Array Value).size = .bool (items.size != 0) := by
      unfold Builtin.Tuple.tupleCompareSizes
      rfl
    show wpAny _ _ (ret (Builtin.Tuple.tupleCompareSizes CmpOp.NotEq items.size (#[] : Array Value).size)) _ _ _
    rw [e]
    exact wpAny_pure ⟨_, rfl, h⟩
section
variable {X : Cx}
theorem op_rep1 : OpR X (binaryOp .Mult) (fun x y H Q => ∃ l xs, x = .ref l ∧ y = .int 1 ∧ SqT X.K H l xs ∧ Q (.ref l) H) := by
  intro pins s σ H x y v u Q I rx ry h
  obtain ⟨l, xs, rfl, rfl, hT, q⟩ := h
  cases rx
  obtain ⟨t, rfl⟩ := ry
  obtain ⟨its, r, ⟨⟨cls, dd, data, sl⟩, ho, hc, n, hd⟩, hs⟩ := I.tuple hT
  simp only at hc hd
  subst hc hd
  refine wpAny_binaryOp_repeat_ref (T := "tuple") (U := "int") (by decide) ⟨_, ho, rfl⟩ (fun s' => typeIs_int s' 1 t) noFill_tuple_mul F.fills_int_mul F.slot_int_rmul repeat_tuple F.slot_int_index.lookup
    (call_meets F.slot_int_rmul (typeIs_int s 1 t) F.entry_int_rmul (F.args_int_rmul_2 _ _) (int_rmul_tuple 1 t l its.toArray n dd sl)
      ⟨ho, rfl, ⟨_, ho, rfl⟩, call_meets F.slot_tuple_mul ⟨_, ho, rfl⟩ F.entry_tuple_mul (F.args_tuple_mul_2 _ _) (tuple_mul1 l its.toArray n dd sl t) ⟨ho, ⟨.ref l, H, I, rfl, q⟩⟩⟩)
theorem op_rep0 : OpR X (binaryOp .Mult) (fun x y H Q => ∃ l xs, x = .ref l ∧ y = .int 0 ∧ SqT X.K H l xs ∧ xs ≠ [] ∧ ∀ p, H p = none → Q (.ref p) (upd H p (.tup []))) := by
  intro pins s σ H x y v u Q I rx ry h
  obtain ⟨l, xs, rfl, rfl, hT, hne, q⟩ := h
  cases rx
  obtain ⟨t, rfl⟩ := ry
  obtain ⟨its, r, ⟨⟨cls, dd, data, sl⟩, ho, hc, n, hd⟩, hs⟩ := I.tuple hT
  simp only at hc hd
  subst hc hd
  have hle : its.length = xs.length := r.length.symm
  have hi : (its.toArray.isEmpty || (0 : Int) == 1) = false := by
    cases its with
    | nil => exact absurd (List.eq_nil_of_length_eq_zero hle.symm) hne
    | cons a b => rfl
  have I2 := I.laid (t' := s.toks) (o := .tup []) (h' := s.heap.push { cls := Value.type "tuple", data := Data.seq #[] }) (a := s.heap.objs.size) (fun b u e => Heap.get?_push_of_some _ e) (Nat.le_refl _) ⟨Nat.zero_le _, [], .nil, IsTup.new _ _⟩
  refine wpAny_binaryOp_repeat_ref (T := "tuple") (U := "int") (by decide) ⟨_, ho, rfl⟩ (fun s' => typeIs_int s' 0 t) noFill_tuple_mul F.fills_int_mul F.slot_int_rmul repeat_tuple F.slot_int_index.lookup
    (call_meets F.slot_int_rmul (typeIs_int s 0 t) F.entry_int_rmul (F.args_int_rmul_2 _ _) (int_rmul_tuple 0 t l its.toArray n dd sl)
      ⟨ho, rfl, ⟨_, ho, rfl⟩, call_meets F.slot_tuple_mul ⟨_, ho, rfl⟩ F.entry_tuple_mul (F.args_tuple_mul_2 _ _) (tuple_mul0 l its.toArray n dd sl t hi) ⟨ho, ⟨.ref s.heap.objs.size, _, I2, rfl, q _ (I.hok.fresh (Nat.le_refl _))⟩⟩⟩)
theorem op_eq0 (hu : X.A.units < cLine) : OpR X (compareOp .Eq) (fun x y H Q => ∃ l b xs, x = .ref l ∧ y = .ref b ∧ SqT X.K H l xs ∧ SqT X.K H b [] ∧ Q (.bl xs.isEmpty) H) := by
  intro pins s σ H x y v u Q I rx ry h
  obtain ⟨l, b, xs, rfl, rfl, hT, hB, q⟩ := h
  cases rx
  cases ry
  obtain ⟨its, r, ⟨⟨cls, dd, data, sl⟩, ho, hc, n, hd⟩, hs⟩ := I.tuple hT
  simp only at hc hd
  subst hc hd
  obtain ⟨its2, r2, ⟨⟨cls2, dd2, data2, sl2⟩, ho2, hc2, n2, hd2⟩, hs2⟩ := I.tuple hB
  simp only at hc2 hd2
  subst hc2 hd2
  cases r2
  refine richCompare_meets_room (op := .Eq) ⟨_, ho, rfl⟩ ⟨_, ho2, rfl⟩ F.slot_tuple_eq F.entry_tuple_eq (F.args_tuple_eq_2 _ _) (tuple_eq0 l b its.toArray n n2 dd dd2 sl sl2) ⟨ho, ho2, (fun z => nomatch z), ?_⟩ hu
  have e : (its.toArray.size == 0) = xs.isEmpty := by
    have hl := r.length
    rw [List.size_toArray, ← hl]
    cases xs <;> rfl
  rw [e]
  exact ⟨.bl xs.isEmpty, H, I, rfl, q⟩
theorem op_ne0 (hu : X.A.units < cLine) : OpR X (compareOp .NotEq) (fun x y H Q => ∃ l b xs, x = .ref l ∧ y = .ref b ∧ SqT X.K H l xs ∧ SqT X.K H b [] ∧ Q (.bl (!xs.isEmpty)) H) := by
  intro pins s σ H x y v u Q I rx ry h
  obtain ⟨l, b, xs, rfl, rfl, hT, hB, q⟩ := h
  cases rx
  cases ry
  obtain ⟨its, r, ⟨⟨cls, dd, data, sl⟩, ho, hc, n, hd⟩, hs⟩ := I.tuple hT
  simp only at hc hd
  subst hc hd
  obtain ⟨its2, r2, ⟨⟨cls2, dd2, data2, sl2⟩, ho2, hc2, n2, hd2⟩, hs2⟩ := I.tuple hB
  simp only at hc2 hd2
  subst hc2 hd2
  cases r2
  refine richCompare_meets_room (op := .NotEq) ⟨_, ho, rfl⟩ ⟨_, ho2, rfl⟩ F.slot_tuple_ne F.entry_tuple_ne (F.args_tuple_ne_2 _ _) (tuple_ne0 l b its.toArray n n2 dd dd2 sl sl2) ⟨ho, ho2, (fun z => nomatch z), ?_⟩ hu
  have e : (its.toArray.size != 0) = !xs.isEmpty := by
    have hl := r.length
    rw [List.size_toArray, ← hl]
    cases xs <;> rfl
  rw [e]
  exact ⟨.bl (!xs.isEmpty), H, I, rfl, q⟩
theorem plain_isl {h : Heap} {a : Addr} {its : Array Value} (z : PlainL h a its) : h.IsList a its := by
  obtain ⟨o, n, e1, e2, _, e3⟩ := z
  exact ⟨o, e1, e2, n, e3⟩
theorem op_eqL0 (hu : X.A.units < cLine) : OpR X (compareOp .Eq) (fun x y H Q => ∃ l b xs, x = .ref l ∧ y = .ref b ∧ SqL X.K H l xs ∧ SqL X.K H b [] ∧ Q (.bl xs.isEmpty) H) := by
  intro pins s σ H x y v u Q I rx ry h
  obtain ⟨l, b, xs, rfl, rfl, hT, hB, q⟩ := h
  cases rx
  cases ry
  obtain ⟨its, r, hl, _⟩ := I.list hT
  obtain ⟨its2, r2, hl2, _⟩ := I.list hB
  cases r2
  have e : (its.toArray.size == 0) = xs.isEmpty := by
    have hl := r.length
    rw [List.size_toArray, ← hl]
    cases xs <;> rfl
  by_cases h0 : its.toArray.size = 0
  · have e2 : xs.isEmpty = true := by rw [← e, h0]; rfl
    rw [e2] at q
    refine PySem.SeqAt.RcAt.lists (e := fun _ => true) (plain_isl hl) (plain_isl hl2) (by rw [h0]; rfl) hu (fun j h1 h2 => absurd h1 (by omega)) _ _ _ _ ?_
    have e3 : (List.range its.toArray.size).all (fun _ => true) = true := by simp
    rw [e3]
    exact ⟨.bl true, H, I, rfl, q⟩
  · have e2 : xs.isEmpty = false := by rw [← e]; simpa using h0
    rw [e2] at q
    refine PySem.SeqAt.RcAt.lists_lengths (plain_isl hl) (plain_isl hl2) (by simpa using h0) hu _ _ _ _ ?_
    exact ⟨.bl false, H, I, rfl, q⟩
theorem op_neL0 (hu : X.A.units < cLine) : OpR X (compareOp .NotEq) (fun x y H Q => ∃ l b xs, x = .ref l ∧ y = .ref b ∧ SqL X.K H l xs ∧ SqL X.K H b [] ∧ Q (.bl (!xs.isEmpty)) H) := by
  intro pins s σ H x y v u Q I rx ry h
  obtain ⟨l, b, xs, rfl, rfl, hT, hB, q⟩ := h
  cases rx
  cases ry
  obtain ⟨its, r, hl, _⟩ := I.list hT
  obtain ⟨its2, r2, hl2, _⟩ := I.list hB
  cases r2
  have e : (its.toArray.size == 0) = xs.isEmpty := by
    have hl := r.length
    rw [List.size_toArray, ← hl]
    cases xs <;> rfl
  by_cases h0 : its.toArray.size = 0
  · have e2 : xs.isEmpty = true := by rw [← e, h0]; rfl
    rw [e2] at q
    refine PySem.SeqAt.RcNeAt.lists (e := fun _ => true) (plain_isl hl) (plain_isl hl2) (by rw [h0]; rfl) hu (fun j h1 h2 => absurd h1 (by omega)) _ _ _ _ ?_
    have e3 : (!(List.range its.toArray.size).all (fun _ => true)) = false := by simp
    rw [e3]
    exact ⟨.bl false, H, I, rfl, q⟩
  · have e2 : xs.isEmpty = false := by rw [← e]; simpa using h0
    rw [e2] at q
    refine PySem.SeqAt.RcNeAt.lists_lengths (plain_isl hl) (plain_isl hl2) (by simpa using h0) hu _ _ _ _ ?_
    exact ⟨.bl true, H, I, rfl, q⟩
end
/-! ### a dict that stays as it is -/
section
variable {X : Cx}
theorem upd2 {H : Hp} {p : Addr} {o u : HO} : upd (upd H p o) p u = upd H p u := by
  funext b
  by_cases e : b = p
  · rw [e, upd_same, upd_same]
  · rw [upd_ne e, upd_ne e, upd_ne e]
theorem pe_dct0 {pos : Pos} : PE X (.Dict [] [] pos) (fun _ H Q => ∀ p o, H p = none → Q (.ref p) (upd H p (.frz o (.dK [])))) := ⟨fun pins s σ H Q I h =>
  wpAny_Dict_empty ⟨.ref s.heap.objs.size, _, I.laid (a := s.heap.objs.size) (o := .frz { cls := .type "dict", data := .dict #[] } (.dK [])) (t' := s.toks) (fun _ _ q => Heap.get?_push_of_some _ q) (Nat.le_refl _) ⟨Heap.get?_push_size _ rfl, dk_empty s.heap I.big⟩, rfl, h _ _ (I.hok.fresh (Nat.le_refl _))⟩⟩
theorem Inv.freezeK {pins : List (Addr × Obj)} {σ : L2.St} {H : Hp} {s : Shared} {p : Addr} {kvs : List (Key × V)} (I : Inv X pins σ H s) (h : H p = some (.dK kvs)) : ∃ o, Inv X pins σ (upd H p (.frz o (.dK kvs))) s := by
  have ok := I.hok p _ h
  obtain ⟨z, hm, vs, kv, o, es, ep, e, rest⟩ := id ok
  refine ⟨o, I.un (h' := s.heap) (t' := s.toks) (H' := upd H p (.frz o (.dK kvs))) ⟨fun b o q _ _ _ => q, fun b o q _ _ _ => ⟨o.slots, q⟩, fun b o _ n _ => ?_, fun b o q _ => ⟨o, q⟩, fun b ys q => ?_, fun b o u q => ?_, fun b ps q => ⟨#[], ?_⟩⟩ fun b u q => ?_⟩
  · rw [upd_ne (ne_of_none h n).symm]
    exact n
  · rw [upd_ne (ne_of q h (fun z => nomatch z))]
    exact q
  · rw [upd_ne (ne_of q h (fun z => nomatch z))]
    exact q
  · rw [upd_ne (ne_of q h (fun z => nomatch z)), q]
    simp
  · by_cases hb : b = p
    · subst hb
      rw [upd_same] at q
      cases q
      exact ⟨e, z, hm, vs, kv, o, es, ep, e, rest⟩
    · rw [upd_ne hb] at q
      refine (I.hok b u q).stay (fun c v _ e => e) (fun c q => ?_) fun c ys q => ?_
      · rw [upd_ne (ne_of q h (fun z => nomatch z))]
        exact q
      · rw [upd_ne (ne_of q h (fun z => nomatch z))]
        exact q
theorem pe_dct1 {k : Str} {j : Nat} {p1 pos : Pos} {v : Expr} {y : V} (hv : PE X v (tC y)) : PE X (.Dict [some (.Constant (.str k) j p1)] [v] pos) (fun _ H Q => ∀ p o, H p = none → Q (.ref p) (upd H p (.frz o (.dK [(.inr k, y)])))) := by
  refine ⟨fun pins s σ H Q I h => ?_⟩
  refine thn ((pe_disp (pps_cons (pe_str (x := k) (j := j) (pos := p1)) hv pps_nil) rfl rfl (by simp) (by simp)).run pins s σ H (fun w H1 => ∃ p, w = .ref p ∧ H p = none ∧ H1 = upd H p (.dK [(.inr k, y)])) I fun p hp => ?_) fun u s1 ⟨w, H1, I1, rw1, p, e1, e2, e3⟩ => ?_
  · refine ⟨upd_same, [(.inr k, y)], rfl, by simp, p, rfl, hp, ?_⟩
    rw [upd2]
    rfl
  · subst e1 e3
    obtain ⟨o, I2⟩ := Inv.freezeK I1 (upd_same (H := H) (a := p))
    rw [upd2] at I2
    exact ⟨_, _, I2, rw1, h p o e2⟩
end
theorem RDs.rep {K : PySem.W.Frag} {H : Hp} {ds : List D} {vs : List V} (h : RDs K H ds vs) : ∀ n : Nat, RDs K H (List.replicate n ds).flatten (List.replicate n vs).flatten
  | 0 => .nil
  | n + 1 => by
    rw [List.replicate_succ, List.replicate_succ, List.flatten_cons, List.flatten_cons]
    exact h.append (RDs.rep h n)
theorem RDs.emp {K : PySem.W.Frag} {H : Hp} {d : List D} {v : List V} (h : RDs K H d v) : v.isEmpty = d.isEmpty := by
  cases h <;> rfl
section
variable {X : Cx} {G : Cfg} {C : Call} {W : WX}
theorem p_dct0 {pos : Pos} : PE X (.Dict [] [] pos) (rdR G C W (.dct [])) := PE.imp pe_dct0 fun σ H Q ⟨r, re, tb, z⟩ p o hp => by
  have x : ∀ b u, H b = some u → upd H p (.frz o (.dK [])) b = some u := fun b u e => by
    rw [upd_ne (ne_of_none e hp)]
    exact e
  exact z _ _ (.dic (xs := []) (by rw [upd_same]; rfl) rfl .nil) (LamX.ExtN.of x) (Tabs.new tb hp)
theorem p_dct1 {k : Str} {j : Nat} {p1 pos : Pos} {v : Expr} {y : V} {d : D} (hv : PE X v (tC y)) (hd : ∀ H, RD G.K H d y) : PE X (.Dict [some (.Constant (.str k) j p1)] [v] pos) (rdR G C W (.dct [(.inr k, d)])) := PE.imp (pe_dct1 hv) fun σ H Q ⟨r, re, tb, z⟩ p o hp => by
  have x : ∀ b u, H b = some u → upd H p (.frz o (.dK [(.inr k, y)])) b = some u := fun b u e => by
    rw [upd_ne (ne_of_none e hp)]
    exact e
  exact z _ _ (.dic (xs := [y]) (by rw [upd_same]; rfl) rfl (.cons (hd _) .nil)) (LamX.ExtN.of x) (Tabs.new tb hp)
end
end En
/-! En4: the operators, by values. -/
namespace En
open PySem L2 PyProof.Rows
abbrev St := L2.St
section
variable {X : Cx} {G : Cfg}
/-- a list that is read, in the heap itself -/
theorem RB.obj {pins : List (Addr × Obj)} {σ : St} {H : Hp} {s : Shared} {K : PySem.W.Frag} {xs : List D} {v : V} (hK : X.K = K) (I : Inv X pins σ H s) (h : RB K H (.lst xs) v) :
    ∃ p us its n, v = .ref p ∧ RDs K H xs us ∧ us.length ≤ sizeLine ∧ Vals us its ∧ s.heap.get? p = some { cls := .type "list", data := .seq its.toArray n } := by
  rcases h with h | ⟨xs', p, us, e1, e2, e3, r⟩
  · cases h with
    | lst h r =>
      rcases h with ⟨o, e⟩ | ⟨its, n, hk, hz, rv⟩
      · obtain ⟨_, z, its, n, rv, e2⟩ := I.hok _ _ e
        exact ⟨_, _, its, n, rfl, r, z, rv, e2⟩
      · exact ⟨_, _, its, n, rfl, r, by rw [rv.length]; exact hz, rv, I.kIn _ _ (by rw [hK]; exact hk)⟩
  · cases e1
    obtain ⟨z, its, n, rv, e4⟩ := I.hok _ _ e3
    exact ⟨p, us, its, n, e2, r, z, rv, e4⟩
/-- the end of an expression -/
abbrev fin (G : Cfg) (H : Hp) (Q : VK) : Rv → Prop := fun x => ∀ v H', RR G.K H H' x v → ExN H H' → Tb G H' → Q v H'
def rBin (G : Cfg) (op : Operator) : R2 := fun x y H Q => ∃ dx dy, RB G.K H dx x ∧ RB G.K H dy y ∧ Tb G H ∧ binW op dx dy (fin G H Q)
theorem notL_int (i : Int) : ∀ xs, D.int i ≠ .lst xs := fun _ z => nomatch z
theorem notL_str (i : Str) : ∀ xs, D.str i ≠ .lst xs := fun _ z => nomatch z
theorem notL_tup (i : List D) : ∀ xs, D.tup i ≠ .lst xs := fun _ z => nomatch z
theorem RB.int {K : PySem.W.Frag} {H : Hp} {i : Int} {v : V} (h : RB K H (.int i) v) : v = .int i := by
  cases h.rd (notL_int i)
  rfl
theorem RB.str {K : PySem.W.Frag} {H : Hp} {i : Str} {v : V} (h : RB K H (.str i) v) : v = .str i := by
  cases h.rd (notL_str i)
  rfl
theorem RB.bl {K : PySem.W.Frag} {H : Hp} {i : Bool} {v : V} (h : RB K H (.bl i) v) : v = .bl i := by
  cases h.rd (fun _ z => nomatch z)
  rfl
theorem RB.tup {K : PySem.W.Frag} {H : Hp} {i : List D} {v : V} (h : RB K H (.tup i) v) : ∃ p us, v = .ref p ∧ SqT K H p us ∧ RDs K H i us := by
  cases h.rd (notL_tup i) with
  | tup q r => exact ⟨_, _, rfl, q, r⟩
theorem op_mulX : OpR X (binaryOp .Mult) (rI IntMulOk fun i j => .int (i * j)) := opI fun _ _ _ _ _ _ _ hc q => mul_int q hc
theorem fin_same {H : Hp} {Q : VK} {d : D} {v : V} (t : Tb G H) (z : fin G H Q (.v d)) (r : RD G.K H d v) : Q v H := z v H r (LamX.ExtN.refl H) t
theorem fin_tup {H : Hp} {Q : VK} {ds : List D} {vs : List V} (t : Tb G H) (z : fin G H Q (.v (.tup ds))) (r : RDs G.K H ds vs) (p : Addr) (hp : H p = none) : Q (.ref p) (upd H p (.tup vs)) :=
  z _ _ (.tup (.inl (.inl upd_same)) (r.stb (ExN.stb (ExN.new hp)))) (ExN.new hp) (Tabs.new t hp)
theorem fin_fr {H : Hp} {Q : VK} {ds : List D} {vs : List V} (t : Tb G H) (z : fin G H Q (.fr ds)) (r : RDs G.K H ds vs) (p : Addr) (hp : H p = none) : Q (.ref p) (upd H p (.lst vs)) :=
  z _ _ ⟨p, vs, rfl, Fr.of hp, upd_same, r.stb (ExN.stb (ExN.new hp))⟩ (ExN.new hp) (Tabs.new t hp)
theorem op_bin (hK : X.K = G.K) (op : Operator) : OpR X (binaryOp op) (rBin G op) := by
  intro pins s σ H x y v u Q I rx ry h
  obtain ⟨dx, dy, hx, hy, t, z⟩ := h
  unfold binW at z
  split at z
  · have ex := hx.int
    have ey := hy.int
    subst ex ey
    exact op_add pins s σ H _ _ v u Q I rx ry ⟨_, _, rfl, rfl, fin_same t z (.int _)⟩
  · have ex := hx.str
    have ey := hy.str
    subst ex ey
    exact op_add_str pins s σ H _ _ v u Q I rx ry ⟨_, _, rfl, rfl, z.1, fin_same t z.2 (.str _)⟩
  · obtain ⟨p, us, e1, s1, r1⟩ := hx.tup
    obtain ⟨q, ws, e2, s2, r2⟩ := hy.tup
    subst e1 e2
    have l1 := r1.length
    have l2 := r2.length
    refine op_catA pins s σ H _ _ v u Q I rx ry ⟨p, q, us, ws, rfl, rfl, by rw [hK]; exact s1, by rw [hK]; exact s2, by rw [← l1, ← l2]; exact z.1, fun e => ?_, fun e1 e2 => ?_, fun e1 e2 a ha => ?_⟩
    · subst e
      cases r1
      exact fin_same t z.2 (.tup s2 r2)
    · subst e2
      cases r2
      have z2 := z.2
      rw [List.append_nil] at z2
      exact fin_same t z2 (.tup s1 r1)
    · exact fin_tup t z.2 (r1.append r2) a ha
  · obtain ⟨p, us, its, n, e1, r1, l1, v1, o1⟩ := RB.obj hK I hx
    obtain ⟨q, ws, its2, n2, e2, r2, l2, v2, o2⟩ := RB.obj hK I hy
    subst e1 e2
    cases rx
    cases ry
    have k1 := r1.length
    have k2 := r2.length
    have m1 := v1.length
    have m2 := v2.length
    have z1 := z.1
    refine PySem.P.add_list o1 o2 ?_ (by rw [List.size_toArray, List.size_toArray]; omega)
    have ea : its.toArray ++ its2.toArray = (its ++ its2).toArray := by simp
    rw [ea]
    exact ⟨.ref _, _, I.lnew (t' := s.toks) (v1.append v2) (by rw [List.length_append]; omega), rfl, fin_fr t z.2 (r1.append r2) _ I.fresh⟩
  · have ex := hx.int
    have ey := hy.int
    subst ex ey
    exact op_sub pins s σ H _ _ v u Q I rx ry ⟨_, _, rfl, rfl, fin_same t z (.int _)⟩
  · have ex := hx.int
    have ey := hy.int
    subst ex ey
    exact op_mulX pins s σ H _ _ v u Q I rx ry ⟨_, _, rfl, rfl, z.1, fin_same t z.2 (.int _)⟩
  · obtain ⟨p, us, e1, s1, r1⟩ := hx.tup
    have ey := hy.int
    subst e1 ey
    obtain ⟨z1, z2, z3, z4, z⟩ := z
    have l1 := r1.length
    rename_i xs k
    by_cases hk : k = 1
    · subst hk
      refine op_rep1 pins s σ H _ _ v u Q I rx ry ⟨p, us, rfl, rfl, by rw [hK]; exact s1, ?_⟩
      have e : (List.replicate (1 : Int).toNat xs).flatten = xs := by simp
      rw [e] at z
      exact fin_same t z (.tup s1 r1)
    by_cases hk0 : k = 0
    · subst hk0
      refine op_rep0 pins s σ H _ _ v u Q I rx ry ⟨p, us, rfl, rfl, by rw [hK]; exact s1, fun e => z1 ?_, fun p1 hp1 => fin_tup t z ?_ p1 hp1⟩
      · rw [e] at l1
        exact List.eq_nil_of_length_eq_zero l1
      · exact .nil
    · refine op_repT pins s σ H _ _ v u Q I rx ry ⟨p, k, us, rfl, rfl, by rw [hK]; exact s1, fun e => z1 ?_, by omega, z3, by omega, fun p1 hp1 => fin_tup t z ?_ p1 hp1⟩
      · rw [e] at l1
        exact List.eq_nil_of_length_eq_zero l1
      · exact r1.rep k.toNat
  · obtain ⟨p, us, its, n, e1, r1, l1, v1, o1⟩ := RB.obj hK I hx
    have ey := hy.int
    subst e1 ey
    obtain ⟨z1, z2, z3, z⟩ := z
    rename_i xs k
    cases rx
    obtain ⟨t', rfl⟩ := ry
    have k1 := r1.length
    have m1 := v1.length
    have bd : its.length * k.toNat ≤ 1000 * 1000 := Nat.mul_le_mul (by omega) (by omega)
    have fit : its.toArray.size * k.toNat ≤ sizeLine := by
      rw [List.size_toArray, sizeLine_eq]
      omega
    refine wpAny_binaryOp_repeat_ref (T := "list") (U := "int") (by decide) ⟨_, o1, rfl⟩ (fun s' => typeIs_int s' k t') noFill_list_mul F.fills_int_mul F.slot_int_rmul repeat_list F.slot_int_index.lookup
      (call_meets F.slot_int_rmul (typeIs_int s k t') F.entry_int_rmul (F.args_int_rmul_2 _ _) (int___rmul___int_list k t' p its.toArray n)
        ⟨o1, rfl, ⟨_, o1, rfl⟩, call_meets F.slot_list_mul ⟨_, o1, rfl⟩ F.entry_list_mul (F.args_list_mul_2 _ _) (AutoListH.list___mul___list_int_3 p its.toArray n k t' (by rw [fitsIndex_both (by omega) (by omega)]; exact Bool.false_ne_true) (by rw [List.size_toArray]; omega) (by rw [notLongL fit]; exact Bool.false_ne_true)) ⟨o1, ?_⟩⟩)
    have hne : List.foldl (fun x1 x2 => x1 ++ x2) #[] (List.replicate (if its.toArray.isEmpty = true then 0 else k.toNat) its.toArray) = (List.replicate k.toNat its).flatten.toArray := by
      cases its with
      | nil => simp
      | cons a r' =>
        rw [if_neg (by simp)]
        have := foldl_rep (a :: r') k.toNat []
        rw [List.nil_append] at this
        exact this
    rw [hne]
    refine ⟨.ref _, _, I.lnew (t' := s.toks) (v1.rep k.toNat) ?_, rfl, fin_fr t z (r1.rep k.toNat) _ I.fresh⟩
    rw [PyProof.Rows.lm_len_rep_flat, m1, Nat.mul_comm, sizeLine_eq]
    omega
  · have ex := hx.int
    have ey := hy.int
    subst ex ey
    rcases z.1.2 with h | h
    · exact op_fdiv pins s σ H _ _ v u Q I rx ry ⟨_, _, rfl, rfl, ⟨z.1.1, h⟩, fin_same t z.2 (.int _)⟩
    · exact op_fdivW pins s σ H _ _ v u Q I rx ry ⟨_, _, rfl, rfl, ⟨z.1.1, h⟩, fin_same t z.2 (.int _)⟩
  · have ex := hx.int
    have ey := hy.int
    subst ex ey
    exact op_mod pins s σ H _ _ v u Q I rx ry ⟨_, _, rfl, rfl, z.1, fin_same t z.2 (.int _)⟩
  · have ex := hx.int
    have ey := hy.int
    subst ex ey
    exact op_pow pins s σ H _ _ v u Q I rx ry ⟨_, _, rfl, rfl, z.1, fin_same t z.2 (.int _)⟩
  · exact z.elim
def rNeg (G : Cfg) : V → Hp → VK → Prop := fun x H Q => ∃ dx, RB G.K H dx x ∧ Tb G H ∧ negW dx (fin G H Q)
theorem un_negD : UnR X (unaryOp .USub) (rNeg G) := by
  intro pins s σ H x v Q I rx h
  obtain ⟨dx, hx, t, z⟩ := h
  unfold negW at z
  split at z
  · have ex := hx.int
    subst ex
    exact un_neg pins s σ H _ v Q I rx ⟨_, rfl, fin_same t z (.int _)⟩
  · exact z.elim
/-! ### comparisons -/
mutual
theorem RD.dp {K : PySem.W.Frag} {H : Hp} : ∀ {d : D} {v : V}, RD K H d v → isDat d = true → Dp K H v (toPy d)
  | _, _, .non, _ => .non
  | _, _, .bl b, _ => .bl b
  | _, _, .int i, _ => .int i
  | _, _, .str x, _ => .str x
  | _, _, .tup h r, e => by
    unfold isDat at e
    unfold toPy
    exact .tup h (RDs.dp r e)
  | _, _, .lst h r, e => by
    unfold isDat at e
    unfold toPy
    exact .lst h.sq (RDs.dp r e)
  | _, _, .ntp _ _ _, e => by simp [isDat] at e
  | _, _, .er0 _, e => by simp [isDat] at e
  | _, _, .er1 _ _ _, e => by simp [isDat] at e
  | _, _, .dic _ _ _, e => by simp [isDat] at e
  | _, _, .cls _, e => by simp [isDat] at e
  | _, _, .ty _, e => by simp [isDat] at e
  | _, _, .obj _ _, e => by simp [isDat] at e
  | _, _, .pail _, e => by simp [isDat] at e
theorem RDs.dp {K : PySem.W.Frag} {H : Hp} : ∀ {ds : List D} {vs : List V}, RDs K H ds vs → isDats ds = true → DpAll K H vs (toPys ds)
  | _, _, .nil, _ => .nil
  | _, _, .cons r q, e => by
    unfold isDats at e
    unfold toPys
    have e' := Bool.and_eq_true_iff.mp e
    exact .cons (RD.dp r e'.1) (RDs.dp q e'.2)
end
theorem RB.dp {K : PySem.W.Frag} {H : Hp} {d : D} {v : V} (h : RB K H d v) (e : isDat d = true) : Dp K H v (toPy d) := by
  rcases h with h | ⟨xs, p, us, e1, e2, e3, r⟩
  · exact h.dp e
  · subst e1 e2
    unfold isDat at e
    unfold toPy
    exact .lst (.inl (.inl e3)) (r.dp e)
theorem RD.flat {K : PySem.W.Frag} {H : Hp} {d : D} {v : V} (h : RD K H d v) (e : flatD d = true) : flatV v = true := by
  cases h <;> first
    | rfl
    | (simp [flatD] at e)
theorem RDs.flat {K : PySem.W.Frag} {H : Hp} : ∀ {d : List D} {v : List V}, RDs K H d v → d.all flatD = true → v.all flatV = true
  | _, _, .nil, _ => rfl
  | _, _, .cons r q, e => by
    have e' := Bool.and_eq_true_iff.mp (show (_ && _) = true from e)
    show (_ && _) = true
    rw [r.flat e'.1, RDs.flat q e'.2]
    rfl
theorem RD.eqF {K : PySem.W.Frag} {H : Hp} {d e : D} {v u : V} (h : RD K H d v) (k : RD K H e u) (f : flatD d = true) (g : flatD e = true) : eqV v u = eqF d e := by
  cases h <;> first
    | (simp [flatD] at f; done)
    | (cases k <;> first
        | (simp [flatD] at g; done)
        | (simp [eqV, En.eqF]; done)
        | rfl)
theorem RDs.inF {K : PySem.W.Frag} {H : Hp} {e : D} {u : V} (k : RD K H e u) (g : flatD e = true) : ∀ {d : List D} {v : List V}, RDs K H d v → d.all flatD = true → inV u v = d.any fun y => eqF y e
  | _, _, .nil, _ => rfl
  | _, _, .cons r q, f => by
    have e' := Bool.and_eq_true_iff.mp (show (_ && _) = true from f)
    have ih := RDs.inF k g q e'.2
    unfold inV at ih ⊢
    show (eqV _ u || List.any _ fun y => eqV y u) = (En.eqF _ e || List.any _ fun y => En.eqF y e)
    rw [r.eqF k e'.1 g, ih]
abbrev finB (G : Cfg) (H : Hp) (Q : VK) : Bool → Prop := fun b => ∀ H', ExN H H' → Tb G H' → Q (.bl b) H'
def rCmp (G : Cfg) (C : Call) (op : CmpOp) : R2 := fun x y H Q => ∃ dx dy, RB G.K H dx x ∧ RB G.K H dy y ∧ Tb G H ∧ cmpW C op dx dy (finB G H Q)
def opE : Bool → CmpOp
  | true => .NotEq
  | false => .Eq
def opI : Bool → CmpOp
  | true => .NotIn
  | false => .In
/-- == and != of own objects -/
structure EqoOk (X : Cx) (G : Cfg) (C : Call) : Prop where
  eq : OpR X (compareOp .Eq) (fun x y H Q => ∃ dx dy, RB G.K H dx x ∧ RB G.K H dy y ∧ Tb G H ∧ isObj dx = true ∧ isObj dy = true ∧ C "__eq__" [dx, dy] (fun r => ∃ b, r = .v (.bl b) ∧ finB G H Q b) E0)
  ne : OpR X (compareOp .NotEq) (fun x y H Q => ∃ dx dy, RB G.K H dx x ∧ RB G.K H dy y ∧ Tb G H ∧ isObj dx = true ∧ isObj dy = true ∧ C "__eq__" [dx, dy] (fun r => ∃ b, r = .v (.bl b) ∧ finB G H Q (!b)) E0)
  oeq : ∀ n, OpR X (compareOp (opE n)) (fun x y H Q => ∃ dx dy, RD G.K H dx x ∧ RD G.K H dy y ∧ Tb G H ∧ eqOb C dx dy fun b => finB G H Q (flp n b))
  oin : ∀ n, OpR X (compareOp (opI n)) (fun x y H Q => ∃ dx dy, RD G.K H dx x ∧ RB G.K H dy y ∧ Tb G H ∧ inO C dx dy fun b => finB G H Q (flp n b))
theorem RB.flat {K : PySem.W.Frag} {H : Hp} {d : D} {v : V} (h : RB K H d v) (e : flatD d = true) : RD K H d v := h.rd fun xs z => by
  subst z
  cases e
theorem finB_same {H : Hp} {Q : VK} {b : Bool} (t : Tb G H) (z : finB G H Q b) : Q (.bl b) H := z H (LamX.ExtN.refl H) t
theorem RB.non_iff {K : PySem.W.Frag} {H : Hp} {d : D} {v : V} (h : RB K H d v) : decide (v = .non) = isNon d := by
  rcases h with h | ⟨xs, p, us, e1, e2, e3, r⟩
  · cases h <;> rfl
  · subst e1 e2
    rfl
/-- x in y, by flat things and by signs -/
theorem in_D (hK : X.K = G.K) {pins : List (Addr × Obj)} {s : Shared} {σ : St} {H : Hp} {x y : V} {v u : Value} {Q : VK} {dx dy : D} (I : Inv X pins σ H s) (rx : RelV x v) (ry : RelV y u) (hx : RB G.K H dx x) (hy : RB G.K H dy y) (t : Tb G H)
    (z : inW dx dy (finB G H Q)) : wpAny (model X.prog X.w) X.A (compareOp .In v u) (EP X pins σ Q) X.xe s := by
  unfold inW at z
  split at z
  · obtain ⟨p, us, e, sq, r⟩ := hy.lst
    subst e
    refine op_in_seq pins s σ H _ _ v u Q I rx ry ⟨p, us, rfl, .inl (by rw [hK]; exact sq), (hx.flat z.1).flat z.1, r.flat z.2.1, ?_⟩
    show Q (.bl (inV x us)) H
    rw [r.inF (hx.flat z.1) z.1 z.2.1]
    exact finB_same t z.2.2
  · obtain ⟨p, us, e, sq, r⟩ := hy.tup
    subst e
    refine op_in_seq pins s σ H _ _ v u Q I rx ry ⟨p, us, rfl, .inr (by rw [hK]; exact sq), (hx.flat z.1).flat z.1, r.flat z.2.1, ?_⟩
    show Q (.bl (inV x us)) H
    rw [r.inF (hx.flat z.1) z.1 z.2.1]
    exact finB_same t z.2.2
  · obtain ⟨c, e, z⟩ := z
    subst e
    have ex := hx.str
    have ey := hy.str
    subst ex ey
    exact op_in_sign pins s σ H _ _ v u Q I rx ry ⟨c, _, rfl, rfl, finB_same t z⟩
  · exact z.elim
theorem notin_D (hK : X.K = G.K) {pins : List (Addr × Obj)} {s : Shared} {σ : St} {H : Hp} {x y : V} {v u : Value} {Q : VK} {dx dy : D} (I : Inv X pins σ H s) (rx : RelV x v) (ry : RelV y u) (hx : RB G.K H dx x) (hy : RB G.K H dy y) (t : Tb G H)
    (z : inW dx dy fun b => finB G H Q (!b)) : wpAny (model X.prog X.w) X.A (compareOp .NotIn v u) (EP X pins σ Q) X.xe s := by
  unfold inW at z
  split at z
  · obtain ⟨p, us, e, sq, r⟩ := hy.lst
    subst e
    refine op_notIn_seq pins s σ H _ _ v u Q I rx ry ⟨p, us, rfl, .inl (by rw [hK]; exact sq), (hx.flat z.1).flat z.1, r.flat z.2.1, ?_⟩
    show Q (.bl (!inV x us)) H
    rw [r.inF (hx.flat z.1) z.1 z.2.1]
    exact finB_same t z.2.2
  · obtain ⟨p, us, e, sq, r⟩ := hy.tup
    subst e
    refine op_notIn_seq pins s σ H _ _ v u Q I rx ry ⟨p, us, rfl, .inr (by rw [hK]; exact sq), (hx.flat z.1).flat z.1, r.flat z.2.1, ?_⟩
    show Q (.bl (!inV x us)) H
    rw [r.inF (hx.flat z.1) z.1 z.2.1]
    exact finB_same t z.2.2
  · obtain ⟨c, e, z⟩ := z
    subst e
    have ex := hx.str
    have ey := hy.str
    subst ex ey
    exact op_notIn_sign pins s σ H _ _ v u Q I rx ry ⟨c, _, rfl, rfl, finB_same t z⟩
  · exact z.elim
theorem op_cmp {C : Call} (hK : X.K = G.K) (hu : X.A.units + 64 < cLine) (ho : EqoOk X G C) (op : CmpOp) : OpR X (compareOp op) (rCmp G C op) := by
  intro pins s σ H x y v u Q I rx ry h
  obtain ⟨dx, dy, hx, hy, t, z⟩ := h
  unfold cmpW at z
  split at z
  · have ex := hx.int
    have ey := hy.int
    subst ex ey
    exact op_lt pins s σ H _ _ v u Q I rx ry ⟨_, _, rfl, rfl, finB_same t z⟩
  · have ex := hx.int
    have ey := hy.int
    subst ex ey
    exact op_le pins s σ H _ _ v u Q I rx ry ⟨_, _, rfl, rfl, finB_same t z⟩
  · have ex := hx.int
    have ey := hy.int
    subst ex ey
    exact op_gt pins s σ H _ _ v u Q I rx ry ⟨_, _, rfl, rfl, finB_same t z⟩
  · have ex := hx.int
    have ey := hy.int
    subst ex ey
    exact op_ge pins s σ H _ _ v u Q I rx ry ⟨_, _, rfl, rfl, finB_same t z⟩
  · cases hy.rd (fun _ z => nomatch z)
    refine op_isN pins s σ H _ _ v u Q I rx ry ⟨rfl, ?_⟩
    rw [hx.non_iff]
    exact finB_same t z
  · cases hy.rd (fun _ z => nomatch z)
    refine op_notN pins s σ H _ _ v u Q I rx ry ⟨rfl, ?_⟩
    rw [hx.non_iff]
    exact finB_same t z
  · rcases z with ⟨a, b, e1, e2, z⟩ | z
    · subst e1 e2
      have ex := hx.str
      have ey := hy.str
      subst ex ey
      refine op_eq pins s σ H _ _ v u Q I rx ry ⟨rfl, ?_⟩
      have e : decide (V.str a = V.str b) = decide (a = b) := by simp
      rw [e]
      exact finB_same t z
    rcases z with z | ⟨h1, h2, z⟩ | ⟨xs, e1, e2, z⟩ | ⟨xs, e1, e2, z⟩
    rotate_left
    rotate_left
    rotate_left
    · subst e1 e2
      obtain ⟨p, us, e1, s1, r1⟩ := hx.lst
      obtain ⟨q, ws, e2, s2, r2⟩ := hy.lst
      subst e1 e2
      cases r2
      first
        | refine op_eqL0 (by omega) pins s σ H _ _ v u Q I rx ry ⟨p, q, us, rfl, rfl, by rw [hK]; exact s1, by rw [hK]; exact s2, ?_⟩
        | refine op_neL0 (by omega) pins s σ H _ _ v u Q I rx ry ⟨p, q, us, rfl, rfl, by rw [hK]; exact s1, by rw [hK]; exact s2, ?_⟩
      rw [r1.emp]
      exact finB_same t z
    rotate_left
    rotate_left
    · subst e1 e2
      obtain ⟨p, us, e1, s1, r1⟩ := hx.tup
      obtain ⟨q, ws, e2, s2, r2⟩ := hy.tup
      subst e1 e2
      cases r2
      first
        | refine op_eq0 (by omega) pins s σ H _ _ v u Q I rx ry ⟨p, q, us, rfl, rfl, by rw [hK]; exact s1, by rw [hK]; exact s2, ?_⟩
        | refine op_ne0 (by omega) pins s σ H _ _ v u Q I rx ry ⟨p, q, us, rfl, rfl, by rw [hK]; exact s1, by rw [hK]; exact s2, ?_⟩
      rw [r1.emp]
      exact finB_same t z
    rotate_left
    · exact ho.eq pins s σ H _ _ v u Q I rx ry ⟨_, _, hx, hy, t, h1, h2, z⟩
    obtain ⟨z1, z2, z3, z4, z⟩ := z
    exact op_eqD hu pins s σ H _ _ v u Q I rx ry ⟨_, _, by rw [hK]; exact hx.dp z1, by rw [hK]; exact hy.dp z2, z3, z4, finB_same t z⟩
  · rcases z with ⟨a, b, e1, e2, z⟩ | z
    · subst e1 e2
      have ex := hx.str
      have ey := hy.str
      subst ex ey
      refine op_ne pins s σ H _ _ v u Q I rx ry ⟨rfl, ?_⟩
      have e : decide (V.str a = V.str b) = decide (a = b) := by simp
      rw [e]
      exact finB_same t z
    rcases z with z | ⟨h1, h2, z⟩ | ⟨xs, e1, e2, z⟩ | ⟨xs, e1, e2, z⟩
    rotate_left
    rotate_left
    rotate_left
    · subst e1 e2
      obtain ⟨p, us, e1, s1, r1⟩ := hx.lst
      obtain ⟨q, ws, e2, s2, r2⟩ := hy.lst
      subst e1 e2
      cases r2
      first
        | refine op_eqL0 (by omega) pins s σ H _ _ v u Q I rx ry ⟨p, q, us, rfl, rfl, by rw [hK]; exact s1, by rw [hK]; exact s2, ?_⟩
        | refine op_neL0 (by omega) pins s σ H _ _ v u Q I rx ry ⟨p, q, us, rfl, rfl, by rw [hK]; exact s1, by rw [hK]; exact s2, ?_⟩
      rw [r1.emp]
      exact finB_same t z
    rotate_left
    rotate_left
    · subst e1 e2
      obtain ⟨p, us, e1, s1, r1⟩ := hx.tup
      obtain ⟨q, ws, e2, s2, r2⟩ := hy.tup
      subst e1 e2
      cases r2
      first
        | refine op_eq0 (by omega) pins s σ H _ _ v u Q I rx ry ⟨p, q, us, rfl, rfl, by rw [hK]; exact s1, by rw [hK]; exact s2, ?_⟩
        | refine op_ne0 (by omega) pins s σ H _ _ v u Q I rx ry ⟨p, q, us, rfl, rfl, by rw [hK]; exact s1, by rw [hK]; exact s2, ?_⟩
      rw [r1.emp]
      exact finB_same t z
    rotate_left
    · exact ho.ne pins s σ H _ _ v u Q I rx ry ⟨_, _, hx, hy, t, h1, h2, z⟩
    obtain ⟨z1, z2, z3, z4, z⟩ := z
    exact op_neD hu pins s σ H _ _ v u Q I rx ry ⟨_, _, by rw [hK]; exact hx.dp z1, by rw [hK]; exact hy.dp z2, z3, z4, finB_same t z⟩
  · exact in_D hK I rx ry hx hy t z
  · exact notin_D hK I rx ry hx hy t z
  · exact z.elim
/-! ### truth, items, slices -/
theorem RDs.empty {K : PySem.W.Frag} {H : Hp} {d : List D} {v : List V} (h : RDs K H d v) : v.isEmpty = d.isEmpty := by
  cases h <;> rfl
theorem tru_D (hK : X.K = G.K) : TruR X (fun x H Q => ∃ dx, RB G.K H dx x ∧ Tb G H ∧ truW dx fun b => ∀ H', ExN H H' → Tb G H' → Q b H') := by
  intro pins s σ H x v Q I rx h
  obtain ⟨dx, hx, t, z⟩ := h
  unfold truW at z
  split at z
  · cases hx.rd (fun _ z => nomatch z)
    exact tru_ok pins s σ H _ v Q I rx ⟨_, rfl, z H (LamX.ExtN.refl H) t⟩
  · have ex := hx.bl
    subst ex
    exact tru_ok pins s σ H _ v Q I rx ⟨_, rfl, z H (LamX.ExtN.refl H) t⟩
  · have ex := hx.int
    subst ex
    exact tru_ok pins s σ H _ v Q I rx ⟨_, rfl, z H (LamX.ExtN.refl H) t⟩
  · have ex := hx.str
    subst ex
    exact tru_ok pins s σ H _ v Q I rx ⟨_, ⟨z.1, rfl⟩, z.2 H (LamX.ExtN.refl H) t⟩
  · obtain ⟨p, us, e, sq, r⟩ := hx.tup
    subst e
    refine tru_ok pins s σ H _ v Q I rx ⟨!us.isEmpty, .inr (.inl ⟨us, by rw [hK]; exact sq, rfl⟩), ?_⟩
    rw [r.empty]
    exact z H (LamX.ExtN.refl H) t
  · obtain ⟨p, us, e, sq, r⟩ := hx.lst
    subst e
    refine tru_ok pins s σ H _ v Q I rx ⟨!us.isEmpty, .inl ⟨us, by rw [hK]; exact sq, rfl⟩, ?_⟩
    rw [r.empty]
    exact z H (LamX.ExtN.refl H) t
  · exact z.elim
theorem RDs.atI {K : PySem.W.Frag} {H : Hp} {ds : List D} {vs : List V} {i : Int} {d : D} (r : RDs K H ds vs) (h : atI ds i = some d) : ∃ v, L2.atI vs i = some v ∧ RD K H d v := by
  unfold L2.atI at h ⊢
  rw [← r.length]
  cases e : ixN ds.length i with
  | none =>
    rw [e] at h
    cases h
  | some j =>
    rw [e] at h
    exact r.get h
def rIdx (G : Cfg) : R2 := fun x y H Q => ∃ dx dy, RB G.K H dx x ∧ RB G.K H dy y ∧ Tb G H ∧ idxW dx dy (fin G H Q)
theorem ix_D (hK : X.K = G.K) : IxR X (rIdx G) := by
  intro value slice pins s σ H x y v u Q I rx ry h hs
  obtain ⟨dx, dy, hx, hy, t, z⟩ := h
  unfold idxW at z
  split at z
  · obtain ⟨d, e, z⟩ := z
    obtain ⟨p, us, ex, sq, r⟩ := hx.lst
    have ey := hy.int
    subst ex ey
    obtain ⟨w, hw, rw'⟩ := r.atI e
    exact ix_list value slice pins s σ H _ _ v u Q I rx ry ⟨p, us, _, w, rfl, rfl, by rw [hK]; exact sq, hw, fin_same t z rw'⟩ hs
  · obtain ⟨d, e, z⟩ := z
    obtain ⟨p, us, ex, sq, r⟩ := hx.tup
    have ey := hy.int
    subst ex ey
    obtain ⟨w, hw, rw'⟩ := r.atI e
    exact ix_tup value slice pins s σ H _ _ v u Q I rx ry ⟨p, us, _, w, rfl, rfl, by rw [hK]; exact sq, hw, fin_same t z rw'⟩ hs
  · obtain ⟨l, c, e, z⟩ := z
    have ex := hx.str
    have ey := hy.int
    subst ex ey
    exact ix_str value slice pins s σ H _ _ v u Q I rx ry ⟨_, _, c, rfl, rfl, l, e, fin_same t z (.str _)⟩ hs
  · exact z.elim
theorem RDs.cut {K : PySem.W.Frag} {H : Hp} {ds : List D} {vs : List V} (lo hi : Option Int) (r : RDs K H ds vs) : RDs K H (cutD ds lo hi) (cutV vs lo hi) := by
  unfold cutD cutV
  rw [r.length]
  exact (r.drop _).take _
def rSlc (G : Cfg) : V → Option Int → Option Int → Hp → VK → Prop := fun x lo hi H Q => ∃ dx, RB G.K H dx x ∧ Tb G H ∧ slcW dx lo hi (fin G H Q)
theorem sl_D (hK : X.K = G.K) : SlR X (rSlc G) := by
  intro pins s σ H x v vl vu lo hi sl Q I rx hs pl pu h
  obtain ⟨dx, hx, t, z⟩ := h
  unfold slcW at z
  split at z
  · obtain ⟨p, us, ex, sq, r⟩ := hx.lst
    subst ex
    exact sl_list pins s σ H _ v vl vu lo hi sl Q I rx hs pl pu ⟨p, us, rfl, by rw [hK]; exact sq, fun a ha => fin_fr t z (r.cut lo hi) a ha⟩
  · obtain ⟨p, us, ex, sq, r⟩ := hx.tup
    subst ex
    refine sl_tupA pins s σ H _ v vl vu lo hi sl Q I rx hs pl pu ⟨p, us, rfl, by rw [hK]; exact sq, fun e => ?_, fun e a ha => fin_tup t z (r.cut lo hi) a ha⟩
    refine fin_same t z (.tup sq ?_)
    have c := r.cut lo hi
    have e2 : cutV us lo hi = us := by
      unfold cutV
      rw [e.1, e.2, List.drop_zero, Nat.sub_zero, List.take_length]
    rw [e2] at c
    exact c
  · have ex := hx.str
    subst ex
    exact sl_str pins s σ H _ v vl vu lo hi sl Q I rx hs pl pu ⟨_, rfl, z.1, fin_same t z.2 (.str _)⟩
  · exact z.elim
end
end En
/-! En5: enumerate of a tuple; what is walked. -/
namespace En
open PySem L2 PyProof.Rows
theorem mk_enumT (l : Addr) (items : Array Value) (n : Nat) (dc : Option Addr) (sl : Array (Option Value)) :
    Meets (Builtin.«enumerate.__new__» ⟨[.type "enumerate", .ref l], []⟩) (fun _ R s =>
      s.heap.get? l = some { cls := .type "tuple", dict := dc, data := .seq items n, slots := sl } ∧
      R (.ok (.ret (.ref (s.heap.push { cls := .type "tuple_iterator", data := .fields #[.ref l, .int 0 0] }).objs.size)))
        { s with heap := (s.heap.push { cls := .type "tuple_iterator", data := .fields #[.ref l, .int 0 0] }).push { cls := .type "enumerate", data := .fields #[.none, .bool false, .ref s.heap.objs.size, rawInt 0, .none, .none] } }) :=
  .of_wp fun prog w A R s h => by
    obtain ⟨hp, g, d, tk, os⟩ := s
    obtain ⟨hl, h⟩ := h
    have sb := sub_enumerate
    have hT : Heap.IsTuple (Shared.heap ⟨hp, g, d, tk, os⟩) l items := ⟨_, hl, rfl, n, rfl⟩
    wp_walk using AutoSeq1.wpAny_loadPart' hl
    refine wpAny_stack_any fun st => wpAny_pure ?_
    split
    · rename_i c _ _ _ _ _
      cases (c == Value.type "enumerate")
      · wp_walk using AutoSeq1.wpAny_loadPart' hl, wpAny_pyIter_tuple hT
        exact ⟨_, rfl, h⟩
      · wp_walk using AutoSeq1.wpAny_loadPart' hl, wpAny_pyIter_tuple hT
        exact ⟨_, rfl, h⟩
    · wp_walk using AutoSeq1.wpAny_loadPart' hl, wpAny_pyIter_tuple hT
      exact ⟨_, rfl, h⟩
section
variable {prog : Program} {w : World} {A : Around} {E : Value → Shared → Prop} {s : Shared}
theorem call_enumT {l : Addr} {items : Array Value} {Q : Value → Shared → Prop} (hL : IsTup s.heap l items)
    (h : ∀ h', IsEnum h' (s.heap.objs.size + 1) s.heap.objs.size 0 .none → h'.IsTupleIter s.heap.objs.size l 0 →
      (∀ b o, s.heap.get? b = some o → h'.get? b = some o) → Q (.ref (s.heap.objs.size + 1)) { s with heap := h' }) :
    wpAny (model prog w) A (call (.type "enumerate") [.ref l]) Q E s := by
  obtain ⟨⟨c, dc, dt, sl⟩, hl, hc, n, hd⟩ := hL
  replace hc : c = .type "tuple" := hc
  replace hd : dt = .seq items n := hd
  subst hc hd
  refine callType_new F.called_enumerate (by decide) (F.typeCall_enumerate_1 _) (F.newCall_enumerate_1 _) (fun o => F.args_object_init_2 o _) F.entry_enumerate_new (mk_enumT l items n dc sl) ⟨hl, ?_⟩
  have z1 : (s.heap.push { cls := .type "tuple_iterator", data := .fields #[.ref l, .int 0 0] }).objs.size = s.heap.objs.size + 1 := Heap.size_push ..
  show _ ∧ _
  rw [z1]
  have he : IsEnum ((s.heap.push { cls := .type "tuple_iterator", data := .fields #[.ref l, .int 0 0] }).push { cls := .type "enumerate", data := .fields #[.none, .bool false, .ref s.heap.objs.size, rawInt 0, .none, .none] })
      (s.heap.objs.size + 1) s.heap.objs.size 0 .none := by
    have q := Heap.get?_push_size (s.heap.push { cls := .type "tuple_iterator", data := .fields #[.ref l, .int 0 0] }) (o := { cls := .type "enumerate", data := .fields #[.none, .bool false, .ref s.heap.objs.size, rawInt 0, .none, .none] }) rfl
    rw [z1] at q
    exact q
  refine ⟨⟨_, he, rfl⟩, h _ he ⟨{ cls := .type "tuple_iterator", data := .fields #[.ref l, .int 0 0] }, Heap.get?_push_of_some _ (Heap.get?_push_size _ rfl), rfl, rfl⟩ fun b o x => Heap.get?_push_of_some _ (Heap.get?_push_of_some _ x)⟩
end
/-- the tuple at a, each item in a new pair -/
def IteT (K : PySem.W.Frag) (a : Addr) : It :=
  ⟨fun i H => ∃ (xs : List V) (x : V), SqT K H a xs ∧ xs[i]? = some x,
   fun i H v H' => ∃ T x, v = .ref T ∧ H T = none ∧ H' = upd H T (.tup [.int (i : Nat), x]) ∧ ∀ xs, SqT K H a xs → xs[i]? = some x,
   fun i H => ∃ xs : List V, SqT K H a xs ∧ xs.length = i⟩
theorem turn_enumT {P : Program} {w : World} {K : PySem.W.Frag} {elts : List Expr} {kk : Nat} {tpos : Pos} (a e it : Addr) :
    Turn P w K (.Tuple elts kk tpos) (IteT K a) [e, it] e (fun i h => (∃ old, IsEnum h e it ((i : Nat) : Int) old) ∧ h.IsTupleIter it a i ∧ e ≠ it ∧ a ≠ it ∧ a ≠ e) where
  mem := by simp
  obj := fun i h st b hb => by
    obtain ⟨⟨old, he⟩, ⟨o, ho, hc, hd⟩, _⟩ := st
    have e' : b = e ∨ b = it := by simpa using hb
    rcases e' with z | z
    · rw [z]
      exact ⟨_, he, fun v q => nomatch q⟩
    · rw [z]
      exact ⟨o, ho, fun v q => by rw [hd] at q; cases q⟩
  keep := fun i h h' st k => let ⟨⟨old, he⟩, hi, ne⟩ := st; ⟨⟨old, k e (by simp) _ he⟩, hi.at fun o q => k it (by simp) o q, ne⟩
  item := by
    intro X hP hw hK hc i pins s σ H E I hf st hg
    subst hP hw hK
    obtain ⟨⟨old, he⟩, hit, ne, ne1, ne2⟩ := st
    obtain ⟨xs, x, hq, hx⟩ := hg
    obtain ⟨its, rv, p, hz⟩ := I.tuple hq
    obtain ⟨u, hu, ru⟩ := rv.get hx
    have hel : e < s.heap.objs.size := Heap.lt_size he
    have hil : it < s.heap.objs.size := by obtain ⟨_, q, _⟩ := hit; exact Heap.lt_size q
    have hlt : i < its.toArray.size := by
      rw [List.size_toArray]
      exact (List.getElem?_eq_some_iff.mp hu).1
    have ha : X.A.in1.handled = none := I.ok.hd hc
    refine wpAny_pyNext_enum_itemD (Draws.tuple ha it a ne1 its.toArray) he ⟨hit, p⟩ hlt ne (by simp [ne, Ne.symm ne2]) fun y h' tk hy ho hst hT hsz hk => ?_
    have ey : y = u := by
      have z : its.toArray[i]? = some u := by simpa using hu
      rw [z] at hy
      exact (Option.some.inj hy).symm
    subst ey
    refine ⟨_, rfl, wpAny_letOwnedTupleGo_enum (s := { s with heap := h', toks := tk + 1 }) ho fun h'' he' sb => ?_⟩
    have hT2 : h''.get? s.heap.objs.size = some { cls := .type "tuple", data := .seq #[.int i tk, y] } := (sb.2 _ (Nat.ne_of_gt hel)).trans hT
    have new : ObjOk X.prog X.w (upd H s.heap.objs.size (.tup [.int (i : Nat), x])) h'' s.heap.objs.size (.tup [.int (i : Nat), x]) :=
      ⟨by show 2 ≤ sizeLine; decide, [.int i tk, y], .cons ⟨_, rfl⟩ (.cons ru .nil), ⟨_, hT2, rfl, _, rfl⟩⟩
    have I1 : Inv X pins σ (upd H s.heap.objs.size (.tup [.int (i : Nat), x])) { s with heap := h'', toks := tk + 1 } :=
      I.turnedNew (ch := [e, it]) (fun b ob hb q => (sb.2 b (fun z => hb (by simp [z]))).trans (hk b ob (fun z => hb (by simp [z])) (fun z => hb (by simp [z])) q)) hf (Nat.le_refl _) new
    refine ⟨.ref s.heap.objs.size, _, I1, rfl, ⟨_, x, rfl, I.hok.fresh (Nat.le_refl _), rfl, fun ys hy => by rw [I.tuple_inj hy hq]; exact hx⟩, ⟨⟨y, ?_⟩, hst.1.at fun o q => (sb.2 it (Ne.symm ne)).trans q, ne, ne1, ne2⟩, fun b hb => ?_⟩
    · have e1 : ((i + 1 : Nat) : Int) = (i : Int) + 1 := by omega
      rw [e1]
      exact he'
    · have hb' : b < s.heap.objs.size := by
        have e' : b = e ∨ b = it := by simpa using hb
        rcases e' with z | z
        · rw [z]
          exact hel
        · rw [z]
          exact hil
      rw [upd_ne (Nat.ne_of_lt hb')]
      exact (hf b hb).1
  done := by
    intro X hP hw hK hc i pins s σ H E I hf st hg
    subst hP hw hK
    obtain ⟨⟨old, he⟩, hit, ne, ne1, ne2⟩ := st
    obtain ⟨xs, hq, hx⟩ := hg
    obtain ⟨its, rv, p, hz⟩ := I.tuple hq
    obtain ⟨f0, f1, f2, f3, f4, f5⟩ := hf it (by simp)
    have hl := rv.length
    have ha : X.A.in1.handled = none := I.ok.hd hc
    have es : i = its.toArray.size := by
      rw [List.size_toArray]
      omega
    subst es
    exact wpAny_pyNext_enum_endD (Draws.tuple ha it a ne1 its.toArray) he ⟨hit, p⟩ fun h' eb => ⟨rfl, I.turned (t' := s.toks) (fun b o hb q => eb b o hb q) f0 f1 f3 f4 f5⟩
  self := fun A i s Q E st h => let ⟨⟨_, he⟩, _⟩ := st; wpAny_pyIter_enum he h
/-- enumerate of a list or a tuple -/
def iEnuA (K : PySem.W.Frag) (ta : TA) : TI := fun σ H R => ta σ H fun vs H1 => ∃ a xs, vs = [.ref a] ∧ ((SqL K H1 a xs ∧ R (Ite K a) H1) ∨ (SqT K H1 a xs ∧ R (IteT K a) H1))
theorem pi_enumA {X : Cx} {e : Expr} {ta : TA} {p pos tpos : Pos} {elts : List Expr} {kk : Nat} (hg : Gl X "enumerate") (hm : X.mg "enumerate" = none) (ha : PA X [e] ta) (hs : starEach [e] X.env = [(false, eval e X.env)]) :
    PI X (.Tuple elts kk tpos) (.Call (.Name "enumerate" p) [e] [] pos) (iEnuA X.K ta) := by
  refine ⟨fun pins s σ H R I h => ?_⟩
  refine Call_ (ld_blt I hg hm boot_enumerate (PyProof.Rows.callWith_type1 (thn (ha.run pos pins s σ H _ I h) fun us s1 ⟨vs, H1, I1, r1, q1⟩ => ?_) hs rfl))
  obtain ⟨a, xs, ex, q⟩ := q1
  subst ex
  cases r1 with
  | cons r rr =>
    cases rr
    cases r
    have fp : ∀ b ∈ [s1.heap.objs.size + 1, s1.heap.objs.size], FpOk X pins H1 b := fun b hb => by
      have e' : b = s1.heap.objs.size + 1 ∨ b = s1.heap.objs.size := by simpa using hb
      have hle : s1.heap.objs.size ≤ b := by
        rcases e' with z | z
        · rw [z]
          exact Nat.le_add_right _ _
        · rw [z]
          exact Nat.le_refl _
      exact I1.fpOk hle (I1.hok.fresh hle)
    rcases q with ⟨hq, q⟩ | ⟨hq, q⟩
    · obtain ⟨its, rv, p', hz⟩ := I1.list hq
      refine call_enumerate_list p'.isList fun h' he hit hsz hk => wpAny_pyIter_enum he ?_
      have I2 : Inv X pins σ H1 { s1 with heap := h' } := I1.kept (t' := s1.toks) hk
      exact ⟨s1.heap.objs.size + 1, [s1.heap.objs.size + 1, s1.heap.objs.size], _, _, H1, rfl, I2, turn_enum a (s1.heap.objs.size + 1) s1.heap.objs.size, ⟨⟨.none, he⟩, hit, Nat.succ_ne_self _⟩, fp, q⟩
    · obtain ⟨its, rv, p', hz⟩ := I1.tuple hq
      have lt := p'.lt
      refine call_enumT p' fun h' he hit hk => wpAny_pyIter_enum he ?_
      have I2 : Inv X pins σ H1 { s1 with heap := h' } := I1.kept (t' := s1.toks) hk
      exact ⟨s1.heap.objs.size + 1, [s1.heap.objs.size + 1, s1.heap.objs.size], _, _, H1, rfl, I2, turn_enumT a (s1.heap.objs.size + 1) s1.heap.objs.size, ⟨⟨.none, he⟩, hit, Nat.succ_ne_self _, Nat.ne_of_lt lt, Nat.ne_of_lt (Nat.lt_succ_of_lt lt)⟩, fp, q⟩
theorem walk_enumT {K : PySem.W.Frag} {a : Addr} {xs : List V} : Walk (IteT K a) xs.length (fun H => SqT K H a xs) (YPair (fun i => some (.int (i : Nat))) (fun i => xs[i]?)) := by
  refine ⟨fun i _ hi q => ⟨xs, xs[i], q, by simp [hi]⟩, fun _ q => ⟨xs, q, rfl⟩, fun i H v H' _ q y => ?_⟩
  obtain ⟨T, x, h1, h2, h3, h4⟩ := y
  exact ⟨T, .int (i : Nat), x, h1, h2, h3, rfl, h4 xs q⟩
end En
/-! En6: expressions. -/
namespace En
open PySem L2 PyProof.Rows
/-- what a context must bear -/
structure Bs (X : Cx) (G : Cfg) : Prop where
  K : X.K = G.K
  un : X.A.units + 64 < cLine
  calm : X.calm = true
  nd : X.N.Nodup
section
variable {X : Cx} {G : Cfg} {C : Call} {W : WX}
theorem fin.ext {H H1 : Hp} {Q : VK} {x : Rv} (e : ExN H H1) (z : fin G H Q x) : fin G H1 Q x := fun v H' rr x2 t => z v H' (rr.back e) (e.trans x2) t
theorem finB.ext {H H1 : Hp} {Q : VK} {x : Bool} (e : ExN H H1) (z : finB G H Q x) : finB G H1 Q x := fun H' x2 t => z H' (e.trans x2) t
section
variable (hB : G.B.Mono) (hC : MonoC C)
include hB hC
theorem s_bind {a : Ex} {σ : St} {H0 H : Hp} {Q : VK} {r : Env} {F : D → Prop} (re : RE G.K H r σ) (tb : Tb G H) (x0 : ExN H0 H) (z : evS G.B C a r F (exq G W σ H0))
    (k : ∀ d v H1, RB G.K H1 d v → ExN H H1 → Tb G H1 → F d → Q v H1) : rdS G C W a σ H Q :=
  ⟨r, re, tb, (evP_mono hB hC a r).S _ _ _ _ (fun d f v H1 rb x t => k d v H1 rb x t f) (fun c ds z => exq.ext x0 c ds z) z⟩
theorem r_bind {a : Ex} {σ : St} {H0 H : Hp} {Q : VK} {r : Env} {F : Rv → Prop} (re : RE G.K H r σ) (tb : Tb G H) (x0 : ExN H0 H) (z : evR G.B C a r F (exq G W σ H0))
    (k : ∀ d v H1, RR G.K H H1 d v → ExN H H1 → Tb G H1 → F d → Q v H1) : rdR G C W a σ H Q :=
  ⟨r, re, tb, (evP_mono hB hC a r).R _ _ _ _ (fun d f v H1 rb x t => k d v H1 rb x t f) (fun c ds z => exq.ext x0 c ds z) z⟩
theorem v_bind {a : Ex} {σ : St} {H0 H : Hp} {Q : VK} {r : Env} {F : Rv → Prop} (re : RE G.K H r σ) (tb : Tb G H) (x0 : ExN H0 H) (z : evR G.B C a r F (exq G W σ H0))
    (k : ∀ (d : Rv) v H1, RD G.K H1 d.d v → ExN H H1 → Tb G H1 → F d → Q v H1) : rdV G C W a σ H Q :=
  ⟨r, re, tb, (evP_mono hB hC a r).R _ _ _ _ (fun d f v H1 rb x t => k d v H1 rb x t f) (fun c ds z => exq.ext x0 c ds z) z⟩
theorem t_bind {a : Ex} {σ : St} {H0 H : Hp} {Q : Bool → Hp → Prop} {r : Env} {F : Bool → Prop} (re : RE G.K H r σ) (tb : Tb G H) (x0 : ExN H0 H) (z : evT G.B C a r F (exq G W σ H0))
    (k : ∀ b H1, ExN H H1 → Tb G H1 → F b → Q b H1) : rdT G C W a σ H Q :=
  ⟨r, re, tb, (evP_mono hB hC a r).T _ _ _ _ (fun d f H1 x t => k d H1 x t f) (fun c ds z => exq.ext x0 c ds z) z⟩
theorem a_bind {a : Exs} {σ : St} {H0 H : Hp} {Q : List V → Hp → Prop} {r : Env} {F : List D → Prop} (re : RE G.K H r σ) (tb : Tb G H) (x0 : ExN H0 H) (z : (evAs G.B C a r).R F (exq G W σ H0))
    (k : ∀ ds vs H1, RDs G.K H1 ds vs → ExN H H1 → Tb G H1 → F ds → Q vs H1) : rdA G C W a σ H Q :=
  ⟨r, re, tb, (evAs_mono hB hC a r).R _ _ _ _ (fun d f v H1 rb x t => k d v H1 rb x t f) (fun c ds z => exq.ext x0 c ds z) z⟩
theorem as_bind {a : Exs} {σ : St} {H0 H : Hp} {Q : List V → Hp → Prop} {r : Env} {F : List D → Prop} (re : RE G.K H r σ) (tb : Tb G H) (x0 : ExN H0 H) (z : (evAs G.B C a r).S F (exq G W σ H0))
    (k : ∀ ds vs H1, RBs G.K H1 ds vs → ExN H H1 → Tb G H1 → F ds → Q vs H1) : rdAS G C W a σ H Q :=
  ⟨r, re, tb, (evAs_mono hB hC a r).S _ _ _ _ (fun d f v H1 rb x t => k d v H1 rb x t f) (fun c ds z => exq.ext x0 c ds z) z⟩
end
/-! ### names and constants -/
theorem p_con {e : Expr} {v : V} {d : D} (h : PE X e (tC v)) (hd : ∀ H, RD G.K H d v) : PE X e (rdR G C W (.con d)) := by
  refine PE.imp h fun σ H Q ⟨r, re, tb, z⟩ => ?_
  exact (show ∀ v H', RR G.K H H' (.v d) v → ExN H H' → Tb G H' → Q v H' from z) v H (hd H) (LamX.ExtN.refl H) tb
theorem p_glo {e : Expr} {v : V} {d : D} (h : PE X e (tC v)) (hd : ∀ H, RD G.K H d v) : PE X e (rdR G C W (.glo d)) := by
  refine PE.imp h fun σ H Q ⟨r, re, tb, z⟩ => ?_
  exact (show ∀ v H', RR G.K H H' (.v d) v → ExN H H' → Tb G H' → Q v H' from z) v H (hd H) (LamX.ExtN.refl H) tb
theorem p_var {e : Expr} {i : Nat} (h : PE X e (tVar i)) : PE X e (rdR G C W (.var i)) := by
  refine PE.imp h fun σ H Q ⟨r, re, tb, z⟩ => ?_
  obtain ⟨d, e1, z⟩ := (show varW i r fun d => ∀ v H', RR G.K H H' (.v d) v → ExN H H' → Tb G H' → Q v H' from z)
  obtain ⟨v, e2, q⟩ := re.at_ i _ e1
  exact ⟨v, e2, z v H q (LamX.ExtN.refl H) tb⟩
theorem p_varS {e : Expr} {i : Nat} (h : PE X e (tVar i)) : PE X e (rdS G C W (.var i)) := by
  refine PE.imp h fun σ H Q ⟨r, re, tb, z⟩ => ?_
  rcases (show barW i r fun d => ∀ v H', RB G.K H' d v → ExN H H' → Tb G H' → Q v H' from z) with ⟨d, e1, z⟩ | ⟨d, t, e1, z⟩
  · obtain ⟨v, e2, q⟩ := re.at_ i _ e1
    exact ⟨v, e2, z v H (.inl q) (LamX.ExtN.refl H) tb⟩
  · obtain ⟨v, e2, p, us, q1, q2, q3, _⟩ := re.at_ i _ e1
    exact ⟨v, e2, z v H (.inr ⟨_, p, us, rfl, q1, q2, q3⟩) (LamX.ExtN.refl H) tb⟩
/-! ### operators -/
section
variable (hB : G.B.Mono) (hC : MonoC C)
include hB hC
theorem p_bin {a b : Expr} {ia ib : Ex} {op : Operator} {pos : Pos} (hK : X.K = G.K) (ha : PE X a (rdS G C W ia)) (hb : PE X b (rdS G C W ib)) : PE X (.BinOp a op b pos) (rdR G C W (.bin op ia ib)) := by
  refine PE.imp (pe_op (op_bin hK op) ha hb) fun σ H Q ⟨r, re, tb, z⟩ => ?_
  refine s_bind hB hC re tb (LamX.ExtN.refl H) z fun dx x H1 rx x1 t1 z1 => ?_
  refine s_bind hB hC (re.ext x1) t1 x1 z1 fun dy y H2 ry x2 t2 z2 => ?_
  exact ⟨dx, dy, rx.ext x2, ry, t2, binW_mono (fun rv f => fin.ext (x1.trans x2) f) z2⟩
theorem p_neg {a : Expr} {ia : Ex} {pos : Pos} (ha : PE X a (rdS G C W ia)) : PE X (.UnaryOp .USub a pos) (rdR G C W (.neg ia)) := by
  refine PE.imp (pe_un (un_negD (G := G)) ha) fun σ H Q ⟨r, re, tb, z⟩ => ?_
  refine s_bind hB hC re tb (LamX.ExtN.refl H) z fun dx x H1 rx x1 t1 z1 => ?_
  exact ⟨dx, rx, t1, negW_mono (fun rv f => fin.ext x1 f) z1⟩
theorem p_cmp {a b : Expr} {ia ib : Ex} {op : CmpOp} {pos : Pos} (hX : Bs X G) (ho : EqoOk X G C) (ha : PE X a (rdS G C W ia)) (hb : PE X b (rdS G C W ib)) (hm : behindInMarks op b = false) : PE X (.Compare a [op] [b] pos) (rdR G C W (.cmp op ia ib)) := by
  refine PE.imp (pe_cmpR (op_cmp hX.K hX.un ho op) ha hb hm) fun σ H Q ⟨r, re, tb, z⟩ => ?_
  refine s_bind hB hC re tb (LamX.ExtN.refl H) z fun dx x H1 rx x1 t1 z1 => ?_
  refine s_bind hB hC (re.ext x1) t1 x1 z1 fun dy y H2 ry x2 t2 z2 => ?_
  exact ⟨dx, dy, rx.ext x2, ry, t2, cmpW_mono hC (fun b f H' x3 t3 => f _ _ (.bl b) ((x1.trans x2).trans x3) t3) z2⟩
theorem t_cmp {a b : Expr} {ia ib : Ex} {op : CmpOp} {pos : Pos} (hX : Bs X G) (ho : EqoOk X G C) (ha : PE X a (rdS G C W ia)) (hb : PE X b (rdS G C W ib)) (hm : behindInMarks op b = false) : PT X (.Compare a [op] [b] pos) (rdT G C W (.cmp op ia ib)) := by
  refine PT.imp (pt_cmpR (op_cmp hX.K hX.un ho op) ha hb hm) fun σ H Q ⟨r, re, tb, z⟩ => ?_
  refine s_bind hB hC re tb (LamX.ExtN.refl H) z fun dx x H1 rx x1 t1 z1 => ?_
  refine s_bind hB hC (re.ext x1) t1 x1 z1 fun dy y H2 ry x2 t2 z2 => ?_
  exact ⟨dx, dy, rx.ext x2, ry, t2, cmpW_mono hC (fun b f H' x3 t3 => ⟨b, rfl, f _ ((x1.trans x2).trans x3) t3⟩) z2⟩
theorem p_cmo {a b : Expr} {ia ib : Ex} {n : Bool} {pos : Pos} (ho : EqoOk X G C) (ha : PE X a (rdV G C W ia)) (hb : PE X b (rdV G C W ib)) (hm : behindInMarks (opE n) b = false) : PE X (.Compare a [opE n] [b] pos) (rdR G C W (.cmo n ia ib)) := by
  refine PE.imp (pe_cmpR (ho.oeq n) ha hb hm) fun σ H Q ⟨r, re, tb, z⟩ => ?_
  refine v_bind hB hC re tb (LamX.ExtN.refl H) z fun dx x H1 rx x1 t1 z1 => ?_
  refine v_bind hB hC (re.ext x1) t1 x1 z1 fun dy y H2 ry x2 t2 z2 => ?_
  exact ⟨dx.d, dy.d, rx.stb (ExN.stb x2), ry, t2, eqOb_mono hC (fun b f H' x3 t3 => f _ _ (.bl _) ((x1.trans x2).trans x3) t3) z2⟩
theorem t_cmo {a b : Expr} {ia ib : Ex} {n : Bool} {pos : Pos} (ho : EqoOk X G C) (ha : PE X a (rdV G C W ia)) (hb : PE X b (rdV G C W ib)) (hm : behindInMarks (opE n) b = false) : PT X (.Compare a [opE n] [b] pos) (rdT G C W (.cmo n ia ib)) := by
  refine PT.imp (pt_cmpR (ho.oeq n) ha hb hm) fun σ H Q ⟨r, re, tb, z⟩ => ?_
  refine v_bind hB hC re tb (LamX.ExtN.refl H) z fun dx x H1 rx x1 t1 z1 => ?_
  refine v_bind hB hC (re.ext x1) t1 x1 z1 fun dy y H2 ry x2 t2 z2 => ?_
  exact ⟨dx.d, dy.d, rx.stb (ExN.stb x2), ry, t2, eqOb_mono hC (fun b f H' x3 t3 => ⟨_, rfl, f _ ((x1.trans x2).trans x3) t3⟩) z2⟩
theorem p_cmi {a b : Expr} {ia ib : Ex} {n : Bool} {pos : Pos} (ho : EqoOk X G C) (ha : PE X a (rdV G C W ia)) (hb : PE X b (rdS G C W ib)) (hm : behindInMarks (opI n) b = false) : PE X (.Compare a [opI n] [b] pos) (rdR G C W (.cmi n ia ib)) := by
  refine PE.imp (pe_cmpR (ho.oin n) ha hb hm) fun σ H Q ⟨r, re, tb, z⟩ => ?_
  refine v_bind hB hC re tb (LamX.ExtN.refl H) z fun dx x H1 rx x1 t1 z1 => ?_
  refine s_bind hB hC (re.ext x1) t1 x1 z1 fun dy y H2 ry x2 t2 z2 => ?_
  exact ⟨dx.d, dy, rx.stb (ExN.stb x2), ry, t2, inO_mono hC (fun b f H' x3 t3 => f _ _ (.bl _) ((x1.trans x2).trans x3) t3) z2⟩
theorem t_cmi {a b : Expr} {ia ib : Ex} {n : Bool} {pos : Pos} (ho : EqoOk X G C) (ha : PE X a (rdV G C W ia)) (hb : PE X b (rdS G C W ib)) (hm : behindInMarks (opI n) b = false) : PT X (.Compare a [opI n] [b] pos) (rdT G C W (.cmi n ia ib)) := by
  refine PT.imp (pt_cmpR (ho.oin n) ha hb hm) fun σ H Q ⟨r, re, tb, z⟩ => ?_
  refine v_bind hB hC re tb (LamX.ExtN.refl H) z fun dx x H1 rx x1 t1 z1 => ?_
  refine s_bind hB hC (re.ext x1) t1 x1 z1 fun dy y H2 ry x2 t2 z2 => ?_
  exact ⟨dx.d, dy, rx.stb (ExN.stb x2), ry, t2, inO_mono hC (fun b f H' x3 t3 => ⟨_, rfl, f _ ((x1.trans x2).trans x3) t3⟩) z2⟩
theorem p_chn {a b c : Expr} {ia ib ic : Ex} {o p : CmpOp} {pos : Pos} (hX : Bs X G) (ho : EqoOk X G C) (ha : PE X a (rdS G C W ia)) (hb : PE X b (rdS G C W ib)) (hc : PE X c (rdS G C W ic)) (hm : lastMarks [o, p] [b, c] = false) : PE X (.Compare a [o, p] [b, c] pos) (rdR G C W (.chn o p ia ib ic)) := by
  refine PE.imp (pe_chain (op_cmp hX.K hX.un ho o) (op_cmp hX.K hX.un ho p) ha hb hc hm) fun σ H Q ⟨r, re, tb, z⟩ => ?_
  refine s_bind hB hC re tb (LamX.ExtN.refl H) z fun dx x H1 rx x1 t1 z1 => ?_
  refine s_bind hB hC (re.ext x1) t1 x1 z1 fun dy y H2 ry x2 t2 z2 => ?_
  refine ⟨dx, dy, rx.ext x2, ry, t2, cmpW_mono hC (fun k f H3 x3 t3 => ⟨k, rfl, ?_⟩) z2⟩
  cases k with
  | false => exact f _ _ (.bl false) ((x1.trans x2).trans x3) t3
  | true =>
    refine s_bind hB hC (re.ext ((x1.trans x2).trans x3)) t3 ((x1.trans x2).trans x3) f fun dz w H4 rz x4 t4 z4 => ?_
    exact ⟨dy, dz, ry.ext (x3.trans x4), rz, t4, cmpW_mono hC (fun b f H' x5 t5 => f _ _ (.bl b) ((((x1.trans x2).trans x3).trans x4).trans x5) t5) z4⟩
theorem t_chn {a b c : Expr} {ia ib ic : Ex} {o p : CmpOp} {pos : Pos} (hX : Bs X G) (ho : EqoOk X G C) (ha : PE X a (rdS G C W ia)) (hb : PE X b (rdS G C W ib)) (hc : PE X c (rdS G C W ic)) (hm : lastMarks [o, p] [b, c] = false) : PT X (.Compare a [o, p] [b, c] pos) (rdT G C W (.chn o p ia ib ic)) := by
  refine PT.imp (pt_chain (op_cmp hX.K hX.un ho o) (op_cmp hX.K hX.un ho p) ha hb hc hm) fun σ H Q ⟨r, re, tb, z⟩ => ?_
  refine s_bind hB hC re tb (LamX.ExtN.refl H) z fun dx x H1 rx x1 t1 z1 => ?_
  refine s_bind hB hC (re.ext x1) t1 x1 z1 fun dy y H2 ry x2 t2 z2 => ?_
  refine ⟨dx, dy, rx.ext x2, ry, t2, cmpW_mono hC (fun k f H3 x3 t3 => ⟨k, rfl, ?_⟩) z2⟩
  cases k with
  | false => exact ⟨false, rfl, f _ ((x1.trans x2).trans x3) t3⟩
  | true =>
    refine s_bind hB hC (re.ext ((x1.trans x2).trans x3)) t3 ((x1.trans x2).trans x3) f fun dz w H4 rz x4 t4 z4 => ?_
    exact ⟨dy, dz, ry.ext (x3.trans x4), rz, t4, cmpW_mono hC (fun b f H' x5 t5 => ⟨b, rfl, f _ ((((x1.trans x2).trans x3).trans x4).trans x5) t5⟩) z4⟩
/-! ### and, or, not, if -/
theorem p_not {a : Expr} {ia : Ex} {pos : Pos} (hK : X.K = G.K) (ha : PE X a (rdS G C W ia)) : PE X (.UnaryOp .Not a pos) (rdR G C W (.not ia)) := by
  refine ⟨fun pins s σ H Q I ⟨r, re, tb, z⟩ => ?_⟩
  refine UnaryOp_ (thn (ha.run pins s σ H (fun v H1 => ∃ dx, RB G.K H1 dx v ∧ Tb G H1 ∧ truW dx fun b => ∀ H', ExN H1 H' → Tb G H' → Q (.bl (!b)) H') I ?_) fun v s1 ⟨x, H1, I1, r1, q1⟩ => ?_)
  · exact s_bind hB hC re tb (LamX.ExtN.refl H) z fun dx x H1 rx x1 t1 z1 => ⟨dx, rx, t1, truW_mono (fun b f H' x2 t2 => f _ H' (.bl _) (x1.trans x2) t2) z1⟩
  · refine not_of (thn (tru_D hK pins s1 σ H1 x v (fun b H' => Q (.bl (!b)) H') I1 r1 q1) fun b s2 ⟨H2, I2, q2⟩ => ?_)
    exact ⟨.bl (!b), H2, I2, rfl, q2⟩
theorem t_not {a : Expr} {ia : Ex} {pos : Pos} (ha : PT X a (rdT G C W ia)) : PT X (.UnaryOp .Not a pos) (rdT G C W (.not ia)) := by
  refine PT.imp (pt_not ha) fun σ H Q ⟨r, re, tb, z⟩ => ?_
  exact t_bind hB hC re tb (LamX.ExtN.refl H) z fun b H1 x1 t1 z1 => z1 _ x1 t1
theorem p_and {a b : Expr} {rest : List Expr} {ia ib : Ex} {pos : Pos} (ha : PE X a (rdS G C W ia)) (hb : PE X (.BoolOp .And (b :: rest) pos) (rdR G C W ib)) : PE X (.BoolOp .And (a :: b :: rest) pos) (rdR G C W (.and ia ib)) := by
  refine PE.imp (pe_and ha hb) fun σ H Q ⟨r, re, tb, z⟩ => ?_
  refine s_bind hB hC re tb (LamX.ExtN.refl H) z fun d v H1 rx x1 t1 ⟨c, e, z1⟩ => ?_
  subst e
  refine ⟨c, rx.bl, ?_⟩
  cases c with
  | true => exact r_bind hB hC (re.ext x1) t1 x1 z1 fun d v H2 rr x2 t2 f => f v H2 (rr.back x1) (x1.trans x2) t2
  | false => exact z1 _ _ (.bl false) x1 t1
theorem p_or {a b : Expr} {rest : List Expr} {ia ib : Ex} {pos : Pos} (ha : PE X a (rdS G C W ia)) (hb : PE X (.BoolOp .Or (b :: rest) pos) (rdR G C W ib)) : PE X (.BoolOp .Or (a :: b :: rest) pos) (rdR G C W (.or ia ib)) := by
  refine PE.imp (pe_or ha hb) fun σ H Q ⟨r, re, tb, z⟩ => ?_
  refine s_bind hB hC re tb (LamX.ExtN.refl H) z fun d v H1 rx x1 t1 ⟨c, e, z1⟩ => ?_
  subst e
  refine ⟨c, rx.bl, ?_⟩
  cases c with
  | false => exact r_bind hB hC (re.ext x1) t1 x1 z1 fun d v H2 rr x2 t2 f => f v H2 (rr.back x1) (x1.trans x2) t2
  | true => exact z1 _ _ (.bl true) x1 t1
theorem w_and {a b : Expr} {rest : List Expr} {ia ib : Ex} {pos : Pos} (ha : PT X a (rdT G C W ia)) (hb : PW X (.BoolOp .And (b :: rest) pos) (rdT G C W ib)) : PW X (.BoolOp .And (a :: b :: rest) pos) (rdT G C W (.and ia ib)) := by
  refine PW.imp (pw_and ha hb) fun σ H Q ⟨r, re, tb, z⟩ => ?_
  refine t_bind hB hC re tb (LamX.ExtN.refl H) z fun c H1 x1 t1 z1 => ?_
  cases c with
  | true => exact t_bind hB hC (re.ext x1) t1 x1 z1 fun c H2 x2 t2 f => f H2 (x1.trans x2) t2
  | false => exact z1 _ x1 t1
theorem w_or {a b : Expr} {rest : List Expr} {ia ib : Ex} {pos : Pos} (ha : PT X a (rdT G C W ia)) (hb : PW X (.BoolOp .Or (b :: rest) pos) (rdT G C W ib)) : PW X (.BoolOp .Or (a :: b :: rest) pos) (rdT G C W (.or ia ib)) := by
  refine PW.imp (pw_or ha hb) fun σ H Q ⟨r, re, tb, z⟩ => ?_
  refine t_bind hB hC re tb (LamX.ExtN.refl H) z fun c H1 x1 t1 z1 => ?_
  cases c with
  | false => exact t_bind hB hC (re.ext x1) t1 x1 z1 fun c H2 x2 t2 f => f H2 (x1.trans x2) t2
  | true => exact z1 _ x1 t1
theorem p_ite {t a b : Expr} {it ia ib : Ex} {pos : Pos} (ht : PT X t (rdT G C W it)) (ha : PE X a (rdR G C W ia)) (hb : PE X b (rdR G C W ib)) : PE X (.IfExp t a b pos) (rdR G C W (.ite it ia ib)) := by
  refine PE.imp (pe_ifExp ht ha hb) fun σ H Q ⟨r, re, tb, z⟩ => ?_
  refine t_bind hB hC re tb (LamX.ExtN.refl H) z fun c H1 x1 t1 z1 => ?_
  cases c with
  | true => exact r_bind hB hC (re.ext x1) t1 x1 z1 fun d v H2 rr x2 t2 f => f v H2 (rr.back x1) (x1.trans x2) t2
  | false => exact r_bind hB hC (re.ext x1) t1 x1 z1 fun d v H2 rr x2 t2 f => f v H2 (rr.back x1) (x1.trans x2) t2
/-- a datum's truth as a test -/
theorem t_val {a : Expr} {ia : Ex} (hK : X.K = G.K) (hT : ∀ r Q E, evT G.B C ia r Q E = evS G.B C ia r (fun x => truW x Q) E) (ha : PE X a (rdS G C W ia)) (he : ∀ whole, isTrue a X.env whole = (do let v ← whole; standAt a.pos; holding [v] (truthy v))) : PT X a (rdT G C W ia) := by
  refine ⟨fun pins s σ H Q I ⟨r, re, tb, z⟩ => ?_⟩
  rw [hT] at z
  refine isTrue_plain (thn (ha.run pins s σ H (fun v H1 => ∃ dx, RB G.K H1 dx v ∧ Tb G H1 ∧ truW dx fun b => ∀ H', ExN H1 H' → Tb G H' → Q b H') I ?_) fun v s1 ⟨x, H1, I1, r1, q1⟩ => tru_D hK pins s1 σ H1 x v Q I1 r1 q1) (he _)
  exact s_bind hB hC re tb (LamX.ExtN.refl H) z fun dx x H1 rx x1 t1 z1 => ⟨dx, rx, t1, truW_mono (fun b f H' x2 t2 => f H' (x1.trans x2) t2) z1⟩
/-! ### items, slices -/
theorem p_idx {a b : Expr} {ia ib : Ex} {pos : Pos} (hK : X.K = G.K) (ha : PE X a (rdS G C W ia)) (hb : PE X b (rdS G C W ib)) (hs : PlainIx b) : PE X (.Subscript a b pos) (rdR G C W (.idx ia ib)) := by
  refine PE.imp (pe_ix (ix_D hK) ha hb hs) fun σ H Q ⟨r, re, tb, z⟩ => ?_
  refine s_bind hB hC re tb (LamX.ExtN.refl H) z fun dx x H1 rx x1 t1 z1 => ?_
  refine s_bind hB hC (re.ext x1) t1 x1 z1 fun dy y H2 ry x2 t2 z2 => ?_
  exact ⟨dx, dy, rx.ext x2, ry, t2, idxW_mono (fun rv f => fin.ext (x1.trans x2) f) z2⟩
/-- a part of a slice -/
def rdO (G : Cfg) (C : Call) (W : WX) (e : Exo) : TO := fun σ H Q => ∃ r, RE G.K H r σ ∧ Tb G H ∧ evO G.B C e r (fun o => ∀ H', ExN H H' → Tb G H' → Q o H') (exq G W σ H)
theorem o_bind {a : Exo} {σ : St} {H0 H : Hp} {Q : Option Int → Hp → Prop} {r : Env} {F : Option Int → Prop} (re : RE G.K H r σ) (tb : Tb G H) (x0 : ExN H0 H) (z : evO G.B C a r F (exq G W σ H0))
    (k : ∀ o H1, ExN H H1 → Tb G H1 → F o → Q o H1) : rdO G C W a σ H Q :=
  ⟨r, re, tb, evO_mono hB hC a r _ _ _ _ (fun d f H1 x t => k d H1 x t f) (fun c ds z => exq.ext x0 c ds z) z⟩
omit hB hC in
theorem PO.imp {e : Option Expr} {t t' : TO} (h : PO X e t) (w : ∀ σ H Q, t' σ H Q → t σ H Q) : PO X e t' := ⟨fun pins s σ H Q I q => h.run pins s σ H Q I (w σ H Q q)⟩
omit hB hC in
theorem o_no : PO X none (rdO G C W .no) := PO.imp po_none fun σ H Q ⟨r, re, tb, z⟩ => by
  unfold evO at z
  exact z H (LamX.ExtN.refl H) tb
theorem o_so {e : Expr} {i : Ex} (h : PE X e (rdS G C W i)) : PO X (some e) (rdO G C W (.so i)) := PO.imp (po_some h) fun σ H Q ⟨r, re, tb, z⟩ => by
  unfold evO at z
  refine s_bind hB hC re tb (LamX.ExtN.refl H) z fun dx x H1 rx x1 t1 ⟨i, e, z1⟩ => ?_
  subst e
  exact ⟨i, rx.int, z1 H1 x1 t1⟩
theorem p_slc {a : Expr} {lo hi : Option Expr} {ia : Ex} {il ih : Exo} {pos p2 : Pos} (hK : X.K = G.K) (ha : PE X a (rdS G C W ia)) (hl : PO X lo (rdO G C W il)) (hh : PO X hi (rdO G C W ih)) : PE X (.Subscript a (.Slice lo hi none p2) pos) (rdR G C W (.slc ia il ih)) := by
  refine PE.imp (pe_slice (sl_D hK) ha hl hh) fun σ H Q ⟨r, re, tb, z⟩ => ?_
  refine s_bind hB hC re tb (LamX.ExtN.refl H) z fun dx x H1 rx x1 t1 z1 => ?_
  refine o_bind hB hC (re.ext x1) t1 x1 z1 fun l H2 x2 t2 z2 => ?_
  refine o_bind hB hC (re.ext (x1.trans x2)) t2 (x1.trans x2) z2 fun h H3 x3 t3 z3 => ?_
  exact ⟨dx, rx.ext (x2.trans x3), t3, slcW_mono (fun rv f => fin.ext ((x1.trans x2).trans x3) f) z3⟩
/-! ### arguments and displays -/
omit hB hC in
theorem a_nil : PA X [] (rdA G C W .nil) := PA.imp pa_nil fun σ H Q ⟨r, re, tb, z⟩ => by
  unfold evAs at z
  exact z [] H .nil (LamX.ExtN.refl H) tb
theorem a_cons {e : Expr} {es : List Expr} {i : Ex} {is : Exs} (h : PE X e (rdV G C W i)) (hr : PA X es (rdA G C W is)) (hs : starEach (e :: es) X.env = (false, eval e X.env) :: starEach es X.env) : PA X (e :: es) (rdA G C W (.cons i is)) := by
  refine PA.imp (pa_cons h hr hs) fun σ H Q ⟨r, re, tb, z⟩ => ?_
  unfold evAs at z
  refine v_bind hB hC re tb (LamX.ExtN.refl H) z fun d v H1 rx x1 t1 z1 => ?_
  refine a_bind hB hC (re.ext x1) t1 x1 z1 fun ds vs H2 rs x2 t2 f => ?_
  exact f _ H2 (.cons (rx.stb (ExN.stb x2)) rs) (x1.trans x2) t2
omit hB hC in
theorem as_nil : PA X [] (rdAS G C W .nil) := PA.imp pa_nil fun σ H Q ⟨r, re, tb, z⟩ => by
  unfold evAs at z
  exact z [] H .nil (LamX.ExtN.refl H) tb
theorem as_cons {e : Expr} {es : List Expr} {i : Ex} {is : Exs} (h : PE X e (rdS G C W i)) (hr : PA X es (rdAS G C W is)) (hs : starEach (e :: es) X.env = (false, eval e X.env) :: starEach es X.env) : PA X (e :: es) (rdAS G C W (.cons i is)) := by
  refine PA.imp (pa_cons h hr hs) fun σ H Q ⟨r, re, tb, z⟩ => ?_
  unfold evAs at z
  refine s_bind hB hC re tb (LamX.ExtN.refl H) z fun d v H1 rx x1 t1 z1 => ?_
  refine as_bind hB hC (re.ext x1) t1 x1 z1 fun ds vs H2 rs x2 t2 f => ?_
  exact f _ H2 (.cons (rx.ext x2) rs) (x1.trans x2) t2
theorem p_tup {es : List Expr} {is : Exs} {k : Nat} {pos : Pos} (h : PA X es (rdA G C W is)) : PE X (.Tuple es k pos) (rdR G C W (.tup is)) := by
  refine PE.imp (pe_tup h) fun σ H Q ⟨r, re, tb, z⟩ => ?_
  refine a_bind hB hC re tb (LamX.ExtN.refl H) z fun ds vs H1 rs x1 t1 ⟨l, f⟩ => ?_
  exact ⟨by rw [← rs.length]; exact l, fun p hp => fin_tup t1 (fin.ext x1 f) rs p hp⟩
theorem p_lst {es : List Expr} {is : Exs} {pos : Pos} (h : PA X es (rdA G C W is)) : PE X (.List es pos) (rdR G C W (.lst is)) := by
  refine PE.imp (pe_lst h) fun σ H Q ⟨r, re, tb, z⟩ => ?_
  refine a_bind hB hC re tb (LamX.ExtN.refl H) z fun ds vs H1 rs x1 t1 ⟨l, f⟩ => ?_
  exact ⟨by rw [← rs.length]; exact l, fun p hp => fin_fr t1 (fin.ext x1 f) rs p hp⟩
end
end
end En
namespace En
open PySem L2 PyProof.Rows TL
/-! Ee1: equality of small expressions, decided (constants: flat ones alone). -/
def dEq : D → D → Bool
  | .non, y => match y with
    | .non => true
    | _ => false
  | .bl a0, y => match y with
    | .bl b0 => decide (a0 = b0)
    | _ => false
  | .int a0, y => match y with
    | .int b0 => decide (a0 = b0)
    | _ => false
  | .str a0, y => match y with
    | .str b0 => decide (a0 = b0)
    | _ => false
  | .cls a0, y => match y with
    | .cls b0 => decide (a0 = b0)
    | _ => false
  | .ty a0, y => match y with
    | .ty b0 => decide (a0 = b0)
    | _ => false
  | _, _ => false
theorem dEq_ok : ∀ x y : D, dEq x y = true → x = y
  | .non, y, h => by
    rw [dEq.eq_def] at h
    dsimp only at h
    split at h
    · rfl
    · cases h
  | .bl a0, y, h => by
    rw [dEq.eq_def] at h
    dsimp only at h
    split at h
    · try simp only [Bool.and_eq_true, decide_eq_true_eq, beq_iff_eq] at h
      have h0 := h
      subst h0
      rfl
    · cases h
  | .int a0, y, h => by
    rw [dEq.eq_def] at h
    dsimp only at h
    split at h
    · try simp only [Bool.and_eq_true, decide_eq_true_eq, beq_iff_eq] at h
      have h0 := h
      subst h0
      rfl
    · cases h
  | .str a0, y, h => by
    rw [dEq.eq_def] at h
    dsimp only at h
    split at h
    · try simp only [Bool.and_eq_true, decide_eq_true_eq, beq_iff_eq] at h
      have h0 := h
      subst h0
      rfl
    · cases h
  | .cls a0, y, h => by
    rw [dEq.eq_def] at h
    dsimp only at h
    split at h
    · try simp only [Bool.and_eq_true, decide_eq_true_eq, beq_iff_eq] at h
      have h0 := h
      subst h0
      rfl
    · cases h
  | .ty a0, y, h => by
    rw [dEq.eq_def] at h
    dsimp only at h
    split at h
    · try simp only [Bool.and_eq_true, decide_eq_true_eq, beq_iff_eq] at h
      have h0 := h
      subst h0
      rfl
    · cases h
  | .tup _, y, h => by simp [dEq] at h
  | .lst _, y, h => by simp [dEq] at h
  | .ntp _, y, h => by simp [dEq] at h
  | .er0 _, y, h => by simp [dEq] at h
  | .er1 _ _ _, y, h => by simp [dEq] at h
  | .dic _, y, h => by simp [dEq] at h
  | .obj _ _, y, h => by simp [dEq] at h
  | .exc _ _ _ _, y, h => by simp [dEq] at h
  | .pal _, y, h => by simp [dEq] at h
  | .adr _, y, h => by simp [dEq] at h
mutual
def tgEq : Tg → Tg → Bool
  | .nm a0, y => match y with
    | .nm b0 => decide (a0 = b0)
    | _ => false
  | .tp a0, y => match y with
    | .tp b0 => tgsEq a0 b0
    | _ => false
def tgsEq : Tgs → Tgs → Bool
  | .nil, y => match y with
    | .nil => true
    | _ => false
  | .cons a0 a1, y => match y with
    | .cons b0 b1 => tgEq a0 b0 && tgsEq a1 b1
    | _ => false
end
mutual
theorem tgEq_ok : ∀ x y : Tg, tgEq x y = true → x = y
  | .nm a0, y, h => by
    rw [tgEq.eq_def] at h
    dsimp only at h
    split at h
    · try simp only [Bool.and_eq_true, decide_eq_true_eq, beq_iff_eq] at h
      have h0 := h
      subst h0
      rfl
    · cases h
  | .tp a0, y, h => by
    rw [tgEq.eq_def] at h
    dsimp only at h
    split at h
    · try simp only [Bool.and_eq_true, decide_eq_true_eq, beq_iff_eq] at h
      have h0 := h
      have h0 := tgsEq_ok _ _ h0
      subst h0
      rfl
    · cases h
theorem tgsEq_ok : ∀ x y : Tgs, tgsEq x y = true → x = y
  | .nil, y, h => by
    rw [tgsEq.eq_def] at h
    dsimp only at h
    split at h
    · rfl
    · cases h
  | .cons a0 a1, y, h => by
    rw [tgsEq.eq_def] at h
    dsimp only at h
    split at h
    · try simp only [Bool.and_eq_true, decide_eq_true_eq, beq_iff_eq] at h
      obtain ⟨h0, h1⟩ := h
      have h0 := tgEq_ok _ _ h0
      have h1 := tgsEq_ok _ _ h1
      subst h0 h1
      rfl
    · cases h
end
mutual
def exEq : Ex → Ex → Bool
  | .var a0, y => match y with
    | .var b0 => (a0 == b0)
    | _ => false
  | .con a0, y => match y with
    | .con b0 => dEq a0 b0
    | _ => false
  | .glo a0, y => match y with
    | .glo b0 => dEq a0 b0
    | _ => false
  | .bin a0 a1 a2, y => match y with
    | .bin b0 b1 b2 => decide (a0 = b0) && exEq a1 b1 && exEq a2 b2
    | _ => false
  | .neg a0, y => match y with
    | .neg b0 => exEq a0 b0
    | _ => false
  | .not a0, y => match y with
    | .not b0 => exEq a0 b0
    | _ => false
  | .and a0 a1, y => match y with
    | .and b0 b1 => exEq a0 b0 && exEq a1 b1
    | _ => false
  | .or a0 a1, y => match y with
    | .or b0 b1 => exEq a0 b0 && exEq a1 b1
    | _ => false
  | .cmp a0 a1 a2, y => match y with
    | .cmp b0 b1 b2 => decide (a0 = b0) && exEq a1 b1 && exEq a2 b2
    | _ => false
  | .cmo a0 a1 a2, y => match y with
    | .cmo b0 b1 b2 => decide (a0 = b0) && exEq a1 b1 && exEq a2 b2
    | _ => false
  | .cmi a0 a1 a2, y => match y with
    | .cmi b0 b1 b2 => decide (a0 = b0) && exEq a1 b1 && exEq a2 b2
    | _ => false
  | .chn a0 a1 a2 a3 a4, y => match y with
    | .chn b0 b1 b2 b3 b4 => decide (a0 = b0) && decide (a1 = b1) && exEq a2 b2 && exEq a3 b3 && exEq a4 b4
    | _ => false
  | .ite a0 a1 a2, y => match y with
    | .ite b0 b1 b2 => exEq a0 b0 && exEq a1 b1 && exEq a2 b2
    | _ => false
  | .tup a0, y => match y with
    | .tup b0 => exsEq a0 b0
    | _ => false
  | .lst a0, y => match y with
    | .lst b0 => exsEq a0 b0
    | _ => false
  | .fn a0 a1, y => match y with
    | .fn b0 b1 => decide (a0 = b0) && exsEq a1 b1
    | _ => false
  | .fnk a0 a1 a2 a3, y => match y with
    | .fnk b0 b1 b2 b3 => decide (a0 = b0) && decide (a1 = b1) && exsEq a2 b2 && exsEq a3 b3
    | _ => false
  | .blt a0 a1, y => match y with
    | .blt b0 b1 => decide (a0 = b0) && exsEq a1 b1
    | _ => false
  | .mth a0 a1 a2, y => match y with
    | .mth b0 b1 b2 => decide (a0 = b0) && exEq a1 b1 && exsEq a2 b2
    | _ => false
  | .mcl a0 a1 a2, y => match y with
    | .mcl b0 b1 b2 => decide (a0 = b0) && exEq a1 b1 && exsEq a2 b2
    | _ => false
  | .mck a0 a1 a2 a3 a4, y => match y with
    | .mck b0 b1 b2 b3 b4 => decide (a0 = b0) && decide (a1 = b1) && exEq a2 b2 && exsEq a3 b3 && exsEq a4 b4
    | _ => false
  | .att a0 a1, y => match y with
    | .att b0 b1 => exEq a0 b0 && decide (a1 = b1)
    | _ => false
  | .idx a0 a1, y => match y with
    | .idx b0 b1 => exEq a0 b0 && exEq a1 b1
    | _ => false
  | .slc a0 a1 a2, y => match y with
    | .slc b0 b1 b2 => exEq a0 b0 && exoEq a1 b1 && exoEq a2 b2
    | _ => false
  | .rev a0, y => match y with
    | .rev b0 => exEq a0 b0
    | _ => false
  | .lc a0 a1 a2 a3 a4, y => match y with
    | .lc b0 b1 b2 b3 b4 => exEq a0 b0 && tgEq a1 b1 && ixEq a2 b2 && exoEq a3 b3 && decide (a4 = b4)
    | _ => false
  | .fst a0, y => match y with
    | .fst b0 => exsEq a0 b0
    | _ => false
  | .dct _, _ => false
def exsEq : Exs → Exs → Bool
  | .nil, y => match y with
    | .nil => true
    | _ => false
  | .cons a0 a1, y => match y with
    | .cons b0 b1 => exEq a0 b0 && exsEq a1 b1
    | _ => false
  | .star a0 a1, y => match y with
    | .star b0 b1 => exEq a0 b0 && exsEq a1 b1
    | _ => false
def exoEq : Exo → Exo → Bool
  | .no, y => match y with
    | .no => true
    | _ => false
  | .so a0, y => match y with
    | .so b0 => exEq a0 b0
    | _ => false
def ixEq : Ix → Ix → Bool
  | .seq a0, y => match y with
    | .seq b0 => exEq a0 b0
    | _ => false
  | .rng1 a0, y => match y with
    | .rng1 b0 => exEq a0 b0
    | _ => false
  | .rng2 a0 a1, y => match y with
    | .rng2 b0 b1 => exEq a0 b0 && exEq a1 b1
    | _ => false
  | .enu a0, y => match y with
    | .enu b0 => exEq a0 b0
    | _ => false
  | .zip a0 a1, y => match y with
    | .zip b0 b1 => exEq a0 b0 && exEq a1 b1
    | _ => false
end
mutual
theorem exEq_ok : ∀ x y : Ex, exEq x y = true → x = y
  | .var a0, y, h => by
    rw [exEq.eq_def] at h
    dsimp only at h
    split at h
    · try simp only [Bool.and_eq_true, decide_eq_true_eq, beq_iff_eq] at h
      have h0 := h
      subst h0
      rfl
    · cases h
  | .con a0, y, h => by
    rw [exEq.eq_def] at h
    dsimp only at h
    split at h
    · try simp only [Bool.and_eq_true, decide_eq_true_eq, beq_iff_eq] at h
      have h0 := h
      have h0 := dEq_ok _ _ h0
      subst h0
      rfl
    · cases h
  | .glo a0, y, h => by
    rw [exEq.eq_def] at h
    dsimp only at h
    split at h
    · try simp only [Bool.and_eq_true, decide_eq_true_eq, beq_iff_eq] at h
      have h0 := h
      have h0 := dEq_ok _ _ h0
      subst h0
      rfl
    · cases h
  | .bin a0 a1 a2, y, h => by
    rw [exEq.eq_def] at h
    dsimp only at h
    split at h
    · try simp only [Bool.and_eq_true, decide_eq_true_eq, beq_iff_eq] at h
      obtain ⟨⟨h0, h1⟩, h2⟩ := h
      have h1 := exEq_ok _ _ h1
      have h2 := exEq_ok _ _ h2
      subst h0 h1 h2
      rfl
    · cases h
  | .neg a0, y, h => by
    rw [exEq.eq_def] at h
    dsimp only at h
    split at h
    · try simp only [Bool.and_eq_true, decide_eq_true_eq, beq_iff_eq] at h
      have h0 := h
      have h0 := exEq_ok _ _ h0
      subst h0
      rfl
    · cases h
  | .not a0, y, h => by
    rw [exEq.eq_def] at h
    dsimp only at h
    split at h
    · try simp only [Bool.and_eq_true, decide_eq_true_eq, beq_iff_eq] at h
      have h0 := h
      have h0 := exEq_ok _ _ h0
      subst h0
      rfl
    · cases h
  | .and a0 a1, y, h => by
    rw [exEq.eq_def] at h
    dsimp only at h
    split at h
    · try simp only [Bool.and_eq_true, decide_eq_true_eq, beq_iff_eq] at h
      obtain ⟨h0, h1⟩ := h
      have h0 := exEq_ok _ _ h0
      have h1 := exEq_ok _ _ h1
      subst h0 h1
      rfl
    · cases h
  | .or a0 a1, y, h => by
    rw [exEq.eq_def] at h
    dsimp only at h
    split at h
    · try simp only [Bool.and_eq_true, decide_eq_true_eq, beq_iff_eq] at h
      obtain ⟨h0, h1⟩ := h
      have h0 := exEq_ok _ _ h0
      have h1 := exEq_ok _ _ h1
      subst h0 h1
      rfl
    · cases h
  | .cmp a0 a1 a2, y, h => by
    rw [exEq.eq_def] at h
    dsimp only at h
    split at h
    · try simp only [Bool.and_eq_true, decide_eq_true_eq, beq_iff_eq] at h
      obtain ⟨⟨h0, h1⟩, h2⟩ := h
      have h1 := exEq_ok _ _ h1
      have h2 := exEq_ok _ _ h2
      subst h0 h1 h2
      rfl
    · cases h
  | .cmo a0 a1 a2, y, h => by
    rw [exEq.eq_def] at h
    dsimp only at h
    split at h
    · try simp only [Bool.and_eq_true, decide_eq_true_eq, beq_iff_eq] at h
      obtain ⟨⟨h0, h1⟩, h2⟩ := h
      have h1 := exEq_ok _ _ h1
      have h2 := exEq_ok _ _ h2
      subst h0 h1 h2
      rfl
    · cases h
  | .cmi a0 a1 a2, y, h => by
    rw [exEq.eq_def] at h
    dsimp only at h
    split at h
    · try simp only [Bool.and_eq_true, decide_eq_true_eq, beq_iff_eq] at h
      obtain ⟨⟨h0, h1⟩, h2⟩ := h
      have h1 := exEq_ok _ _ h1
      have h2 := exEq_ok _ _ h2
      subst h0 h1 h2
      rfl
    · cases h
  | .chn a0 a1 a2 a3 a4, y, h => by
    rw [exEq.eq_def] at h
    dsimp only at h
    split at h
    · try simp only [Bool.and_eq_true, decide_eq_true_eq, beq_iff_eq] at h
      obtain ⟨⟨⟨⟨h0, h1⟩, h2⟩, h3⟩, h4⟩ := h
      have h2 := exEq_ok _ _ h2
      have h3 := exEq_ok _ _ h3
      have h4 := exEq_ok _ _ h4
      subst h0 h1 h2 h3 h4
      rfl
    · cases h
  | .ite a0 a1 a2, y, h => by
    rw [exEq.eq_def] at h
    dsimp only at h
    split at h
    · try simp only [Bool.and_eq_true, decide_eq_true_eq, beq_iff_eq] at h
      obtain ⟨⟨h0, h1⟩, h2⟩ := h
      have h0 := exEq_ok _ _ h0
      have h1 := exEq_ok _ _ h1
      have h2 := exEq_ok _ _ h2
      subst h0 h1 h2
      rfl
    · cases h
  | .tup a0, y, h => by
    rw [exEq.eq_def] at h
    dsimp only at h
    split at h
    · try simp only [Bool.and_eq_true, decide_eq_true_eq, beq_iff_eq] at h
      have h0 := h
      have h0 := exsEq_ok _ _ h0
      subst h0
      rfl
    · cases h
  | .lst a0, y, h => by
    rw [exEq.eq_def] at h
    dsimp only at h
    split at h
    · try simp only [Bool.and_eq_true, decide_eq_true_eq, beq_iff_eq] at h
      have h0 := h
      have h0 := exsEq_ok _ _ h0
      subst h0
      rfl
    · cases h
  | .fn a0 a1, y, h => by
    rw [exEq.eq_def] at h
    dsimp only at h
    split at h
    · try simp only [Bool.and_eq_true, decide_eq_true_eq, beq_iff_eq] at h
      obtain ⟨h0, h1⟩ := h
      have h1 := exsEq_ok _ _ h1
      subst h0 h1
      rfl
    · cases h
  | .fnk a0 a1 a2 a3, y, h => by
    rw [exEq.eq_def] at h
    dsimp only at h
    split at h
    · try simp only [Bool.and_eq_true, decide_eq_true_eq, beq_iff_eq] at h
      obtain ⟨⟨⟨h0, h1⟩, h2⟩, h3⟩ := h
      have h2 := exsEq_ok _ _ h2
      have h3 := exsEq_ok _ _ h3
      subst h0 h1 h2 h3
      rfl
    · cases h
  | .blt a0 a1, y, h => by
    rw [exEq.eq_def] at h
    dsimp only at h
    split at h
    · try simp only [Bool.and_eq_true, decide_eq_true_eq, beq_iff_eq] at h
      obtain ⟨h0, h1⟩ := h
      have h1 := exsEq_ok _ _ h1
      subst h0 h1
      rfl
    · cases h
  | .mth a0 a1 a2, y, h => by
    rw [exEq.eq_def] at h
    dsimp only at h
    split at h
    · try simp only [Bool.and_eq_true, decide_eq_true_eq, beq_iff_eq] at h
      obtain ⟨⟨h0, h1⟩, h2⟩ := h
      have h1 := exEq_ok _ _ h1
      have h2 := exsEq_ok _ _ h2
      subst h0 h1 h2
      rfl
    · cases h
  | .mcl a0 a1 a2, y, h => by
    rw [exEq.eq_def] at h
    dsimp only at h
    split at h
    · try simp only [Bool.and_eq_true, decide_eq_true_eq, beq_iff_eq] at h
      obtain ⟨⟨h0, h1⟩, h2⟩ := h
      have h1 := exEq_ok _ _ h1
      have h2 := exsEq_ok _ _ h2
      subst h0 h1 h2
      rfl
    · cases h
  | .mck a0 a1 a2 a3 a4, y, h => by
    rw [exEq.eq_def] at h
    dsimp only at h
    split at h
    · try simp only [Bool.and_eq_true, decide_eq_true_eq, beq_iff_eq] at h
      obtain ⟨⟨⟨⟨h0, h1⟩, h2⟩, h3⟩, h4⟩ := h
      have h2 := exEq_ok _ _ h2
      have h3 := exsEq_ok _ _ h3
      have h4 := exsEq_ok _ _ h4
      subst h0 h1 h2 h3 h4
      rfl
    · cases h
  | .att a0 a1, y, h => by
    rw [exEq.eq_def] at h
    dsimp only at h
    split at h
    · try simp only [Bool.and_eq_true, decide_eq_true_eq, beq_iff_eq] at h
      obtain ⟨h0, h1⟩ := h
      have h0 := exEq_ok _ _ h0
      subst h0 h1
      rfl
    · cases h
  | .idx a0 a1, y, h => by
    rw [exEq.eq_def] at h
    dsimp only at h
    split at h
    · try simp only [Bool.and_eq_true, decide_eq_true_eq, beq_iff_eq] at h
      obtain ⟨h0, h1⟩ := h
      have h0 := exEq_ok _ _ h0
      have h1 := exEq_ok _ _ h1
      subst h0 h1
      rfl
    · cases h
  | .slc a0 a1 a2, y, h => by
    rw [exEq.eq_def] at h
    dsimp only at h
    split at h
    · try simp only [Bool.and_eq_true, decide_eq_true_eq, beq_iff_eq] at h
      obtain ⟨⟨h0, h1⟩, h2⟩ := h
      have h0 := exEq_ok _ _ h0
      have h1 := exoEq_ok _ _ h1
      have h2 := exoEq_ok _ _ h2
      subst h0 h1 h2
      rfl
    · cases h
  | .rev a0, y, h => by
    rw [exEq.eq_def] at h
    dsimp only at h
    split at h
    · try simp only [Bool.and_eq_true, decide_eq_true_eq, beq_iff_eq] at h
      have h0 := h
      have h0 := exEq_ok _ _ h0
      subst h0
      rfl
    · cases h
  | .lc a0 a1 a2 a3 a4, y, h => by
    rw [exEq.eq_def] at h
    dsimp only at h
    split at h
    · try simp only [Bool.and_eq_true, decide_eq_true_eq, beq_iff_eq] at h
      obtain ⟨⟨⟨⟨h0, h1⟩, h2⟩, h3⟩, h4⟩ := h
      have h0 := exEq_ok _ _ h0
      have h1 := tgEq_ok _ _ h1
      have h2 := ixEq_ok _ _ h2
      have h3 := exoEq_ok _ _ h3
      subst h0 h1 h2 h3 h4
      rfl
    · cases h
  | .fst a0, y, h => by
    rw [exEq.eq_def] at h
    dsimp only at h
    split at h
    · try simp only [Bool.and_eq_true, decide_eq_true_eq, beq_iff_eq] at h
      have h0 := h
      have h0 := exsEq_ok _ _ h0
      subst h0
      rfl
    · cases h
  | .dct a0, y, h => by
    rw [exEq.eq_def] at h
    cases h
theorem exsEq_ok : ∀ x y : Exs, exsEq x y = true → x = y
  | .nil, y, h => by
    rw [exsEq.eq_def] at h
    dsimp only at h
    split at h
    · rfl
    · cases h
  | .cons a0 a1, y, h => by
    rw [exsEq.eq_def] at h
    dsimp only at h
    split at h
    · try simp only [Bool.and_eq_true, decide_eq_true_eq, beq_iff_eq] at h
      obtain ⟨h0, h1⟩ := h
      have h0 := exEq_ok _ _ h0
      have h1 := exsEq_ok _ _ h1
      subst h0 h1
      rfl
    · cases h
  | .star a0 a1, y, h => by
    rw [exsEq.eq_def] at h
    dsimp only at h
    split at h
    · try simp only [Bool.and_eq_true, decide_eq_true_eq, beq_iff_eq] at h
      obtain ⟨h0, h1⟩ := h
      have h0 := exEq_ok _ _ h0
      have h1 := exsEq_ok _ _ h1
      subst h0 h1
      rfl
    · cases h
theorem exoEq_ok : ∀ x y : Exo, exoEq x y = true → x = y
  | .no, y, h => by
    rw [exoEq.eq_def] at h
    dsimp only at h
    split at h
    · rfl
    · cases h
  | .so a0, y, h => by
    rw [exoEq.eq_def] at h
    dsimp only at h
    split at h
    · try simp only [Bool.and_eq_true, decide_eq_true_eq, beq_iff_eq] at h
      have h0 := h
      have h0 := exEq_ok _ _ h0
      subst h0
      rfl
    · cases h
theorem ixEq_ok : ∀ x y : Ix, ixEq x y = true → x = y
  | .seq a0, y, h => by
    rw [ixEq.eq_def] at h
    dsimp only at h
    split at h
    · try simp only [Bool.and_eq_true, decide_eq_true_eq, beq_iff_eq] at h
      have h0 := h
      have h0 := exEq_ok _ _ h0
      subst h0
      rfl
    · cases h
  | .rng1 a0, y, h => by
    rw [ixEq.eq_def] at h
    dsimp only at h
    split at h
    · try simp only [Bool.and_eq_true, decide_eq_true_eq, beq_iff_eq] at h
      have h0 := h
      have h0 := exEq_ok _ _ h0
      subst h0
      rfl
    · cases h
  | .rng2 a0 a1, y, h => by
    rw [ixEq.eq_def] at h
    dsimp only at h
    split at h
    · try simp only [Bool.and_eq_true, decide_eq_true_eq, beq_iff_eq] at h
      obtain ⟨h0, h1⟩ := h
      have h0 := exEq_ok _ _ h0
      have h1 := exEq_ok _ _ h1
      subst h0 h1
      rfl
    · cases h
  | .enu a0, y, h => by
    rw [ixEq.eq_def] at h
    dsimp only at h
    split at h
    · try simp only [Bool.and_eq_true, decide_eq_true_eq, beq_iff_eq] at h
      have h0 := h
      have h0 := exEq_ok _ _ h0
      subst h0
      rfl
    · cases h
  | .zip a0 a1, y, h => by
    rw [ixEq.eq_def] at h
    dsimp only at h
    split at h
    · try simp only [Bool.and_eq_true, decide_eq_true_eq, beq_iff_eq] at h
      obtain ⟨h0, h1⟩ := h
      have h0 := exEq_ok _ _ h0
      have h1 := exEq_ok _ _ h1
      subst h0 h1
      rfl
    · cases h
end
end En
/-! En7: from the text to the small syntax. -/
namespace En
open PySem L2 PyProof.Rows
/-- what the text's global names stand for -/
structure Gi where
  con : List (Str × D)
  fns : List Str
  kws : List (Str × List (Option Str) × Nat × List Nat)
  its : List Str
  blt : List (Str × Bf)
  mth : List (Str × Mf)
  mcl : List (Str × Str)
  mkw : List (Str × List (Option Str) × Nat × List Nat)
  att : List (Str × Str)
  err : List Str
  ans : List Str := []
  obs : List Str := []
  lams : List (Str × List Nat × Nat × Ex) := []
  ios : List (Str × List Bool) := []
  exs : List Str := []
/-- the same without defs that take a lambda -/
def Gi.noA (g : Gi) : Gi := { g with ans := [] }
/-- no parameters -/
def noArg : Arguments → Bool
  | ⟨[], [], none, [], [], none, []⟩ => true
  | _ => false
def varsE : List Nat → Exs
  | [] => .nil
  | i :: r => .cons (.var i) (varsE r)
/-- the lambda among those that are known -/
def lamOf (n : Nat) : List (Str × List Nat × Nat × Ex) → Ex → Option Ex
  | [], _ => none
  | (nm, is, m, e') :: r, e => if m = n ∧ exEq e e' = true then some (.fn nm (varsE is)) else lamOf n r e
theorem lamOf_mem {n : Nat} : ∀ {l : List (Str × List Nat × Nat × Ex)} {e i : Ex}, lamOf n l e = some i → ∃ nm is, (nm, is, n, e) ∈ l ∧ i = .fn nm (varsE is)
  | [], _, _, h => nomatch h
  | (nm, is, m, e') :: r, e, i, h => by
    unfold lamOf at h
    split at h
    · rename_i q
      obtain ⟨em, q⟩ := q
      have e1 := exEq_ok _ _ q
      subst e1 em
      cases h
      exact ⟨nm, is, List.mem_cons_self, rfl⟩
    · obtain ⟨nm, is, h1, h2⟩ := lamOf_mem h
      exact ⟨nm, is, List.mem_cons_of_mem _ h1, h2⟩
def ixOf : List Str → Str → Option Nat
  | [], _ => none
  | y :: r, x => if y = x then some 0 else (ixOf r x).map (· + 1)
theorem ixOf_get : ∀ {N : List Str} {x : Str} {i : Nat}, ixOf N x = some i → N[i]? = some x
  | [], x, i, h => by cases h
  | y :: r, x, i, h => by
    unfold ixOf at h
    split at h
    · rename_i e
      cases h
      rw [e]
      rfl
    · cases q : ixOf r x with
      | none =>
        rw [q] at h
        cases h
      | some j =>
        rw [q] at h
        cases h
        simpa using ixOf_get q
/-- names that the machine treats by themselves -/
def odd (x : Str) : Bool := x == ("__debug__" : Str) || x == ("__classdict__" : Str) || x == ("__name__" : Str)
def conD : Const → Option D
  | .none => some .non
  | .bool b => some (.bl b)
  | .int i => some (.int i)
  | .str x => some (.str x)
  | _ => none
def isGl (sc : Scope) (x : Str) : Bool := sc.names.lookup x == some .globalImplicit
def isVis (sc : Scope) (x : Str) : Bool := sc.names.lookup x == some .local || sc.names.lookup x == some .cell || sc.names.lookup x == some .free
def isLoc (sc : Scope) (x : Str) : Bool := sc.names.lookup x == some .local || sc.names.lookup x == some .cell
def nameE (g : Gi) (sc : Scope) (N : List Str) (x : Str) : Option Ex :=
  if odd x then none
  else if isVis sc x then (ixOf N x).map .var
  else if isGl sc x then (g.con.lookup x).map .glo
  else none
def mapA (f : Expr → Option Ex) : List Expr → Option Exs
  | [] => some .nil
  | .Starred e _ :: r => (f e).bind fun i => (mapA f r).map fun is => .star i is
  | e :: r => (f e).bind fun i => (mapA f r).map fun is => .cons i is
def mapN (f : Expr → Option Ex) : List Expr → Option Exs
  | [] => some .nil
  | e :: r => (f e).bind fun i => (mapN f r).map fun is => .cons i is
def boolA (f : Expr → Option Ex) (op : BoolOp) : List Expr → Option Ex
  | [] => none
  | [a] => f a
  | a :: b :: r => (f a).bind fun i => (boolA f op (b :: r)).map fun j => match op with
    | .And => .and i j
    | .Or => .or i j
def optE (f : Expr → Option Ex) : Option Expr → Option Exo
  | none => some .no
  | some e => (f e).map .so
def isIf : Expr → Bool
  | .IfExp .. => true
  | _ => false
def tstE (f : Expr → Option Ex) (e : Expr) : Option Ex := if isIf e then none else f e
def isSet : Expr → Bool
  | .Set .. => true
  | _ => false
def isSup : Expr → Bool
  | .Call (.Name _ _) [] [] _ => true
  | _ => false
def isCon : Ex → Bool
  | .con _ => true
  | _ => false
/-- the parts of an f-string -/
def mapF (f : Expr → Option Ex) : List Expr → Option Exs
  | [] => some .nil
  | .Constant (.str x) _ _ :: r => (mapF f r).map fun is => .cons (.con (.str x)) is
  | .FormattedValue e c none _ :: r => if c = -1 then (f e).bind fun i => if isCon i then none else (mapF f r).map fun is => .cons i is else none
  | _ => none
/-- how keywords are put in the parameters' order: told by name, keywords, number of places -/
def kwOf (l : List (Str × List (Option Str) × Nat × List Nat)) (f : Str) (ks : List (Option Str)) (n : Nat) : Option (List Nat) := (l.find? fun e => decide (e.1 = f ∧ e.2.1 = ks ∧ e.2.2.1 = n)).map fun e => e.2.2.2
theorem kwOf_mem {l : List (Str × List (Option Str) × Nat × List Nat)} {f : Str} {ks : List (Option Str)} {n : Nat} {pm : List Nat} (h : kwOf l f ks n = some pm) : (f, ks, n, pm) ∈ l := by
  unfold kwOf at h
  cases e : l.find? fun e => decide (e.1 = f ∧ e.2.1 = ks ∧ e.2.2.1 = n) with
  | none => rw [e] at h; cases h
  | some x =>
    rw [e] at h
    cases h
    have h1 := List.find?_some e
    have h2 := List.mem_of_find?_eq_some e
    simp only [decide_eq_true_eq] at h1
    obtain ⟨e1, e2, e3⟩ := h1
    rw [← e1, ← e2, ← e3]
    exact h2
mutual
def compT (sc : Scope) (N : List Str) : Nat → Expr → Option Tg
  | 0, _ => none
  | n + 1, e => match e with
    | .Name x _ => if isLoc sc x then (ixOf N x).map .nm else none
    | .Tuple es _ _ => (compTs sc N n es).map .tp
    | _ => none
def compTs (sc : Scope) (N : List Str) : Nat → List Expr → Option Tgs
  | _, [] => some .nil
  | 0, _ => none
  | n + 1, e :: r => (compT sc N n e).bind fun t => (compTs sc N n r).map fun ts => .cons t ts
end
def tupled : Expr → Bool
  | .Tuple .. => true
  | _ => false
/-- what is walked -/
def compI (g : Gi) (sc : Scope) (f : Expr → Option Ex) (tg iter : Expr) : Option Ix := match iter with
  | .Call (.Name x _) [a] [] _ =>
    if x = ("range" : Str) ∧ isGl sc x ∧ ("range" : Str) ∈ g.its then (f a).map .rng1
    else if x = ("enumerate" : Str) ∧ isGl sc x ∧ ("enumerate" : Str) ∈ g.its ∧ tupled tg then (f a).map .enu
    else (f iter).map .seq
  | .Call (.Name x _) [a, b] [] _ =>
    if x = ("range" : Str) ∧ isGl sc x ∧ ("range" : Str) ∈ g.its then (f a).bind fun i => (f b).map fun j => .rng2 i j
    else if x = ("zip" : Str) ∧ isGl sc x ∧ ("zip" : Str) ∈ g.its ∧ tupled tg then (f a).bind fun i => (f b).map fun j => .zip i j
    else (f iter).map .seq
  | .Set .. => none
  | e => (f e).map .seq
def ownOf (N : List Str) (scope : Scope) : List (Str × Nat) := scope.names.filterMap fun y => match y.2 with
  | .local => (ixOf N y.1).map fun i => (y.1, i)
  | .cell => (ixOf N y.1).map fun i => (y.1, i)
  | _ => none
mutual
def tgIx : Tg → List Nat
  | .nm i => [i]
  | .tp ts => tgsIx ts
def tgsIx : Tgs → List Nat
  | .nil => []
  | .cons t ts => tgIx t ++ tgsIx ts
end
def minus1 : Expr → Bool
  | .UnaryOp .USub (.Constant (.int 1) _ _) _ => true
  | _ => false
/-- a constant within a display -/
def dspD : Const → Option D
  | .none => some .non
  | .bool b => some (.bl b)
  | .int i => some (.int i)
  | .str x => some (.str x)
  | _ => none
/-- a name that stands for an own object -/
def nmOb (g : Gi) : Expr → Bool
  | .Name x _ => decide (x ∈ g.obs)
  | _ => false
def cmpI (g : Gi) (op : CmpOp) (a b : Expr) (i j : Ex) : Ex := match op with
  | .Eq => if nmOb g a || nmOb g b then .cmo false i j else .cmp .Eq i j
  | .NotEq => if nmOb g a || nmOb g b then .cmo true i j else .cmp .NotEq i j
  | .In => if nmOb g a then .cmi false i j else .cmp .In i j
  | .NotIn => if nmOb g a then .cmi true i j else .cmp .NotIn i j
  | op => .cmp op i j
/-- list(range(a)) -/
def lrgA (g : Gi) (sc : Scope) (f : Str) : List Expr → Option Expr
  | [.Call (.Name h _) [a] [] _] => if f = ("list" : Str) ∧ h = ("range" : Str) ∧ isGl sc h = true ∧ ("list" : Str) ∈ g.its ∧ ("range" : Str) ∈ g.its then some a else none
  | _ => none
theorem lrgA_ok {g : Gi} {sc : Scope} {f : Str} {args : List Expr} {a : Expr} (h : lrgA g sc f args = some a) : f = ("list" : Str) ∧ ("list" : Str) ∈ g.its ∧ ("range" : Str) ∈ g.its ∧ isGl sc "range" = true ∧ ∃ p q, args = [.Call (.Name "range" p) [a] [] q] := by
  unfold lrgA at h
  split at h
  · rename_i h' p a' q
    split at h
    · rename_i c
      obtain ⟨c1, c2, c3, c4, c5⟩ := c
      cases h
      subst c2
      exact ⟨c1, c4, c5, c3, _, _, rfl⟩
    · cases h
  · cases h
/-- tuple([place for ..]): a tuple of which it is known that it has nothing of its own -/
def ntA (g : Gi) (f : Str) : List Expr → Bool
  | [.ListComp (.Name y _) _ _ _] => decide (f = ("tuple" : Str) ∧ y = ("place" : Str) ∧ ("tuple" : Str) ∈ g.its)
  | _ => false
theorem ntA_ok {g : Gi} {f : Str} {args : List Expr} (h : ntA g f args = true) : f = ("tuple" : Str) ∧ ("tuple" : Str) ∈ g.its ∧ args ≠ [] := by
  unfold ntA at h
  split at h
  · obtain ⟨h1, _, h2⟩ := of_decide_eq_true h
    exact ⟨h1, h2, fun z => nomatch z⟩
  · cases h
/-- isinstance(a, c), c a class of errors -/
def isErN (c : Str) : Str := "is:" ++ c
def isxA (g : Gi) (sc : Scope) (f : Str) : List Expr → Option (Expr × Str)
  | [a, .Name c _] => if f = ("isinstance" : Str) ∧ c ∈ g.exs ∧ isGl sc c = true ∧ odd c = false then some (a, c) else none
  | _ => none
theorem isxA_ok {g : Gi} {sc : Scope} {f c : Str} {args : List Expr} {a : Expr} (h : isxA g sc f args = some (a, c)) : f = ("isinstance" : Str) ∧ c ∈ g.exs ∧ isGl sc c = true ∧ odd c = false ∧ ∃ p, args = [a, .Name c p] := by
  unfold isxA at h
  split at h
  · rename_i a' c' p
    split at h
    · rename_i q
      obtain ⟨c1, c2, c3, c4⟩ := q
      cases h
      exact ⟨c1, c2, c3, c4, _, rfl⟩
    · cases h
  · cases h
def compE (g : Gi) (N : List Str) : Nat → Scope → Expr → Option Ex
  | 0, _, _ => none
  | n + 1, sc, e => match e with
    | .Constant c _ _ => (conD c).map .con
    | .Name x _ => nameE g sc N x
    | .BinOp a op b _ => (compE g N n sc a).bind fun i => (compE g N n sc b).map fun j => .bin op i j
    | .UnaryOp .USub a _ => (compE g N n sc a).map .neg
    | .UnaryOp .Not a _ => (tstE (compE g N n sc) a).map .not
    | .BoolOp op (a :: b :: r) _ => boolA (tstE (compE g N n sc)) op (a :: b :: r)
    | .Compare a [op] [b] _ => if isSet b then none else (compE g N n sc a).bind fun i => (compE g N n sc b).map fun j => cmpI g op a b i j
    | .Compare a [o, p] [b, c] _ => if isSet b || isSet c then none else (compE g N n sc a).bind fun i => (compE g N n sc b).bind fun j => (compE g N n sc c).map fun k => .chn o p i j k
    | .IfExp t a b _ => (tstE (compE g N n sc) t).bind fun k => (compE g N n sc a).bind fun i => (compE g N n sc b).map fun j => .ite k i j
    | .Tuple es _ _ => (mapA (compE g N n sc) es).map .tup
    | .List es _ => (mapA (compE g N n sc) es).map .lst
    | .Subscript o (.Slice lo hi none _) _ => (compE g N n sc o).bind fun i => (optE (compE g N n sc) lo).bind fun l => (optE (compE g N n sc) hi).map fun h => .slc i l h
    | .Subscript o (.Slice none none (some s) _) _ => if minus1 s ∧ ("[::-1]" : Str) ∈ g.its then (compE g N n sc o).map .rev else none
    | .Subscript o i _ => (compE g N n sc o).bind fun a => (compE g N n sc i).map fun b => .idx a b
    | .Call (.Name f _) [.Lambda params body scope _] [] _ =>
      if odd f || !isGl sc f then none
      else if f ∈ g.ans ∧ noArg params = true ∧ LamX.lamSB sc scope = true then (compE g.noA N n scope body).bind (lamOf N.length g.lams) else none
    | .Call (.Name f _) args [] _ =>
      if odd f || !isGl sc f then none
      else match isxA g sc f args with
      | some (a, c) => (compE g N n sc a).map fun i => .fn (isErN c) (.cons i .nil)
      | none => if f ∈ g.fns then (mapN (compE g N n sc) args).map fun is => .fn f is
      else match lrgA g sc f args with
      | some a => (compE g N n sc a).map fun i => .blt .lrg (.cons i .nil)
      | none => if ntA g f args = true then (mapN (compE g N n sc) args).map fun is => .blt .ntup is else (match g.blt.lookup f with
        | some b => (match args with | [] => none | _ => (mapN (compE g N n sc) args).map fun is => .blt b is)
        | none => none)
    | .Call (.Name f _) args kws _ =>
      if odd f || !isGl sc f then none
      else (kwOf g.kws f (kws.map fun k => k.arg) args.length).bind fun pm =>
        (mapN (compE g N n sc) args).bind fun is => (mapN (compE g N n sc) (kws.map fun k => k.value)).map fun js => .fnk f pm is js
    | .Call (.Attribute o m ap) args [] cp =>
      if (ap.endLine == cp.line) = false ∨ isSup o = true then none
      else match g.mcl.lookup m with
      | some key => if !decide (args.length < 20) then none else (compE g N n sc o).bind fun i => (mapN (compE g N n sc) args).map fun is => .mcl key i is
      | none => (match g.mth.lookup m with
        | some b => if args.isEmpty || !decide (args.length < 20) then none else (compE g N n sc o).bind fun i => (mapN (compE g N n sc) args).map fun is => .mth b i is
        | none => none)
    | .Call (.Attribute o m ap) args kws cp =>
      if (ap.endLine == cp.line) = false ∨ isSup o = true ∨ !decide (args.length + kws.length < 20) then none
      else (g.mcl.lookup m).bind fun key => (kwOf g.mkw m (kws.map fun k => k.arg) args.length).bind fun pm =>
        (compE g N n sc o).bind fun i => (mapN (compE g N n sc) args).bind fun is => (mapN (compE g N n sc) (kws.map fun k => k.value)).map fun js => .mck key pm i is js
    | .Attribute o f _ => if isSup o then none else (g.att.lookup f).bind fun key => (compE g N n sc o).map fun i => .att i key
    | .Dict [] [] _ => some (.dct [])
    | .Dict [some (.Constant (.str k) _ _)] [.Constant c _ _] _ => (dspD c).map fun d => .dct [(.inr k, d)]
    | .JoinedStr (a :: b :: r) _ => (mapF (compE g N n sc) (a :: b :: r)).map .fst
    | .ListComp elt [⟨tg, iter, ifs, 0⟩] scope _ =>
      if blkC N sc scope (ownOf N scope) then
        (compT (relS scope sc) N n tg).bind fun t =>
        if (tgIx t).all (fun i => decide (i ∈ (ownOf N scope).map (fun (p : Str × Nat) => p.2))) then
          (compI g sc (compE g N n sc) tg iter).bind fun ix =>
          (match ifs with
            | [] => some Exo.no
            | [c] => (tstE (compE g N n (relS scope sc)) c).map .so
            | _ => none).bind fun c =>
          (compE g N n (relS scope sc) elt).map fun el => .lc el t ix c ((ownOf N scope).map (fun (p : Str × Nat) => p.2))
        else none
      else none
    | _ => none
end En
namespace En
open PySem L2 PyProof.Rows TL
/-! Ul1: unpacking of a list. -/
open PySem.SeqAt
section
variable {prog : Program} {w : World} {A : Around} {E : Value → Shared → Prop} {s : Shared}
theorem draw_list {it t : Addr} {items : Array Value} (hne : t ≠ it) : ∀ (n i : Nat) (s : Shared) (Q : List Value → Shared → Prop), s.heap.IsListIter it t i → s.heap.IsList t items → i + n ≤ items.size →
    (∀ h', h'.IsListIter it t (i + n) → Heap.SameBut it s.heap h' → Q ((items.toList.drop i).take n) { s with heap := h' }) → wpAny (model prog w) A (draw (.ref it) n) Q E s
  | 0, i, s, Q, hit, _, _, hQ => by
    show wpAny _ _ (pure []) Q E s
    exact wpAny_pure (by simpa using hQ s.heap hit (Heap.SameBut.refl ..))
  | n + 1, i, s, Q, hit, ht, hle, hQ => by
    have hlt : i < items.size := by omega
    show wpAny _ _ (pyNext (.ref it) >>= _) Q E s
    refine wpAny_bind (wpAny_pyNext_list_item hit ht (x := items[i]) (by simp [hlt]) fun h₁ hit₁ hs₁ => ?_)
    refine wpAny_bind (wpAny_holding (draw_list hne n (i + 1) _ _ hit₁ (ht.extBut hs₁.extBut hne) (by omega) fun h₂ hit₂ hs₂ => wpAny_pure ?_))
    have hd : items.toList.drop i = items[i] :: items.toList.drop (i + 1) := by simp [List.drop_eq_getElem_cons, hlt]
    have := hQ h₂ (by rw [show i + (n + 1) = i + 1 + n by omega]; exact hit₂) (hs₁.trans hs₂)
    rw [hd, List.take_succ_cons] at this
    exact this
theorem unpackItems_list {t : Addr} {items : Array Value} {Q : List Value → Shared → Prop} (hh : A.handled = none) (ht : s.heap.IsList t items)
    (hQ : ∀ h', Heap.ExtBut s.heap.objs.size s.heap h' → Q items.toList { s with heap := h' }) : wpAny (model prog w) A (unpackItems (.ref t) items.size none) Q E s := by
  have hlt : t ≠ s.heap.objs.size := by obtain ⟨o, ho, _⟩ := ht; exact Nat.ne_of_lt (Heap.lt_size ho)
  unfold unpackItems
  refine wpAny_bind ?_
  · unfold notIterableAtAll
    refine wpAny_bind (wpAny_specialOf ht.typeIs F.slot_list_iter.lookup ?_)
    refine wpAny_pure ?_
    simp only [Bool.false_eq_true, if_false]
    refine wpAny_bind (wpAny_holding (wpAny_pyIter_list ht ?_))
    refine wpAny_bind (wpAny_holding (draw_list hlt items.size 0 _ _ ⟨_, Heap.get?_push_size _ rfl, rfl, rfl⟩ (ht.push _) (by omega) fun h₁ hit₁ hs₁ => ?_))
    have hall : List.take items.size (List.drop 0 items.toList) = items.toList := by
      rw [List.drop_zero]; exact List.take_of_length_le (by simp)
    rw [hall]
    rw [if_neg (by simp)]
    have ht₁ : h₁.IsList t items := (ht.push _).extBut hs₁.extBut hlt
    refine wpAny_bind (wpAny_holding (wpAny_pyNext_list_end hh hit₁ ht₁ (by simp) fun h₂ he₂ => ?_))
    simp only [Option.isSome_none, Bool.false_eq_true, if_false]
    refine wpAny_pure (hQ h₂ fun b o hb e => he₂ b o hb (hs₁.extBut b o hb (Heap.get?_push_of_some _ e)))
theorem unpack_list {t : Addr} {items : Array Value} {targets : List (Bool × (Value → Sem Unit))} {Q : Unit → Shared → Prop} (hh : A.handled = none) (ht : s.heap.IsList t items)
    (hn : targets.length = items.size) (hstar : targets.findIdx? (·.1) = none)
    (h : ∀ h', Heap.ExtBut s.heap.objs.size s.heap h' → wpAny (model prog w) A (assignInOrder (targets.map (·.2)) items.toList) Q E { s with heap := h' }) :
    wpAny (model prog w) A (unpack (.ref t) targets) Q E s := by
  unfold unpack
  rw [hn, hstar]
  exact wpAny_bind (wpAny_holding (unpackItems_list hh ht h))
theorem assign_TupleL {env : PySem.Env} {elts : List Expr} {x1} {pos : Pos} {t : Addr} {items : Array Value} {Q : Unit → Shared → Prop} (hh : A.handled = none) (ht : s.heap.IsList t items)
    (hn : (assignEach elts env).length = items.size) (hstar : (assignEach elts env).findIdx? (·.1) = none)
    (h : ∀ h', Heap.ExtBut s.heap.objs.size s.heap h' → wpAny (model prog w) A (assignInOrder ((assignEach elts env).map (·.2)) items.toList) Q E { s with heap := h' }) :
    wpAny (model prog w) A (assign (.Tuple elts x1 pos) env (.ref t)) Q E s := by
  rw [arm_assign_Tuple]
  exact wpAny_bind (wpAny_standAt (unpack_list hh ht hn hstar h))
end
end En
/-! En8: targets, what is walked, comprehensions. -/
namespace En
open PySem L2 PyProof.Rows
/-! ### places of names -/
theorem wip_length (r : Env) : ∀ vs : List Nat, (wip r vs).length = r.length
  | [] => rfl
  | v :: vs => by unfold wip; rw [List.length_set, wip_length r vs]
theorem wip_some {r : Env} {i : Nat} {x : Slot} : ∀ {vs : List Nat}, (wip r vs)[i]? = some (some x) → r[i]? = some (some x) ∧ i ∉ vs
  | [], h => ⟨h, by simp⟩
  | v :: vs, h => by
    unfold wip at h
    by_cases hi : v = i
    · subst hi
      by_cases hv : v < (wip r vs).length
      · rw [List.getElem?_set_self hv] at h; cases h
      · rw [List.getElem?_eq_none (by simpa using hv)] at h; cases h
    · rw [List.getElem?_set_ne hi] at h
      obtain ⟨h1, h2⟩ := wip_some h
      exact ⟨h1, by simp only [List.mem_cons, not_or]; exact ⟨fun e => hi e.symm, h2⟩⟩
theorem wipe_get {σ : St} {i : Nat} : ∀ {vs : List Nat}, i ∉ vs → (wipe σ vs)[i]? = σ[i]?
  | [], _ => rfl
  | v :: vs, h => by
    simp only [List.mem_cons, not_or] at h
    unfold wipe
    rw [List.getElem?_set_ne (fun e => h.1 e.symm), wipe_get h.2]
theorem wipe_in {σ : St} {i : Nat} : ∀ {vs : List Nat}, i ∈ vs → i < σ.length → (wipe σ vs)[i]? = some none
  | v :: vs, h, hl => by
    unfold wipe
    by_cases e : v = i
    · subst e
      rw [List.getElem?_set_self (by rw [wipe_length]; exact hl)]
    · rw [List.getElem?_set_ne e]
      rcases List.mem_cons.mp h with q | q
      · exact absurd q.symm e
      · exact wipe_in q hl
theorem wipe_set {σ : St} {i : Nat} {x : Option V} {vs : List Nat} (h : i ∈ vs) : wipe (σ.set i x) vs = wipe σ vs := by
  apply List.ext_getElem?
  intro j
  by_cases hj : j ∈ vs
  · by_cases hl : j < σ.length
    · rw [wipe_in hj hl, wipe_in hj (by rw [List.length_set]; exact hl)]
    · rw [List.getElem?_eq_none (by rw [wipe_length, List.length_set]; omega), List.getElem?_eq_none (by rw [wipe_length]; omega)]
  · rw [wipe_get hj, wipe_get hj, List.getElem?_set_ne (fun (e : i = j) => hj (by rw [← e]; exact h))]
section
variable {K : PySem.W.Frag} {H : Hp} {r : Env} {σ : St}
theorem RE.wipe (re : RE K H r σ) (vs : List Nat) : RE K H (wip r vs) (L2.wipe σ vs) := by
  refine ⟨fun i s e => ?_, fun i j xs ys ti tj v e1 e2 e3 e4 => ?_, by rw [wip_length, wipe_length]; exact re.len⟩
  · obtain ⟨e1, e2⟩ := wip_some e
    obtain ⟨v, h1, h2⟩ := re.at_ i s e1
    exact ⟨v, by rw [wipe_get e2]; exact h1, h2⟩
  · exact re.inj i j xs ys ti tj v (wip_some e1).1 (wip_some e2).1 (wipe_some e3).1 (wipe_some e4).1
theorem set_own {r : Env} {i j : Nat} {s t : Slot} (e : (r.set i (some t))[j]? = some (some s)) : (j = i ∧ s = t ∧ i < r.length) ∨ (j ≠ i ∧ r[j]? = some (some s)) := by
  by_cases h : i = j
  · subst h
    by_cases hl : i < r.length
    · rw [List.getElem?_set_self hl] at e
      cases e
      exact .inl ⟨rfl, rfl, hl⟩
    · rw [List.getElem?_eq_none (by rw [List.length_set]; omega)] at e
      cases e
  · rw [List.getElem?_set_ne h] at e
    exact .inr ⟨fun z => h z.symm, e⟩
theorem RE.setV {d : D} {v : V} (re : RE K H r σ) (i : Nat) (rd : RD K H d v) : RE K H (r.set i (some (.val d))) (σ.set i (some v)) := by
  refine ⟨fun j s e => ?_, fun j k xs ys tj tk u e1 e2 e3 e4 => ?_, by rw [List.length_set, List.length_set]; exact re.len⟩
  · rcases set_own e with ⟨rfl, rfl, hl⟩ | ⟨hj, e⟩
    · exact ⟨v, List.getElem?_set_self (by rw [← re.len]; exact hl), rd⟩
    · obtain ⟨w, h1, h2⟩ := re.at_ j s e
      exact ⟨w, by rw [List.getElem?_set_ne (fun z => hj z.symm)]; exact h1, h2⟩
  · rcases set_own e1 with ⟨_, q, _⟩ | ⟨hj, e1⟩
    · cases q
    · rcases set_own e2 with ⟨_, q, _⟩ | ⟨hk, e2⟩
      · cases q
      · rw [List.getElem?_set_ne (fun z => hj z.symm)] at e3
        rw [List.getElem?_set_ne (fun z => hk z.symm)] at e4
        exact re.inj j k xs ys tj tk u e1 e2 e3 e4
theorem RE.setO {xs : List D} {p : Addr} {us : List V} (re : RE K H r σ) (i : Nat) (h : H p = some (.lst us)) (rd : RDs K H xs us) (hn : ∀ j ys u, j ≠ i → r[j]? = some (some (.own ys u)) → σ[j]? ≠ some (some (.ref p))) (t : Option Addr) (ht : ∀ a, t = some a → p = a) :
    RE K H (r.set i (some (.own xs t))) (σ.set i (some (.ref p))) := by
  refine ⟨fun j s e => ?_, fun j k ys zs tj tk u e1 e2 e3 e4 => ?_, by rw [List.length_set, List.length_set]; exact re.len⟩
  · rcases set_own e with ⟨rfl, rfl, hl⟩ | ⟨hj, e⟩
    · exact ⟨.ref p, List.getElem?_set_self (by rw [← re.len]; exact hl), p, us, rfl, h, rd, ht⟩
    · obtain ⟨w, h1, h2⟩ := re.at_ j s e
      exact ⟨w, by rw [List.getElem?_set_ne (fun z => hj z.symm)]; exact h1, h2⟩
  · rcases set_own e1 with ⟨j1, q, hl⟩ | ⟨hj, f1⟩
    · rcases set_own e2 with ⟨k1, q, _⟩ | ⟨hk, f2⟩
      · rw [j1, k1]
      · subst j1
        rw [List.getElem?_set_self (by rw [← re.len]; exact hl)] at e3
        cases e3
        rw [List.getElem?_set_ne (fun z => hk z.symm)] at e4
        exact absurd e4 (hn k zs _ hk f2)
    · rw [List.getElem?_set_ne (fun z => hj z.symm)] at e3
      rcases set_own e2 with ⟨k1, q, hl⟩ | ⟨hk, f2⟩
      · subst k1
        rw [List.getElem?_set_self (by rw [← re.len]; exact hl)] at e4
        cases e4
        exact absurd e3 (hn j ys _ hj f1)
      · rw [List.getElem?_set_ne (fun z => hk z.symm)] at e4
        exact re.inj j k ys zs tj tk u f1 f2 e3 e4
end
/-! ### targets -/
def Wd (is : List Nat) (σ σ' : St) : Prop := ∀ vs : List Nat, (∀ i ∈ is, i ∈ vs) → wipe σ' vs = wipe σ vs
section
variable {X : Cx} {G : Cfg} {C : Call} {W : WX}
def rdG (G : Cfg) (t : Tg) : TG := fun v σ H Q => ∃ d r, RE G.K H r σ ∧ RD G.K H d v ∧ bindTg t d r fun r' => ∀ σ', RE G.K H r' σ' → Wd (tgIx t) σ σ' → Q σ' H
def rdGs (G : Cfg) (t : Tgs) : TGs := fun vs σ H Q => ∃ ds r, RE G.K H r σ ∧ RDs G.K H ds vs ∧ bindTgs t ds r fun r' => ∀ σ', RE G.K H r' σ' → Wd (tgsIx t) σ σ' → Q σ' H
theorem PG.imp {e : Expr} {t t' : TG} (h : PG X e t) (w : ∀ v σ H Q, t' v σ H Q → t v σ H Q) : PG X e t' := ⟨fun pins s σ H v u Q I r q => h.run pins s σ H v u Q I r (w v σ H Q q)⟩
theorem PGs.imp {e : List Expr} {t t' : TGs} (h : PGs X e t) (w : ∀ v σ H Q, t' v σ H Q → t v σ H Q) : PGs X e t' := ⟨fun pins s σ H v u Q I r q => h.run pins s σ H v u Q I r (w v σ H Q q)⟩
theorem g_name {i : Nat} {x : Str} {pos : Pos} (hN : X.N.Nodup) (hi : X.N[i]? = some x) (hx : Loc X.env.scope x) (hf : X.fn x = true ∨ X.env.scope.names.lookup x = some .local) : PG X (.Name x pos) (rdG G (.nm i)) := by
  refine PG.imp (pg_name hN hi hx hf) fun v σ H Q ⟨d, r, re, rd, z⟩ => ?_
  unfold bindTg at z
  refine z _ (re.setV i rd) fun vs hv => wipe_set (hv i (by simp [tgIx]))
theorem gs_nil : PGs X [] (rdGs G .nil) := by
  refine PGs.imp pgs_nil fun v σ H Q ⟨d, r, re, rd, z⟩ => ?_
  unfold bindTgs at z
  obtain ⟨e, z⟩ := z
  subst e
  cases rd
  exact ⟨rfl, z σ re fun vs _ => rfl⟩
theorem gs_cons {e : Expr} {es : List Expr} {t : Tg} {u : Tgs} (h1 : PG X e (rdG G t)) (h2 : PGs X es (rdGs G u)) (hs : (assignEach (e :: es) X.env).map (·.2) = assign e X.env :: (assignEach es X.env).map (·.2)) : PGs X (e :: es) (rdGs G (.cons t u)) := by
  refine PGs.imp (pgs_cons h1 h2 hs) fun v σ H Q ⟨ds, r, re, rd, z⟩ => ?_
  unfold bindTgs at z
  obtain ⟨x, xs, e, z⟩ := z
  subst e
  cases rd with
  | cons ra rb =>
    refine ⟨_, _, rfl, _, r, re, ra, bindTg_mono t _ _ _ _ (fun r' q σ' re' wd => ?_) z⟩
    refine ⟨_, r', re', rb, bindTgs_mono u _ _ _ _ (fun r2 q σ2 re2 wd2 => q σ2 re2 fun vs hv => ?_) q⟩
    rw [wd2 vs fun i hi => hv i (by simp [tgsIx, hi]), wd vs fun i hi => hv i (by simp [tgsIx, hi])]
mutual
theorem bindTg_ends : ∀ (t : Tg) (x : D) (r : Env) (K : Env → Prop), bindTg t x r K → ∃ r', K r'
  | .nm i, x, r, K, z => by unfold bindTg at z; exact ⟨_, z⟩
  | .tp ts, x, r, K, z => by
    unfold bindTg at z
    obtain ⟨ds, _, z⟩ := z
    exact bindTgs_ends ts ds r K z
theorem bindTgs_ends : ∀ (t : Tgs) (x : List D) (r : Env) (K : Env → Prop), bindTgs t x r K → ∃ r', K r'
  | .nil, x, r, K, z => by unfold bindTgs at z; exact ⟨_, z.2⟩
  | .cons t ts, x, r, K, z => by
    unfold bindTgs at z
    obtain ⟨x, xs, _, z⟩ := z
    obtain ⟨r', q⟩ := bindTg_ends t x r _ z
    exact bindTgs_ends ts xs r' K q
end
def tgsLen : Tgs → Nat
  | .nil => 0
  | .cons _ r => tgsLen r + 1
theorem bindTgs_length : ∀ (ts : Tgs) (ds : List D) (r : Env) (K : Env → Prop), bindTgs ts ds r K → ds.length = tgsLen ts
  | .nil, ds, r, K, z => by
    unfold bindTgs at z
    rw [z.1]
    rfl
  | .cons t ts, ds, r, K, z => by
    unfold bindTgs at z
    obtain ⟨x, xs, e, z⟩ := z
    subst e
    obtain ⟨r', q⟩ := bindTg_ends t x r _ z
    have := bindTgs_length ts xs r' K q
    simp [tgsLen, this]
def gTupL (K : PySem.W.Frag) (n : Nat) (t : TGs) : TG := fun v σ H Q => ∃ a xs, v = .ref a ∧ SqL K H a xs ∧ xs.length = n ∧ t xs σ H Q
theorem pg_tupL {es : List Expr} {k : Nat} {t : TGs} {n : Nat} {pos : Pos} (hc : X.calm = true) (h : PGs X es t)
    (hn : (assignEach es X.env).length = n) (hst : (assignEach es X.env).findIdx? (·.1) = none) : PG X (.Tuple es k pos) (gTupL X.K n t) := by
  refine ⟨fun pins s σ H v u Q I r hw => ?_⟩
  obtain ⟨a, xs, e1, hq, hl, hw⟩ := hw
  subst e1
  cases r
  obtain ⟨its, rv, pl, hz⟩ := I.list hq
  refine assign_TupleL (I.ok.hd hc) pl.isList (by simp [hn, ← hl, L2.Vals.length rv]) hst fun h' hx => ?_
  have I1 : Inv X pins σ H { s with heap := h' } := I.kept (t' := s.toks) fun b o e => hx b o (Nat.ne_of_lt (Heap.lt_size e)) e
  exact h.run pins _ σ H xs _ Q I1 (by simpa using rv) hw
theorem g_tup {es : List Expr} {k : Nat} {t : Tgs} {pos : Pos} (hc : X.calm = true) (hK : X.K = G.K) (h : PGs X es (rdGs G t)) (hn : (assignEach es X.env).length = tgsLen t) (hst : (assignEach es X.env).findIdx? (·.1) = none) : PG X (.Tuple es k pos) (rdG G (.tp t)) := by
  refine ⟨fun pins s σ H v u Q I rr ⟨d, r, re, rd, z⟩ => ?_⟩
  unfold bindTg at z
  obtain ⟨ds, e, z⟩ := z
  have go : ∀ {xs : List V}, RDs G.K H ds xs → xs.length = tgsLen t ∧ rdGs G t xs σ H Q := fun {xs} rs => ⟨by rw [← rs.length]; exact bindTgs_length t _ _ _ z, ds, r, re, rs, bindTgs_mono t _ _ _ _ (fun r' q σ' re' wd => q σ' re' fun vs hv => wd vs fun i hi => hv i (by simpa [tgIx] using hi)) z⟩
  cases rd with
  | tup hq rs =>
    cases e
    exact (pg_tup hc h hn hst).run pins s σ H _ u Q I rr ⟨_, _, rfl, by rw [hK]; exact hq, (go rs).1, (go rs).2⟩
  | lst hq rs =>
    cases e
    exact (pg_tupL hc h hn hst).run pins s σ H _ u Q I rr ⟨_, _, rfl, by rw [hK]; exact hq.sq, (go rs).1, (go rs).2⟩
  | _ => cases e
theorem compT_nostar {sc : Scope} {N : List Str} {n : Nat} {e : Expr} {t : Tg} (h : compT sc N n e = some t) (env : PySem.Env) (es : List Expr) : assignEach (e :: es) env = (false, assign e env) :: assignEach es env := by
  cases n with
  | zero => simp [compT] at h
  | succ n => cases e <;> first
    | rfl
    | (simp [compT] at h)
mutual
theorem compT_ok {sc : Scope} {N : List Str} (hs : X.env.scope = sc) (hN : X.N = N) (hd : N.Nodup) (hc : X.calm = true) (hK : X.K = G.K) : ∀ (n : Nat) (e : Expr) (t : Tg), compT sc N n e = some t → (∀ i ∈ tgIx t, ∀ x, N[i]? = some x → X.fn x = true ∨ X.env.scope.names.lookup x = some .local) → PG X e (rdG G t)
  | 0, e, t, h, _ => by simp [compT] at h
  | n + 1, e, t, h, hf => by
    cases e with
    | Name x pos =>
      simp only [compT] at h
      split at h
      · rename_i hl
        cases q : ixOf N x with
        | none => rw [q] at h; cases h
        | some i =>
          rw [q] at h
          cases h
          have hi := ixOf_get q
          refine g_name (by rw [hN]; exact hd) (by rw [hN]; exact hi) ?_ (hf i (by simp [tgIx]) x hi)
          unfold isLoc at hl
          rw [hs]
          simp only [Bool.or_eq_true, beq_iff_eq] at hl
          exact hl
      · cases h
    | Tuple es k pos =>
      simp only [compT] at h
      cases q : compTs sc N n es with
      | none => rw [q] at h; cases h
      | some ts =>
        rw [q] at h
        cases h
        obtain ⟨h1, h2, h3⟩ := compTs_ok hs hN hd hc hK n es ts q fun i hi => hf i (by simpa [tgIx] using hi)
        exact g_tup hc hK h1 h2 h3
    | _ => simp [compT] at h
theorem compTs_ok {sc : Scope} {N : List Str} (hs : X.env.scope = sc) (hN : X.N = N) (hd : N.Nodup) (hc : X.calm = true) (hK : X.K = G.K) : ∀ (n : Nat) (es : List Expr) (t : Tgs), compTs sc N n es = some t → (∀ i ∈ tgsIx t, ∀ x, N[i]? = some x → X.fn x = true ∨ X.env.scope.names.lookup x = some .local) →
    PGs X es (rdGs G t) ∧ (assignEach es X.env).length = tgsLen t ∧ (assignEach es X.env).findIdx? (·.1) = none
  | n, [], t, h, _ => by
    have e : t = .nil := by cases n <;> simp [compTs] at h <;> exact h.symm
    subst e
    exact ⟨gs_nil, rfl, rfl⟩
  | 0, e :: es, t, h, _ => by simp [compTs] at h
  | n + 1, e :: es, t, h, hf => by
    simp only [compTs] at h
    cases q : compT sc N n e with
    | none => rw [q] at h; cases h
    | some u =>
      rw [q] at h
      cases q2 : compTs sc N n es with
      | none => rw [q2] at h; cases h
      | some us =>
        rw [q2] at h
        cases h
        have e1 := compT_nostar q X.env es
        obtain ⟨h1, h2, h3⟩ := compTs_ok hs hN hd hc hK n es us q2 fun i hi => hf i (by simp [tgsIx, hi])
        refine ⟨gs_cons (compT_ok hs hN hd hc hK n e u q fun i hi => hf i (by simp [tgsIx, hi])) h1 (by rw [e1]; rfl), by rw [e1]; simp [tgsLen, h2], ?_⟩
        rw [e1, List.findIdx?_cons]
        simp only [h3]
        rfl
end
end
end En
/-! En9: what is walked; comprehensions. -/
namespace En
open PySem L2 PyProof.Rows
/-- J walks these items; S is what may happen meanwhile -/
def Wk (G : Cfg) (S : Hp → Hp → Prop) (J : It) (items : List D) (H : Hp) : Prop :=
  ∃ Gd : Hp → Prop, Gd H ∧ (∀ H1 H2, Gd H1 → S H1 H2 → Gd H2) ∧ Walk J items.length Gd fun i H x H' => ExN H H' ∧ (Tb G H → Tb G H') ∧ ∃ d, items[i]? = some d ∧ RD G.K H' d x
section
variable {G : Cfg} {S : Hp → Hp → Prop} {Rel : Hp → D → V → Prop} {H : Hp}
variable (hR : ∀ H d v, Rel H d v → RB G.K H d v) (hS : ∀ H1 H2 d v, Rel H1 d v → S H1 H2 → Rel H2 d v)
include hR hS
theorem wk_lst {xs : List D} {p : Addr} (h : Rel H (.lst xs) (.ref p)) : Wk G S (Itl G.K p) xs H := by
  refine ⟨fun H => Rel H (.lst xs) (.ref p), h, fun H1 H2 q s => hS _ _ _ _ q s, fun i H hi q => ?_, fun H q => ?_, fun i H x H' hi q y => ?_⟩
  · obtain ⟨p', us, e, hq, rs⟩ := (hR _ _ _ q).lst
    cases e
    have hl := rs.length
    exact ⟨us, us[i]'(by omega), hq, by simp [show i < us.length by omega]⟩
  · obtain ⟨p', us, e, hq, rs⟩ := (hR _ _ _ q).lst
    cases e
    exact ⟨us, hq, by rw [rs.length]; exact Nat.le_refl _⟩
  · obtain ⟨p', us, e, hq, rs⟩ := (hR _ _ _ q).lst
    cases e
    obtain ⟨e, y⟩ := y
    subst e
    obtain ⟨d, e1, e2⟩ := rs.getv (y us hq)
    exact ⟨LamX.ExtN.refl _, fun t => t, d, e1, e2⟩
theorem wk_tup {xs : List D} {p : Addr} (h : Rel H (.tup xs) (.ref p)) : Wk G S (Itt G.K p) xs H := by
  have key : ∀ H, Rel H (.tup xs) (.ref p) → ∃ us, SqT G.K H p us ∧ RDs G.K H xs us := fun H q => by
    cases (hR _ _ _ q).rd (fun _ z => nomatch z) with
    | tup hq rs => exact ⟨_, hq, rs⟩
  refine ⟨fun H => Rel H (.tup xs) (.ref p), h, fun H1 H2 q s => hS _ _ _ _ q s, fun i H hi q => ?_, fun H q => ?_, fun i H x H' hi q y => ?_⟩
  · obtain ⟨us, hq, rs⟩ := key H q
    have hl := rs.length
    exact ⟨us, us[i]'(by omega), hq, by simp [show i < us.length by omega]⟩
  · obtain ⟨us, hq, rs⟩ := key H q
    exact ⟨us, hq, by rw [rs.length]; exact Nat.le_refl _⟩
  · obtain ⟨us, hq, rs⟩ := key H q
    obtain ⟨e, y⟩ := y
    subst e
    obtain ⟨d, e1, e2⟩ := rs.getv (y us hq)
    exact ⟨LamX.ExtN.refl _, fun t => t, d, e1, e2⟩
omit hR hS in
theorem pair_new {H : Hp} {T : Addr} {x y : V} {d e : D} (hT : H T = none) (r1 : RD G.K H d x) (r2 : RD G.K H e y) : ExN H (upd H T (.tup [x, y])) ∧ (Tb G H → Tb G (upd H T (.tup [x, y]))) ∧ RD G.K (upd H T (.tup [x, y])) (.tup [d, e]) (.ref T) := by
  have x1 : ExN H (upd H T (.tup [x, y])) := ExN.new hT
  exact ⟨x1, fun t => Tabs.new t hT, .tup (SqT.of upd_same) (.cons (r1.stb (ExN.stb x1)) (.cons (r2.stb (ExN.stb x1)) .nil))⟩
omit hR hS in
theorem enumD_len (xs : List D) : (enumD xs).length = xs.length := by simp [enumD]
omit hR hS in
theorem enumD_get {xs : List D} {i : Nat} {d : D} (h : xs[i]? = some d) : (enumD xs)[i]? = some (.tup [.int (i : Nat), d]) := by
  have hl : i < xs.length := by
    rcases Nat.lt_or_ge i xs.length with z | z
    · exact z
    · rw [List.getElem?_eq_none z] at h; cases h
  unfold enumD
  rw [List.getElem?_map, List.getElem?_range hl]
  simp [List.getD, h]
theorem wk_enL {xs : List D} {p : Addr} (h : Rel H (.lst xs) (.ref p)) : Wk G S (Ite G.K p) (enumD xs) H := by
  refine ⟨fun H => Rel H (.lst xs) (.ref p), h, fun H1 H2 q s => hS _ _ _ _ q s, fun i H hi q => ?_, fun H q => ?_, fun i H x H' hi q y => ?_⟩
  · obtain ⟨p', us, e, hq, rs⟩ := (hR _ _ _ q).lst
    cases e
    have hl := rs.length
    rw [enumD_len] at hi
    exact walk_enum.goes i H (by omega) hq
  · obtain ⟨p', us, e, hq, rs⟩ := (hR _ _ _ q).lst
    cases e
    rw [enumD_len, rs.length]
    exact walk_enum.stops H hq
  · obtain ⟨p', us, e, hq, rs⟩ := (hR _ _ _ q).lst
    cases e
    rw [enumD_len, rs.length] at hi
    obtain ⟨T, a, b, e1, e2, e3, e4, e5⟩ := walk_enum.yields i H x H' hi hq y
    cases e4
    subst e1 e3
    obtain ⟨d, f1, f2⟩ := rs.getv e5
    obtain ⟨g1, g2, g3⟩ := pair_new e2 (RD.int (K := G.K) (H := H) (i : Nat)) f2
    exact ⟨g1, g2, _, enumD_get f1, g3⟩
theorem wk_enT {xs : List D} {p : Addr} (h : Rel H (.tup xs) (.ref p)) : Wk G S (IteT G.K p) (enumD xs) H := by
  have key : ∀ H, Rel H (.tup xs) (.ref p) → ∃ us, SqT G.K H p us ∧ RDs G.K H xs us := fun H q => by
    cases (hR _ _ _ q).rd (fun _ z => nomatch z) with
    | tup hq rs => exact ⟨_, hq, rs⟩
  refine ⟨fun H => Rel H (.tup xs) (.ref p), h, fun H1 H2 q s => hS _ _ _ _ q s, fun i H hi q => ?_, fun H q => ?_, fun i H x H' hi q y => ?_⟩
  · obtain ⟨us, hq, rs⟩ := key H q
    have hl := rs.length
    rw [enumD_len] at hi
    exact walk_enumT.goes i H (by omega) hq
  · obtain ⟨us, hq, rs⟩ := key H q
    rw [enumD_len, rs.length]
    exact walk_enumT.stops H hq
  · obtain ⟨us, hq, rs⟩ := key H q
    rw [enumD_len, rs.length] at hi
    obtain ⟨T, a, b, e1, e2, e3, e4, e5⟩ := walk_enumT.yields i H x H' hi hq y
    cases e4
    subst e1 e3
    obtain ⟨d, f1, f2⟩ := rs.getv e5
    obtain ⟨g1, g2, g3⟩ := pair_new e2 (RD.int (K := G.K) (H := H) (i : Nat)) f2
    exact ⟨g1, g2, _, enumD_get f1, g3⟩
omit hR hS in
theorem zipD_get {xs ys : List D} {i : Nat} {d e : D} (h : xs[i]? = some d) (g : ys[i]? = some e) : (zipD xs ys)[i]? = some (.tup [d, e]) := by
  unfold zipD
  rw [List.getElem?_zipWith, h, g]
omit hR hS in
theorem zipD_len (xs ys : List D) : (zipD xs ys).length = min xs.length ys.length := by simp [zipD]
theorem wk_zipL {xs ys : List D} {p q : Addr} (h : Rel H (.lst xs) (.ref p)) (g : Rel H (.lst ys) (.ref q)) : Wk G S (Itz G.K p q) (zipD xs ys) H := by
  refine ⟨fun H => Rel H (.lst xs) (.ref p) ∧ Rel H (.lst ys) (.ref q), ⟨h, g⟩, fun H1 H2 z s => ⟨hS _ _ _ _ z.1 s, hS _ _ _ _ z.2 s⟩, fun i H hi z => ?_, fun H z => ?_, fun i H x H' hi z y => ?_⟩
  · obtain ⟨p', us, e, hq, rs⟩ := (hR _ _ _ z.1).lst
    obtain ⟨q', ws, e', hq', rs'⟩ := (hR _ _ _ z.2).lst
    cases e
    cases e'
    rw [zipD_len, rs.length, rs'.length] at hi
    exact (walk_zip rfl).goes i H hi ⟨hq, hq'⟩
  · obtain ⟨p', us, e, hq, rs⟩ := (hR _ _ _ z.1).lst
    obtain ⟨q', ws, e', hq', rs'⟩ := (hR _ _ _ z.2).lst
    cases e
    cases e'
    rw [zipD_len, rs.length, rs'.length]
    exact (walk_zip rfl).stops H ⟨hq, hq'⟩
  · obtain ⟨p', us, e, hq, rs⟩ := (hR _ _ _ z.1).lst
    obtain ⟨q', ws, e', hq', rs'⟩ := (hR _ _ _ z.2).lst
    cases e
    cases e'
    rw [zipD_len, rs.length, rs'.length] at hi
    obtain ⟨T, a, b, e1, e2, e3, e4, e5⟩ := (walk_zip rfl).yields i H x H' hi ⟨hq, hq'⟩ y
    subst e1 e3
    obtain ⟨d, f1, f2⟩ := rs.getv e4
    obtain ⟨d', f1', f2'⟩ := rs'.getv e5
    obtain ⟨g1, g2, g3⟩ := pair_new e2 f2 f2'
    exact ⟨g1, g2, _, zipD_get f1 f1', g3⟩
omit hR hS in
theorem walk_zipT {K : PySem.W.Frag} {a b : Addr} {xs ys : List V} {n : Nat} (hn : n = min xs.length ys.length) : Walk (RZ.ItzT K a b) n (fun H => SqT K H a xs ∧ SqT K H b ys) (YPair (fun i => xs[i]?) (fun i => ys[i]?)) := by
  subst hn
  refine ⟨fun i _ hi q => ?_, fun _ q => ⟨xs, ys, q.1, q.2, by omega⟩, fun i H v H' _ q y => ?_⟩
  · have h1 : i < xs.length := by omega
    have h2 : i < ys.length := by omega
    exact ⟨xs, ys, xs[i], ys[i], q.1, q.2, by simp [h1], by simp [h2]⟩
  · obtain ⟨T, x, z, h1, h2, h3, h4, h5⟩ := y
    exact ⟨T, x, z, h1, h2, h3, h4 xs q.1, h5 ys q.2⟩
theorem wk_zipT {xs ys : List D} {p q : Addr} (h : Rel H (.tup xs) (.ref p)) (g : Rel H (.tup ys) (.ref q)) : Wk G S (RZ.ItzT G.K p q) (zipD xs ys) H := by
  have key : ∀ H xs p, Rel H (.tup xs) (.ref p) → ∃ us, SqT G.K H p us ∧ RDs G.K H xs us := fun H xs p q => by
    cases (hR _ _ _ q).rd (fun _ z => nomatch z) with
    | tup hq rs => exact ⟨_, hq, rs⟩
  refine ⟨fun H => Rel H (.tup xs) (.ref p) ∧ Rel H (.tup ys) (.ref q), ⟨h, g⟩, fun H1 H2 z s => ⟨hS _ _ _ _ z.1 s, hS _ _ _ _ z.2 s⟩, fun i H hi z => ?_, fun H z => ?_, fun i H x H' hi z y => ?_⟩
  · obtain ⟨us, hq, rs⟩ := key _ _ _ z.1
    obtain ⟨ws, hq', rs'⟩ := key _ _ _ z.2
    rw [zipD_len, rs.length, rs'.length] at hi
    exact (walk_zipT rfl).goes i H hi ⟨hq, hq'⟩
  · obtain ⟨us, hq, rs⟩ := key _ _ _ z.1
    obtain ⟨ws, hq', rs'⟩ := key _ _ _ z.2
    rw [zipD_len, rs.length, rs'.length]
    exact (walk_zipT rfl).stops H ⟨hq, hq'⟩
  · obtain ⟨us, hq, rs⟩ := key _ _ _ z.1
    obtain ⟨ws, hq', rs'⟩ := key _ _ _ z.2
    rw [zipD_len, rs.length, rs'.length] at hi
    obtain ⟨T, a, b, e1, e2, e3, e4, e5⟩ := (walk_zipT rfl).yields i H x H' hi ⟨hq, hq'⟩ y
    subst e1 e3
    obtain ⟨d, f1, f2⟩ := rs.getv e4
    obtain ⟨d', f1', f2'⟩ := rs'.getv e5
    obtain ⟨g1, g2, g3⟩ := pair_new e2 f2 f2'
    exact ⟨g1, g2, _, zipD_get f1 f1', g3⟩
omit hR hS in
theorem wk_str {x : Str} : Wk G S (Its x) (x.cps.toList.map fun c => .str ⟨#[c]⟩) H := by
  refine ⟨fun _ => True, trivial, fun _ _ _ _ => trivial, fun i H hi _ => ?_, fun H _ => ?_, fun i H v H' hi _ y => ?_⟩
  · show i < x.cps.size
    simpa using hi
  · show x.cps.size ≤ _
    simp
  · obtain ⟨e, c, h1, h2⟩ := y
    subst e h2
    refine ⟨LamX.ExtN.refl _, fun t => t, .str ⟨#[c]⟩, ?_, .str _⟩
    rw [List.getElem?_map]
    simp [h1]
omit hR hS in
theorem wk_rng {lo : Int} {n : Nat} : Wk G S (Itr lo n) ((List.range n).map fun k => .int (lo + (k : Nat))) H := by
  refine ⟨fun _ => True, trivial, fun _ _ _ _ => trivial, fun i H hi _ => ?_, fun H _ => ?_, fun i H v H' hi _ y => ?_⟩
  · show i < n
    simpa using hi
  · show n ≤ _
    simp
  · obtain ⟨e, y⟩ := y
    subst e y
    refine ⟨LamX.ExtN.refl _, fun t => t, .int (lo + i), ?_, .int _⟩
    rw [List.getElem?_map, List.getElem?_range (by simpa using hi)]
    rfl
end
/-! ### judgements -/
section
variable {X : Cx} {G : Cfg} {C : Call} {W : WX}
theorem PI.imp {tg e : Expr} {t t' : TI} (h : PI X tg e t) (w : ∀ σ H Q, t' σ H Q → t σ H Q) : PI X tg e t' := ⟨fun pins s σ H R I q => h.run pins s σ H R I (w σ H R q)⟩
def iSeq (K : PySem.W.Frag) (te : TE) : TI := fun σ H R => te σ H fun x H1 => (∃ a xs, x = .ref a ∧ SqL K H1 a xs ∧ R (Itl K a) H1) ∨ (∃ a xs, x = .ref a ∧ SqT K H1 a xs ∧ R (Itt K a) H1) ∨ ∃ y, x = .str y ∧ R (Its y) H1
theorem pi_seq {tg l : Expr} {tl : TE} (hl : PE X l tl) : PI X tg l (iSeq X.K tl) := by
  refine ⟨fun pins s σ H R I h => ?_⟩
  refine thn (hl.run pins s σ H _ I h) fun v s1 ⟨x, H1, I1, r1, q1⟩ => ?_
  rcases q1 with ⟨a, xs, e, hq, q⟩ | ⟨a, xs, e, hq, q⟩ | ⟨y, e, q⟩
  · subst e
    cases r1
    obtain ⟨its, rv, p, hz⟩ := I1.list hq
    exact wpAny_pyIter_list p.isList (pi_one (tk := s1.toks) I1 _ (turn_list a _) ⟨_, Heap.get?_push_size _ rfl, rfl, rfl⟩ q)
  · subst e
    cases r1
    obtain ⟨its, rv, p, hz⟩ := I1.tuple hq
    exact wpAny_pyIter_tuple (show s1.heap.IsTuple a its.toArray from p) (pi_one (tk := s1.toks) I1 _ (turn_tuple a _) ⟨_, Heap.get?_push_size _ rfl, rfl, rfl⟩ q)
  · subst e
    obtain ⟨t, rfl⟩ := r1
    cases ha : y.cps.all (· < 128)
    · exact wpAny_pyIter_wide ha (pi_one (tk := s1.toks) I1 _ (turn_str _ y t "str_iterator" (.inr rfl)) ⟨_, Heap.get?_push_size _ rfl, rfl, rfl⟩ q)
    · exact wpAny_pyIter_ascii ha (pi_one (tk := s1.toks) I1 _ (turn_str _ y t "str_ascii_iterator" (.inl rfl)) ⟨_, Heap.get?_push_size _ rfl, rfl, rfl⟩ q)
/-- as a comprehension walks it -/
def rdI (G : Cfg) (C : Call) (W : WX) (it : Ix) : TI := fun σ H R => ∃ r, RE G.K H r σ ∧ Tb G H ∧ evI G.B C it r (fun items => ∀ J H', Wk G ExN J items H' → ExN H H' → Tb G H' → R J H') (exq G W σ H)
theorem rbR (G : Cfg) : ∀ H d v, RB G.K H d v → RB G.K H d v := fun _ _ _ h => h
theorem rbS (G : Cfg) : ∀ H1 H2 d v, RB G.K H1 d v → ExN H1 H2 → RB G.K H2 d v := fun _ _ _ _ h x => h.ext x
theorem rdRB (G : Cfg) : ∀ H d v, RD G.K H d v → RB G.K H d v := fun _ _ _ h => .inl h
theorem rdSt (G : Cfg) : ∀ H1 H2 d v, RD G.K H1 d v → Stb H1 H2 → RD G.K H2 d v := fun _ _ _ _ h x => h.stb x
/-- a walked datum: which walk -/
theorem seq_case {S : Hp → Hp → Prop} {Rel : Hp → D → V → Prop} (hR : ∀ H d v, Rel H d v → RB G.K H d v) (hS : ∀ H1 H2 d v, Rel H1 d v → S H1 H2 → Rel H2 d v) {d : D} {v : V} {H1 : Hp} {F : List D → Prop} {R : It → Hp → Prop} (hd : Rel H1 d v) (z : seqW d F)
    (k : ∀ J items, Wk G S J items H1 → F items → R J H1) : (∃ a xs, v = .ref a ∧ SqL G.K H1 a xs ∧ R (Itl G.K a) H1) ∨ (∃ a xs, v = .ref a ∧ SqT G.K H1 a xs ∧ R (Itt G.K a) H1) ∨ ∃ y, v = .str y ∧ R (Its y) H1 := by
  unfold seqW at z
  split at z
  · obtain ⟨p, us, e, hq, rs⟩ := (hR _ _ _ hd).lst
    subst e
    exact .inl ⟨p, us, rfl, hq, k _ _ (wk_lst hR hS hd) z⟩
  · cases id ((hR _ _ _ hd).rd (fun _ z => nomatch z)) with
    | tup hq rs => exact .inr (.inl ⟨_, _, rfl, hq, k _ _ (wk_tup hR hS hd) z⟩)
  · cases (hR _ _ _ hd).rd (fun _ z => nomatch z)
    exact .inr (.inr ⟨_, rfl, k _ _ wk_str z.2⟩)
  · exact z.elim
theorem enu_case {S : Hp → Hp → Prop} {Rel : Hp → D → V → Prop} (hR : ∀ H d v, Rel H d v → RB G.K H d v) (hS : ∀ H1 H2 d v, Rel H1 d v → S H1 H2 → Rel H2 d v) {d : D} {v : V} {H1 : Hp} {F : List D → Prop} {R : It → Hp → Prop} (hd : Rel H1 d v) (z : enuW d fun xs => F (enumD xs))
    (k : ∀ J items, Wk G S J items H1 → F items → R J H1) : ∃ a xs, [v] = [.ref a] ∧ ((SqL G.K H1 a xs ∧ R (Ite G.K a) H1) ∨ (SqT G.K H1 a xs ∧ R (IteT G.K a) H1)) := by
  unfold enuW at z
  split at z
  · obtain ⟨p, us, e, hq, rs⟩ := (hR _ _ _ hd).lst
    subst e
    exact ⟨p, us, rfl, .inl ⟨hq, k _ _ (wk_enL hR hS hd) z⟩⟩
  · cases id ((hR _ _ _ hd).rd (fun _ z => nomatch z)) with
    | tup hq rs => exact ⟨_, _, rfl, .inr ⟨hq, k _ _ (wk_enT hR hS hd) z⟩⟩
  · exact z.elim
theorem zip_case {S : Hp → Hp → Prop} {Rel : Hp → D → V → Prop} (hR : ∀ H d v, Rel H d v → RB G.K H d v) (hS : ∀ H1 H2 d v, Rel H1 d v → S H1 H2 → Rel H2 d v) {d e : D} {v u : V} {H1 : Hp} {F : List D → Prop} {R : It → Hp → Prop} (hd : Rel H1 d v) (he : Rel H1 e u) (z : zipW d e fun xs ys => F (zipD xs ys))
    (k : ∀ J items, Wk G S J items H1 → F items → R J H1) : ∃ a b xs ys, [v, u] = [.ref a, .ref b] ∧ ((SqL G.K H1 a xs ∧ SqL G.K H1 b ys ∧ R (Itz G.K a b) H1) ∨ (SqT G.K H1 a xs ∧ SqT G.K H1 b ys ∧ R (RZ.ItzT G.K a b) H1)) := by
  unfold zipW at z
  split at z
  · obtain ⟨p, us, e1, hq, rs⟩ := (hR _ _ _ hd).lst
    obtain ⟨p', us', e2, hq', rs'⟩ := (hR _ _ _ he).lst
    subst e1 e2
    exact ⟨p, p', us, us', rfl, .inl ⟨hq, hq', k _ _ (wk_zipL hR hS hd he) z⟩⟩
  · cases id ((hR _ _ _ hd).rd (fun _ z => nomatch z)) with
    | tup hq rs =>
      cases id ((hR _ _ _ he).rd (fun _ z => nomatch z)) with
      | tup hq' rs' => exact ⟨_, _, _, _, rfl, .inr ⟨hq, hq', k _ _ (wk_zipT hR hS hd he) z⟩⟩
  · exact z.elim
section
variable (hB : G.B.Mono) (hC : MonoC C) (hK : X.K = G.K)
include hB hC hK
theorem i_seq {tg e : Expr} {i : Ex} (he : PE X e (rdS G C W i)) : PI X tg e (rdI G C W (.seq i)) := by
  refine PI.imp (pi_seq he) fun σ H R ⟨r, re, tb, z⟩ => ?_
  unfold evI at z
  refine s_bind hB hC re tb (LamX.ExtN.refl H) z fun dx x H1 rx x1 t1 z1 => ?_
  rw [hK]
  exact seq_case (rbR G) (rbS G) rx z1 fun J items wk f => f J H1 wk x1 t1
omit hK in
theorem i_rng1 {tg a : Expr} {i : Ex} {p pos : Pos} (hg : Gl X "range") (hm : X.mg "range" = none) (ha : PE X a (rdS G C W i)) (hs : starEach [a] X.env = [(false, eval a X.env)]) : PI X tg (.Call (.Name "range" p) [a] [] pos) (rdI G C W (.rng1 i)) := by
  refine PI.imp (pi_range1 hg hm (as_cons hB hC ha as_nil hs) hs) fun σ H R ⟨r, re, tb, z⟩ => ?_
  unfold evI at z
  refine ⟨r, re, tb, ?_⟩
  unfold evAs
  refine (evP_mono hB hC i r).S _ _ _ _ (fun x ⟨j, e, l, z⟩ => ?_) (fun c ds z => z) z
  subst e
  show (evAs G.B C .nil r).S _ _
  unfold evAs
  intro vs H' rb x1 t1
  cases rb with
  | cons rb rn =>
    cases rn
    cases rb.rd (fun _ z => nomatch z)
    refine ⟨j, rfl, by omega, by omega, z _ H' ?_ x1 t1⟩
    have := wk_rng (G := G) (S := ExN) (H := H') (lo := 0) (n := j.toNat)
    simpa using this
omit hK in
theorem i_rng2 {tg a b : Expr} {i j : Ex} {p pos : Pos} (hg : Gl X "range") (hm : X.mg "range" = none) (ha : PE X a (rdS G C W i)) (hb : PE X b (rdS G C W j)) (hs : starEach [a, b] X.env = (false, eval a X.env) :: starEach [b] X.env) (hs2 : starEach [b] X.env = [(false, eval b X.env)]) : PI X tg (.Call (.Name "range" p) [a, b] [] pos) (rdI G C W (.rng2 i j)) := by
  refine PI.imp (pi_range2 hg hm (as_cons hB hC ha (as_cons hB hC hb as_nil hs2) hs) (by rw [hs, hs2]) hs2) fun σ H R ⟨r, re, tb, z⟩ => ?_
  unfold evI at z
  refine ⟨r, re, tb, ?_⟩
  unfold evAs
  refine (evP_mono hB hC i r).S _ _ _ _ (fun x z => ?_) (fun c ds z => z) z
  show (evAs G.B C (.cons j .nil) r).S _ _
  unfold evAs
  refine (evP_mono hB hC j r).S _ _ _ _ (fun y ⟨lo, hi, e1, e2, l1, l2, l3, l4, z9⟩ => ?_) (fun c ds z => z) z
  subst e1 e2
  show (evAs G.B C .nil r).S _ _
  unfold evAs
  intro vs H' rb x1 t1
  cases rb with
  | cons rb rn =>
    cases rn with
    | cons rb' rn =>
      cases rn
      cases rb.rd (fun _ z => nomatch z)
      cases rb'.rd (fun _ z => nomatch z)
      exact ⟨lo, hi, rfl, ⟨by omega, by omega, by omega, by omega⟩, z9 _ H' wk_rng x1 t1⟩
theorem i_enu {a : Expr} {i : Ex} {p pos tpos : Pos} {elts : List Expr} {kk : Nat} (hg : Gl X "enumerate") (hm : X.mg "enumerate" = none) (ha : PE X a (rdS G C W i)) (hs : starEach [a] X.env = [(false, eval a X.env)]) : PI X (.Tuple elts kk tpos) (.Call (.Name "enumerate" p) [a] [] pos) (rdI G C W (.enu i)) := by
  refine PI.imp (pi_enumA hg hm (as_cons hB hC ha as_nil hs) hs) fun σ H R ⟨r, re, tb, z⟩ => ?_
  unfold evI at z
  refine ⟨r, re, tb, ?_⟩
  unfold evAs
  refine (evP_mono hB hC i r).S _ _ _ _ (fun x z => ?_) (fun c ds z => z) z
  show (evAs G.B C .nil r).S _ _
  unfold evAs
  intro vs H' rb x1 t1
  cases rb with
  | cons rb rn =>
    cases rn
    rw [hK]
    exact enu_case (F := fun items => ∀ (J : It) (H' : Hp), Wk G ExN J items H' → ExN H H' → Tb G H' → R J H') (rbR G) (rbS G) rb z fun J items wk f => f J H' wk x1 t1
theorem i_zip {a b : Expr} {i j : Ex} {p pos tpos : Pos} {elts : List Expr} {kk : Nat} (hg : Gl X "zip") (hm : X.mg "zip" = none) (ha : PE X a (rdS G C W i)) (hb : PE X b (rdS G C W j)) (hs : starEach [a, b] X.env = (false, eval a X.env) :: starEach [b] X.env) (hs2 : starEach [b] X.env = [(false, eval b X.env)]) :
    PI X (.Tuple elts kk tpos) (.Call (.Name "zip" p) [a, b] [] pos) (rdI G C W (.zip i j)) := by
  refine PI.imp (RZ.pi_zipA hg hm (as_cons hB hC ha (as_cons hB hC hb as_nil hs2) hs) hs (by rw [hs2]; rfl)) fun σ H R ⟨r, re, tb, z⟩ => ?_
  unfold evI at z
  refine ⟨r, re, tb, ?_⟩
  unfold evAs
  refine (evP_mono hB hC i r).S _ _ _ _ (fun x z => ?_) (fun c ds z => z) z
  show (evAs G.B C (.cons j .nil) r).S _ _
  unfold evAs
  refine (evP_mono hB hC j r).S _ _ _ _ (fun y z => ?_) (fun c ds z => z) z
  show (evAs G.B C .nil r).S _ _
  unfold evAs
  intro vs H' rb x1 t1
  cases rb with
  | cons rb rn =>
    cases rn with
    | cons rb' rn =>
      cases rn
      rw [hK]
      exact zip_case (F := fun items => ∀ (J : It) (H' : Hp), Wk G ExN J items H' → ExN H H' → Tb G H' → R J H') (rbR G) (rbS G) rb rb' z fun J items wk f => f J H' wk x1 t1
end
/-! ### comprehensions -/
def rdC (G : Cfg) (C : Call) (c : Exo) : TT := fun σ H Q => ∃ r, RE G.K H r σ ∧ Tb G H ∧ evC G.B C c r fun b => ∀ H', ExN H H' → Tb G H' → Q b H'
def W0 : WX := fun _ _ _ _ => False
theorem PTs.imp {e : List Expr} {t t' : TT} (h : PTs X e t) (w : ∀ σ H Q, t' σ H Q → t σ H Q) : PTs X e t' := ⟨fun pins s σ H Q I q => h.run pins s σ H Q I (w σ H Q q)⟩
theorem c_no : PTs X [] (rdC G C .no) := PTs.imp pts_nil fun σ H Q ⟨r, re, tb, z⟩ => by
  unfold evC at z
  exact z H (LamX.ExtN.refl H) tb
theorem c_so (hB : G.B.Mono) (hC : MonoC C) {c : Expr} {i : Ex} (h : PT X c (rdT G C W0 i)) : PTs X [c] (rdC G C (.so i)) := PTs.imp (pts_one h) fun σ H Q ⟨r, re, tb, z⟩ => by
  unfold evC at z
  exact ⟨r, re, tb, (evP_mono hB hC i r).T _ _ _ _ (fun _ z => z) (fun _ _ z => z.elim) z⟩
theorem Tabs.own {T : List (Addr × Str)} {H : Hp} {p : Addr} {xs ys : List V} (t : LamX.Tabs T H) (h : H p = some (.lst xs)) : LamX.Tabs T (upd H p (.lst ys)) := fun q hq => by
  obtain ⟨ps, h1, h2, h3⟩ := t q hq
  refine ⟨ps, ?_, h2, fun pos cv hc => ?_⟩
  · rw [upd_ne (ne_of h1 h (fun z => nomatch z))]
    exact h1
  · obtain ⟨c, e1, e2⟩ := h3 pos cv hc
    refine ⟨c, e1, ?_⟩
    rw [upd_ne (ne_of e2 h (fun z => nomatch z))]
    exact e2
theorem p_lc (hB : G.B.Mono) (hC : MonoC C) (hX : Bs X G) {elt tg iter : Expr} {ifs : List Expr} {scope : Scope} {own : List (Str × Nat)} {pos : Pos} {el : Ex} {t : Tg} {it : Ix} {co : Exo}
    (hi : PI X tg iter (rdI G C W it)) (ok : BlkOk X.N X.env.scope scope own) (hin : ∀ i ∈ tgIx t, i ∈ own.map (·.2))
    (hg : ∀ (s : Shared) (H : Hp) (C : Addr) (cl : List (Str × Addr)) (fp : List Addr), PG (X.blk s H scope (compEnvC scope cl C X.env) fp) tg (rdG G t))
    (ht : ∀ (s : Shared) (H : Hp) (C' : Addr) (cl : List (Str × Addr)) (fp : List Addr), PTs (X.blk s H scope (compEnvC scope cl C' X.env) fp) ifs (rdC G C co))
    (he : ∀ (s : Shared) (H : Hp) (C' : Addr) (cl : List (Str × Addr)) (fp : List Addr), PE (X.blk s H scope (compEnvC scope cl C' X.env) fp) elt (rdV G C W0 el)) (hs : ∀ x, foldedSetIterable iter X.env x = pure x) :
    ∀ σ H Q, rdR G C W (.lc el t it co (own.map (·.2))) σ H Q → tLc (rdI G C W it) (rdG G t) (rdC G C co) (rdV G C W0 el) (own.map (·.2)) σ H Q := by
  intro σ H Q ⟨r, re, tb, z⟩
  have z : evI G.B C it r (fun items => items.length ≤ sizeLine ∧ foldW (fun x acc K => bindTg t x (wip r (own.map (·.2))) fun r2 =>
      evC G.B C co r2 (fun b => if b = true then (evP G.B C el r2).R (fun y => K (acc ++ [y.d])) E0 else K acc)) items [] fun acc => ∀ v H', RR G.K H H' (.fr acc) v → ExN H H' → Tb G H' → Q v H') (exq G W σ H) := z
  refine ⟨r, re, tb, evI_mono hB hC it r _ _ _ _ (fun items z J H1 wk x1 t1 Dd hD => ?_) (fun _ _ z => z) z⟩
  obtain ⟨hz, z⟩ := z
  obtain ⟨Gd, g1, g2, w⟩ := wk
  have hx1 : ExN H1 (upd H1 Dd (.lst [])) := ExN.new hD
  refine lc_it w (fun i Hc => ∃ acc us, Hc Dd = some (.lst us) ∧ RDs G.K Hc acc us ∧ acc.length ≤ i ∧ ExN H1 Hc ∧ Tb G Hc ∧ foldW (fun x acc K => bindTg t x (wip r (own.map (·.2))) fun r2 =>
      evC G.B C co r2 (fun b => if b = true then (evP G.B C el r2).R (fun y => K (acc ++ [y.d])) E0 else K acc)) (items.drop i) acc fun acc => ∀ v H', RR G.K H H' (.fr acc) v → ExN H H' → Tb G H' → Q v H')
    ⟨[], [], upd_same, .nil, Nat.le_refl _, hx1, Tabs.new t1 hD, by simpa using z⟩ (fun i Hc _ ⟨acc, us, _, _, _, x2, _, _⟩ => g2 _ _ g1 x2) (fun i x Ha Hb hi ⟨acc, us, e1, rs, hl, x2, t2, zf⟩ ⟨x3, t3, d, hd, rd⟩ => ?_) fun Hc ⟨acc, us, e1, rs, hl, x2, t2, zf⟩ => ?_
  · have hdr : items.drop i = d :: items.drop (i + 1) := by
      rw [List.drop_eq_getElem_cons hi]
      rw [List.getElem?_eq_getElem hi] at hd
      rw [Option.some.inj hd]
    rw [hdr] at zf
    unfold foldW at zf
    have xb := x2.trans x3
    have tb' := t3 t2
    refine ⟨d, _, (re.ext (x1.trans xb)).wipe (own.map (·.2)), rd, bindTg_mono t _ _ _ _ (fun r2 z2 σ2 re2 wd => ⟨?_, ?_⟩) zf⟩
    · rw [wd _ hin]
      apply List.ext_getElem?
      intro j
      by_cases hj : j ∈ own.map (·.2)
      · by_cases hl : j < σ.length
        · rw [wipe_in hj hl, wipe_in hj (by rw [wipe_length]; exact hl)]
        · rw [List.getElem?_eq_none (by rw [wipe_length, wipe_length]; omega), List.getElem?_eq_none (by rw [wipe_length]; omega)]
      · rw [wipe_get hj, wipe_get hj]
    · refine ⟨r2, re2, tb', evC_mono hB hC co r2 _ _ (fun b zb Hc x4 t4 => ?_) z2⟩
      have eD : Hc Dd = some (.lst us) := x4 _ _ (x3 _ _ e1 (fun _ z => nomatch z)) (fun _ z => nomatch z)
      cases b with
      | false =>
        simp only [Bool.false_eq_true, if_false] at zb ⊢
        exact ⟨acc, us, eD, rs.stb (ExN.stb (x3.trans x4)), Nat.le_succ_of_le hl, xb.trans x4, t4, zb⟩
      | true =>
        simp only [if_true] at zb ⊢
        refine ⟨r2, re2.ext x4, t4, (evP_mono hB hC el r2).R _ _ _ _ (fun y zy v He rv x5 t5 => ?_) (fun _ _ z => z.elim) zb⟩
        have eD' : He Dd = some (.lst us) := x5 _ _ eD (fun _ z => nomatch z)
        have hlen := rs.length
        refine ⟨us, eD', by omega, acc ++ [y.d], us ++ [v], upd_same, ?_, by simp; omega, ?_, Tabs.own t5 eD', zy⟩
        · exact ((rs.stb (ExN.stb (x3.trans (x4.trans x5)))).append (.one rv)).stb (Stb.own eD')
        · exact ExN.frz (xb.trans (x4.trans x5)) (Fr.of hD)
  · rw [List.drop_length] at zf
    unfold foldW at zf
    exact zf (.ref Dd) Hc ⟨Dd, us, rfl, (Fr.of hD).back x1, e1, rs⟩ (x1.trans x2) t2
end
end En
/-! Io0: calls that change lists of the caller: what is asked of the values, what comes back. -/
namespace En
open PySem L2 PyProof.Rows
/-- all but tables and some lists stays -/
def ExM (ps : List Addr) (H H' : Hp) : Prop := ∀ b u, H b = some u → (∀ q, u ≠ HO.tbl q) → b ∉ ps → H' b = some u
/-- what a call finds: lists that it may change; flat data -/
inductive IoR (K : PySem.W.Frag) (H : Hp) : List Bool → List Addr → List D → List V → Prop
  | nil : IoR K H [] [] [] []
  | own {fl : List Bool} {ps : List Addr} {ds : List D} {vs us : List V} {p : Addr} {xs : List D} : H p = some (.lst us) → RDs K H xs us → IoR K H fl ps ds vs → IoR K H (true :: fl) (p :: ps) (.lst xs :: ds) (.ref p :: vs)
  | flat {fl : List Bool} {ps : List Addr} {ds : List D} {vs : List V} {d : D} {v : V} : RD K H d v → IoR K H fl ps ds vs → IoR K H (false :: fl) ps (d :: ds) (v :: vs)
/-- what lies in those lists then -/
inductive IoO (K : PySem.W.Frag) (H : Hp) : List Addr → List D → Prop
  | nil : IoO K H [] []
  | cons {ps : List Addr} {p : Addr} {us : List V} {xs ys : List D} : H p = some (.lst us) → RDs K H xs us → IoO K H ps ys → IoO K H (p :: ps) (.lst xs :: ys)
def ioQ (G : Cfg) (ps : List Addr) (H : Hp) (Q : VK) : Rv → Prop := fun x => ∃ d ys, x = .v (.tup (d :: ys)) ∧ ∀ v H', RD G.K H' d v → IoO G.K H' ps ys → ExM ps H H' → Tb G H' → Q v H'
/-- the promise of such a call -/
def spI (G : Cfg) (C : Call) (fl : List Bool) (nm : Str) (vs : List V) (H : Hp) (Q : VK) : Prop := ∃ ps ds, IoR G.K H fl ps ds vs ∧ ps.Nodup ∧ Tb G H ∧ C nm ds (ioQ G ps H Q) E0
/-- its values, one behind another -/
def tIo (G : Cfg) (C : Call) (W : WX) : List Bool → Exs → TA
  | true :: fl, .cons (.var i) es => tCons (tVar i) (tIo G C W fl es)
  | false :: fl, .cons e es => tCons (rdS G C W e) (tIo G C W fl es)
  | [], .nil => tNil
  | _, _ => fun _ _ _ => False
/-- the values as they lie in the frame -/
inductive IoV (K : PySem.W.Frag) (H : Hp) (σ : St) : List Bool → Exs → List D → List V → Prop
  | nil : IoV K H σ [] .nil [] []
  | own {fl : List Bool} {es : Exs} {ds : List D} {vs us : List V} {i : Nat} {p : Addr} {xs : List D} : σ[i]? = some (some (.ref p)) → H p = some (.lst us) → RDs K H xs us → IoV K H σ fl es ds vs → IoV K H σ (true :: fl) (.cons (.var i) es) (.lst xs :: ds) (.ref p :: vs)
  | flat {fl : List Bool} {es : Exs} {e : Ex} {ds : List D} {vs : List V} {d : D} {v : V} : RB K H d v → IoV K H σ fl es ds vs → IoV K H σ (false :: fl) (.cons e es) (d :: ds) (v :: vs)
theorem IoV.ext {K : PySem.W.Frag} {H H' : Hp} {σ : St} (x : ExN H H') {fl : List Bool} {es : Exs} {ds : List D} {vs : List V} (h : IoV K H σ fl es ds vs) : IoV K H' σ fl es ds vs := by
  induction h with
  | nil => exact .nil
  | own h1 h2 h3 _ ih => exact .own h1 (x _ _ h2 (fun _ z => nomatch z)) (h3.stb (ExN.stb x)) ih
  | flat h1 _ ih => exact .flat (h1.ext x) ih
theorem IoR.lst {K : PySem.W.Frag} {H : Hp} {fl : List Bool} {ps : List Addr} {ds : List D} {vs : List V} (h : IoR K H fl ps ds vs) : ∀ p ∈ ps, ∃ us, H p = some (HO.lst us) := by
  induction h with
  | nil => exact fun p hp => by cases hp
  | own h1 _ _ ih =>
    intro p hp
    cases hp with
    | head => exact ⟨_, h1⟩
    | tail _ hp => exact ih p hp
  | flat _ _ ih => exact ih
theorem IoO.lst {K : PySem.W.Frag} {H : Hp} {ps : List Addr} {ys : List D} (h : IoO K H ps ys) : ∀ p ∈ ps, ∃ us, H p = some (HO.lst us) := by
  induction h with
  | nil => exact fun p hp => by cases hp
  | cons h1 _ _ ih =>
    intro p hp
    cases hp with
    | head => exact ⟨_, h1⟩
    | tail _ hp => exact ih p hp
theorem ExM.stb {ps : List Addr} {H H' : Hp} (h : ExM ps H H') (hl : ∀ p ∈ ps, ∃ us, H p = some (HO.lst us)) : Stb H H' := fun b o e n m => h b o e m fun hb => by
  obtain ⟨us, e2⟩ := hl b hb
  rw [e] at e2
  cases e2
  exact n us rfl
/-- old contents laid over -/
def ovr (H : Hp) : List Addr → List (List V) → Hp
  | p :: ps, u :: us => upd (ovr H ps us) p (.lst u)
  | _, _ => H
theorem ovr_ne {H : Hp} {b : Addr} : ∀ {ps : List Addr} {us : List (List V)}, b ∉ ps → ovr H ps us b = H b
  | [], us, _ => by cases us <;> rfl
  | p :: ps, [], _ => rfl
  | p :: ps, u :: us, h => by
    have h1 : b ≠ p := fun e => h (by rw [e]; exact List.mem_cons_self)
    show upd (ovr H ps us) p (.lst u) b = H b
    rw [upd_ne h1, ovr_ne fun z => h (List.mem_cons_of_mem _ z)]
theorem ovr_stb {H : Hp} {ps : List Addr} {us : List (List V)} (hl : ∀ p ∈ ps, ∃ ws, H p = some (HO.lst ws)) : Stb H (ovr H ps us) := fun b o e n m => by
  rw [ovr_ne fun hb => ?_]
  · exact e
  · obtain ⟨ws, e2⟩ := hl b hb
    rw [e] at e2
    cases e2
    exact n ws rfl
theorem ovr_tb {G : Cfg} {H : Hp} (t : Tb G H) : ∀ {ps : List Addr} {us : List (List V)}, ps.Nodup → (∀ p ∈ ps, ∃ ws, H p = some (HO.lst ws)) → Tb G (ovr H ps us)
  | [], us, _, _ => by cases us <;> exact t
  | p :: ps, [], _, _ => t
  | p :: ps, u :: us, nd, hl => by
    have nd := List.nodup_cons.mp nd
    obtain ⟨ws, e⟩ := hl p List.mem_cons_self
    refine Tabs.own (ovr_tb t (ps := ps) (us := us) nd.2 fun q hq => hl q (List.mem_cons_of_mem _ hq)) (xs := ws) ?_
    rw [ovr_ne nd.1]
    exact e
end En
/-! En10: the text's expressions mean what the small syntax says. -/
namespace En
open PySem L2 PyProof.Rows
def isStar : Expr → Bool
  | .Starred .. => true
  | _ => false
theorem starEach_cons {e : Expr} {es : List Expr} {env : PySem.Env} (h : isStar e = false) : starEach (e :: es) env = (false, eval e env) :: starEach es env := by
  cases e <;> first
    | rfl
    | cases h
theorem attrBase_ok {o : Expr} {f : Str} {env : PySem.Env} {w : Sem Value} (h : isSup o = false) : attributeBase o f env w = w := by
  unfold attributeBase
  split
  · cases h
  · rfl
/-- how many there are, none of them spread -/
def exsN : Exs → Option Nat
  | .nil => some 0
  | .cons _ r => (exsN r).map (· + 1)
  | .star _ _ => none
theorem mapN_len {f : Expr → Option Ex} : ∀ (es : List Expr) (is : Exs), mapN f es = some is → exsN is = some es.length
  | [], is, h => by
    simp only [mapN] at h
    cases h
    rfl
  | e :: es, is, h => by
    simp only [mapN, Option.bind_eq_some_iff, Option.map_eq_some_iff] at h
    obtain ⟨i, h1, is', h2, e3⟩ := h
    subst e3
    simp only [exsN, mapN_len es is' h2]
    rfl
theorem evAs_len {B : Lib} {C : Call} (hB : B.Mono) (hC : MonoC C) : ∀ {is : Exs} {n : Nat} {r : Env} {Q : List D → Prop} {E : XP}, exsN is = some n → (evAs B C is r).R Q E → (evAs B C is r).R (fun xs => xs.length = n ∧ Q xs) E
  | .nil, n, r, Q, E, h, z => by
    simp only [exsN] at h
    cases h
    unfold evAs at z ⊢
    exact ⟨rfl, z⟩
  | .cons e is, n, r, Q, E, h, z => by
    simp only [exsN, Option.map_eq_some_iff] at h
    obtain ⟨m, h1, h2⟩ := h
    subst h2
    unfold evAs at z ⊢
    refine (evP_mono hB hC e r).R _ _ E E (fun x q => ?_) (fun _ _ z => z) z
    exact (evAs_mono hB hC is r).R _ _ E E (fun xs q => ⟨by simp [q.1], q.2⟩) (fun _ _ z => z) (evAs_len hB hC h1 q)
  | .star e is, n, r, Q, E, h, z => by cases h
/-- what is known of the names, in every context that is ok -/
structure Kn (g : Gi) (G : Cfg) (C : Call) (Ok : Cx → WX → Prop) : Prop where
  hB : G.B.Mono
  hC : MonoC C
  bs : ∀ X W, Ok X W → Bs X G
  blk : ∀ X W s H scope cl a fp, Ok X W → Ok (X.blk s H scope (compEnvC scope cl a X.env) fp) W0
  con : ∀ X W x d pos, Ok X W → g.con.lookup x = some d → Gl X x → odd x = false → PE X (.Name x pos) (rdR G C W (.glo d))
  no : ∀ X W x, Ok X W → x ∈ g.its → X.mg x = none
  fn : ∀ X W f args is p pos, Ok X W → f ∈ g.fns → Gl X f → odd f = false → (∀ e ∈ args, isStar e = false) → (args = [] → is = .nil) → PA X args (rdA G C W is) → PE X (.Call (.Name f p) args [] pos) (rdR G C W (.fn f is))
  fnk : ∀ X W f pm args kws is js p pos, Ok X W → (f, kws.map (fun (k : Keyword) => k.arg), args.length, pm) ∈ g.kws → Gl X f → odd f = false → (∀ e ∈ args, isStar e = false) → (∀ e ∈ kws.map fun (k : Keyword) => k.value, isStar e = false) → kws ≠ [] → (args = [] → is = .nil) → exsN is = some args.length → exsN js = some kws.length →
    PA X args (rdA G C W is) → PK X kws (rdA G C W js) → PE X (.Call (.Name f p) args kws pos) (rdR G C W (.fnk f pm is js))
  blt : ∀ X W f b args is p pos, Ok X W → g.blt.lookup f = some b → Gl X f → odd f = false → args ≠ [] → (∀ e ∈ args, isStar e = false) → PA X args (rdAS G C W is) → PE X (.Call (.Name f p) args [] pos) (rdR G C W (.blt b is))
  mth : ∀ X W m b o io args is ap cp, Ok X W → g.mth.lookup m = some b → (ap.endLine == cp.line) = true → args ≠ [] → args.length < 20 → (∀ e ∈ args, isStar e = false) → PE X o (rdS G C W io) → PA X args (rdAS G C W is) → isSup o = false → PE X (.Call (.Attribute o m ap) args [] cp) (rdR G C W (.mth b io is))
  mcl : ∀ X W m key o io args is ap cp, Ok X W → g.mcl.lookup m = some key → (ap.endLine == cp.line) = true → args.length < 20 → (∀ e ∈ args, isStar e = false) → (args = [] → is = .nil) → PE X o (rdV G C W io) → PA X args (rdA G C W is) → isSup o = false → PE X (.Call (.Attribute o m ap) args [] cp) (rdR G C W (.mcl key io is))
  mck : ∀ X W m key pm o io args kws is js ap cp, Ok X W → g.mcl.lookup m = some key → (m, kws.map (fun (k : Keyword) => k.arg), args.length, pm) ∈ g.mkw → (ap.endLine == cp.line) = true → args.length + kws.length < 20 → (∀ e ∈ args, isStar e = false) → (∀ e ∈ kws.map fun (k : Keyword) => k.value, isStar e = false) → kws ≠ [] → (args = [] → is = .nil) → exsN is = some args.length → exsN js = some kws.length →
    PE X o (rdV G C W io) → PA X args (rdA G C W is) → PK X kws (rdA G C W js) → isSup o = false → PE X (.Call (.Attribute o m ap) args kws cp) (rdR G C W (.mck key pm io is js))
  att : ∀ X W o io f key pos, Ok X W → g.att.lookup f = some key → PE X o (rdV G C W io) → isSup o = false → PE X (.Attribute o f pos) (rdR G C W (.att io key))
  eqo : ∀ X W, Ok X W → EqoOk X G C
  lam : ∀ X W f params body scope p lp pos n e nm is, Ok X W → f ∈ g.ans → Gl X f → odd f = false → noArg params = true → LamX.LamS X.env.scope scope → compE g.noA X.N n scope body = some e → (nm, is, X.N.length, e) ∈ g.lams →
    PE X (.Call (.Name f p) [.Lambda params body scope lp] [] pos) (rdR G C W (.fn nm (varsE is)))
  lrg : ∀ X W a ia p p2 q pos, Ok X W → ("list" : Str) ∈ g.its → ("range" : Str) ∈ g.its → Gl X "list" → Gl X "range" → isStar a = false → PE X a (rdS G C W ia) → PE X (.Call (.Name "list" p) [.Call (.Name "range" p2) [a] [] q] [] pos) (rdR G C W (.blt .lrg (.cons ia .nil)))
  isx : ∀ X W c a ia p p2 pos, Ok X W → c ∈ g.exs → Gl X "isinstance" → Gl X c → odd c = false → isStar a = false → PE X a (rdV G C W ia) → PE X (.Call (.Name "isinstance" p) [a, .Name c p2] [] pos) (rdR G C W (.fn (isErN c) (.cons ia .nil)))
  ntp : ∀ X W args is p pos, Ok X W → ("tuple" : Str) ∈ g.its → Gl X "tuple" → args ≠ [] → (∀ e ∈ args, isStar e = false) → PA X args (rdAS G C W is) → PE X (.Call (.Name "tuple" p) args [] pos) (rdR G C W (.blt .ntup is))
  io : ∀ X W f fl args is p pos, Ok X W → (f, fl) ∈ g.ios → Gl X f → odd f = false → args ≠ [] → (∀ e ∈ args, isStar e = false) → PA X args (tIo G C W fl is) → PE X (.Call (.Name f p) args [] pos) (fun σ H Q => tIo G C W fl is σ H fun vs H1 => spI G C fl f vs H1 Q)
  rev : ∀ X W o io s p pos, Ok X W → ("[::-1]" : Str) ∈ g.its → minus1 s = true → PE X o (rdS G C W io) → PE X (.Subscript o (.Slice none none (some s) p) pos) (rdR G C W (.rev io))
/-- an expression's soundness -/
structure Sd (G : Cfg) (C : Call) (X : Cx) (W : WX) (e : Expr) (i : Ex) : Prop where
  R : PE X e (rdR G C W i)
  S : PE X e (rdS G C W i)
  T : isIf e = false → PT X e (rdT G C W i)
  st : isStar e = false
section
variable {g : Gi} {G : Cfg} {C : Call} {X : Cx} {W : WX}
theorem rdR_S (hB : G.B.Mono) (hC : MonoC C) {e : Expr} {i : Ex} (hn : ∀ k, i ≠ .var k) (h : PE X e (rdR G C W i)) : PE X e (rdS G C W i) := rdS_of hB hC hn (pe_frz hB hC h)
theorem sd_val (hB : G.B.Mono) (hC : MonoC C) (hK : X.K = G.K) {e : Expr} {i : Ex} (hn : ∀ k, i ≠ .var k) (hT : ∀ r Q E, evT G.B C i r Q E = evS G.B C i r (fun x => truW x Q) E) (h : PE X e (rdR G C W i))
    (he : isIf e = false → ∀ whole, isTrue e X.env whole = (do let v ← whole; standAt e.pos; holding [v] (truthy v))) (st : isStar e = false) : Sd G C X W e i :=
  ⟨h, rdR_S hB hC hn h, fun hi => t_val hB hC hK hT (rdR_S hB hC hn h) (he hi), st⟩
variable {f : Expr → Option Ex} (hB : G.B.Mono) (hC : MonoC C) (ih : ∀ e i, f e = some i → Sd G C X W e i)
include hB hC ih
theorem mapN_ok : ∀ (es : List Expr) (is : Exs), mapN f es = some is → PA X es (rdA G C W is) ∧ PA X es (rdAS G C W is) ∧ ∀ e ∈ es, isStar e = false
  | [], is, h => by
    simp only [mapN] at h
    cases h
    exact ⟨a_nil, as_nil, by simp⟩
  | e :: es, is, h => by
    simp only [mapN, Option.bind_eq_some_iff, Option.map_eq_some_iff] at h
    obtain ⟨i, h1, is', h2, e3⟩ := h
    subst e3
    have s := ih e i h1
    obtain ⟨p1, p2, p3⟩ := mapN_ok es is' h2
    refine ⟨a_cons hB hC (pe_frz hB hC s.R) p1 (starEach_cons s.st), as_cons hB hC s.S p2 (starEach_cons s.st), fun x hx => ?_⟩
    rcases List.mem_cons.mp hx with q | q
    · rw [q]; exact s.st
    · exact p3 x q
omit hB hC ih in
theorem mapN_nil {es : List Expr} {is : Exs} (h : mapN f es = some is) (e : es = []) : is = .nil := by
  subst e
  simp only [mapN] at h
  cases h
  rfl
theorem mapK_ok : ∀ (ks : List Keyword) (is : Exs), mapN f (ks.map fun (k : Keyword) => k.value) = some is → PK X ks (rdA G C W is) ∧ ∀ e ∈ ks.map fun (k : Keyword) => k.value, isStar e = false
  | [], is, h => by
    simp only [List.map_nil, mapN] at h
    cases h
    refine ⟨⟨fun pos pins s σ H Q I ⟨r, re, tb, z⟩ => pk_nil.run pos pins s σ H Q I ?_⟩, by simp⟩
    unfold evAs at z
    exact z [] H .nil (LamX.ExtN.refl H) tb
  | ⟨nm, e, kp⟩ :: ks, is, h => by
    simp only [List.map_cons, mapN, Option.bind_eq_some_iff, Option.map_eq_some_iff] at h
    obtain ⟨i, h1, is', h2, e3⟩ := h
    subst e3
    have s := ih e i h1
    obtain ⟨p1, p2⟩ := mapK_ok ks is' h2
    refine ⟨⟨fun pos pins s' σ H Q I ⟨r, re, tb, z⟩ => (pk_cons (pe_frz hB hC s.R) p1).run pos pins s' σ H Q I ?_⟩, fun x hx => ?_⟩
    · unfold evAs at z
      refine v_bind hB hC re tb (LamX.ExtN.refl H) z fun d v H1 rx x1 t1 z1 => ?_
      refine a_bind hB hC (re.ext x1) t1 x1 z1 fun ds vs H2 rs x2 t2 f => ?_
      exact f _ H2 (.cons (rx.stb (ExN.stb x2)) rs) (x1.trans x2) t2
    · rcases List.mem_cons.mp hx with q | q
      · rw [q]; exact s.st
      · exact p2 x q
theorem mapA_ok (hK : X.K = G.K) : ∀ (es : List Expr) (is : Exs), mapA f es = some is → PA X es (rdA G C W is)
  | [], is, h => by
    simp only [mapA] at h
    cases h
    exact a_nil
  | e :: es, is, h => by
    cases hs : isStar e with
    | false =>
      have h : ((f e).bind fun i => (mapA f es).map fun is => Exs.cons i is) = some is := by
        cases e <;> first
          | exact h
          | cases hs
      simp only [Option.bind_eq_some_iff, Option.map_eq_some_iff] at h
      obtain ⟨i, h1, is', h2, e3⟩ := h
      subst e3
      have s := ih e i h1
      exact a_cons hB hC (pe_frz hB hC s.R) (mapA_ok hK es is' h2) (starEach_cons s.st)
    | true =>
      cases e <;> first
        | cases hs
        | skip
      rename_i e p
      simp only [mapA, Option.bind_eq_some_iff, Option.map_eq_some_iff] at h
      obtain ⟨i, h1, is', h2, e3⟩ := h
      subst e3
      have s := ih e i h1
      refine PA.imp (StX.pa_star s.S (mapA_ok hK es is' h2) rfl) fun σ H Q ⟨r, re, tb, z⟩ => ?_
      unfold evAs at z
      refine s_bind hB hC re tb (LamX.ExtN.refl H) z fun d v H1 rx x1 t1 z1 => ?_
      rw [hK]
      unfold enuW at z1
      split at z1
      · obtain ⟨p, us, e1, hq, rs⟩ := rx.lst
        refine ⟨p, us, e1, .inr hq, a_bind hB hC (re.ext x1) t1 x1 z1 fun ds vs H2 rs2 x2 t2 f2 => ?_⟩
        exact f2 _ H2 ((rs.stb (ExN.stb x2)).append rs2) (x1.trans x2) t2
      · cases rx.rd (fun _ z => nomatch z) with
        | tup hq rs =>
          refine ⟨_, _, rfl, .inl hq, a_bind hB hC (re.ext x1) t1 x1 z1 fun ds vs H2 rs2 x2 t2 f2 => ?_⟩
          exact f2 _ H2 ((rs.stb (ExN.stb x2)).append rs2) (x1.trans x2) t2
      · exact z1.elim
theorem optE_ok (o : Option Expr) (i : Exo) (h : optE f o = some i) : PO X o (rdO G C W i) := by
  cases o with
  | none =>
    simp only [optE] at h
    cases h
    exact o_no
  | some e =>
    simp only [optE, Option.map_eq_some_iff] at h
    obtain ⟨j, h1, h2⟩ := h
    subst h2
    exact o_so hB hC (ih e j h1).S
theorem boolA_var (op : BoolOp) (a b : Expr) (r : List Expr) (i : Ex) (h : boolA f op (a :: b :: r) = some i) : (∀ k, i ≠ .var k) := by
  simp only [boolA, Option.bind_eq_some_iff, Option.map_eq_some_iff] at h
  obtain ⟨i1, h1, i2, h2, h3⟩ := h
  intro k e
  rw [e] at h3
  cases op <;> cases h3
/-- a row of ands or ors -/
theorem boolA_ok (op : BoolOp) (pos : Pos) (hif : ∀ e i, f e = some i → isIf e = false) : ∀ (es : List Expr) (i : Ex), boolA f op es = some i → PE X (.BoolOp op es pos) (rdR G C W i) ∧ PW X (.BoolOp op es pos) (rdT G C W i)
  | [], i, h => by
    simp only [boolA] at h
    cases h
  | [a], i, h => by
    simp only [boolA] at h
    have s := ih a i h
    cases op with
    | And => exact ⟨pe_one s.R, pw_and1 (s.T (hif _ _ h))⟩
    | Or => exact ⟨pe_one s.R, pw_or1 (s.T (hif _ _ h))⟩
  | a :: b :: r, i, h => by
    simp only [boolA, Option.bind_eq_some_iff, Option.map_eq_some_iff] at h
    obtain ⟨i1, h1, i2, h2, h3⟩ := h
    have s := ih a i1 h1
    obtain ⟨p1, p2⟩ := boolA_ok op pos hif (b :: r) i2 h2
    cases op with
    | And => cases h3; exact ⟨p_and hB hC s.S p1, w_and hB hC (s.T (hif _ _ h1)) p2⟩
    | Or => cases h3; exact ⟨p_or hB hC s.S p1, w_or hB hC (s.T (hif _ _ h1)) p2⟩
/-- the readings of an f-string's parts -/
def fstE (G : Cfg) (C : Call) (W : WX) : Exs → List TE
  | .nil => []
  | .cons (.con (.str x)) r => tC (.str x) :: fstE G C W r
  | .cons e r => tFmt (rdS G C W e) :: fstE G C W r
  | .star _ r => fstE G C W r
omit ih in
theorem fst_run {σ : St} (es : Exs) : ∀ (r : Env) (acc : Str) (H0 H : Hp) (Q F : Str → Prop) (R : Str → Hp → Prop), RE G.K H r σ → Tb G H → ExN H0 H → evF G.B C es r acc F (exq G W σ H0) → (∀ s H', ExN H H' → Tb G H' → F s → R s H') → tJs (fstE G C W es) acc σ H R := by
  induction es using Exs.rec (motive_1 := fun _ => True) (motive_3 := fun _ => True) (motive_4 := fun _ => True) with
  | nil =>
    intro r acc H0 H Q F R re tb x0 z k
    unfold evF at z
    exact k acc H (LamX.ExtN.refl H) tb z
  | cons e es _ ih2 =>
    intro r acc H0 H Q F R re tb x0 z k
    unfold evF at z
    have gen : tJs (tFmt (rdS G C W e) :: fstE G C W es) acc σ H R := by
      refine s_bind hB hC re tb x0 z fun d v H1 rx x1 t1 z1 => ?_
      unfold fmtW at z1
      split at z1
      · obtain ⟨h1, h2, h3⟩ := z1
        cases rx.rd (fun _ z => nomatch z)
        exact .inl ⟨_, rfl, h1, _, rfl, h2, ih2 r _ H0 H1 Q F R (re.ext x1) t1 (x0.trans x1) h3 fun s H' x t f => k s H' (x1.trans x) t f⟩
      · obtain ⟨h1, h2, h3⟩ := z1
        cases rx.rd (fun _ z => nomatch z)
        exact .inr ⟨_, rfl, h1, _, rfl, h2, ih2 r _ H0 H1 Q F R (re.ext x1) t1 (x0.trans x1) h3 fun s H' x t f => k s H' (x1.trans x) t f⟩
      · exact z1.elim
    unfold fstE
    split
    · cases ‹Exs.cons _ _ = _›
    · rename_i x r' q
      cases q
      obtain ⟨h1, h2, h3⟩ := (show fmtW (.str x) fun s => (acc ++ s).length ≤ sizeLine ∧ evF G.B C es r (acc ++ s) F (exq G W σ H0) from z)
      exact ⟨x, rfl, h2, ih2 r _ H0 H Q F R re tb x0 h3 k⟩
    · rename_i q
      cases q
      exact gen
    · cases ‹Exs.cons _ _ = _›
  | star e es _ _ =>
    intro r acc H0 H Q F R re tb x0 z k
    unfold evF at z
    exact z.elim
  | _ => trivial
theorem mapF_ok : ∀ (es : List Expr) (is : Exs), mapF f es = some is → PJ X es (fstE G C W is)
  | [], is, h => by
    simp only [mapF] at h
    cases h
    exact .nil
  | e :: es, is, h => by
    unfold mapF at h
    split at h
    · cases ‹_ :: _ = []›
    · rename_i x k p r q
      cases q
      simp only [Option.map_eq_some_iff] at h
      obtain ⟨is', h1, h2⟩ := h
      subst h2
      exact .cons pe_str (mapF_ok es is' h1)
    · rename_i e' c p r q
      cases q
      split at h
      · rename_i hc
        subst hc
        simp only [Option.bind_eq_some_iff, Option.map_eq_some_iff] at h
        obtain ⟨i, h1, h⟩ := h
        split at h
        · cases h
        rename_i nc
        simp only [Option.map_eq_some_iff] at h
        obtain ⟨is', h2, h3⟩ := h
        subst h3
        have s := ih e' i h1
        have hp := mapF_ok es is' h2
        unfold fstE
        split
        · cases ‹Exs.cons _ _ = _›
        · rename_i x r' q
          cases q
          exact absurd rfl nc
        · rename_i q
          cases q
          exact .cons (pe_fmt s.S) hp
        · cases ‹Exs.cons _ _ = _›
      · cases h
    · cases h
end
theorem isTrue_ok {e : Expr} {env : PySem.Env} (h : isIf e = false) (h2 : ∀ op es p, e ≠ .BoolOp op es p) (h3 : ∀ a p, e ≠ .UnaryOp .Not a p) (h4 : ∀ a o b p, e ≠ .Compare a o b p) : ∀ whole, isTrue e env whole = (do let v ← whole; standAt e.pos; holding [v] (truthy v)) := by
  intro whole
  cases e <;> first
    | rfl
    | exact absurd rfl (h2 _ _ _)
    | exact absurd rfl (h4 _ _ _ _)
    | exact Bool.noConfusion (show true = false from h)
    | (rename_i op a p; cases op <;> first | rfl | exact absurd rfl (h3 _ _))
theorem fset_ok {e : Expr} {env : PySem.Env} (h : isSet e = false) : ∀ x, foldedSetIterable e env x = pure x := by
  intro x
  cases e <;> first
    | rfl
    | cases h
theorem behind_ok {op : CmpOp} {b : Expr} (h : isSet b = false) : behindInMarks op b = false := by
  cases b <;> first
    | (cases op <;> rfl)
    | cases h
end En
/-! En11: compE is sound. -/
namespace En
open PySem L2 PyProof.Rows
theorem odd_cases {x : Str} (h : odd x = false) : (x == ("__debug__" : Str)) = false ∧ (x == ("__classdict__" : Str)) = false ∧ x ≠ "__name__" := by
  unfold odd at h
  simp only [Bool.or_eq_false_iff] at h
  refine ⟨h.1.1, h.1.2, fun e => ?_⟩
  have := h.2
  rw [e] at this
  simp at this
theorem gl_ok {X : Cx} {sc : Scope} {x : Str} (hs : X.env.scope = sc) (h : isGl sc x = true) : Gl X x := by
  unfold isGl at h
  show X.env.scope.names.lookup x = _
  rw [hs]
  simpa using h
theorem vis_ok {X : Cx} {sc : Scope} {x : Str} (hs : X.env.scope = sc) (h : isVis sc x = true) : Vis X.env.scope x := by
  unfold isVis at h
  simp only [Bool.or_eq_true, beq_iff_eq] at h
  rw [hs]
  rcases h with (h | h) | h
  · exact .inl h
  · exact .inr (.inl h)
  · exact .inr (.inr h)
theorem plainIx_ok {g : Gi} {N : List Str} {n : Nat} {sc : Scope} {b : Expr} {j : Ex} (h : compE g N n sc b = some j) : PlainIx b := by
  cases n with
  | zero => simp [compE] at h
  | succ n => cases b <;> first
    | (intro o i; rfl)
    | (simp [compE] at h)
section
variable {g : Gi} {G : Cfg} {C : Call} {Ok : Cx → WX → Prop}
theorem compI_ok (k : Kn g G C Ok) {X : Cx} {W : WX} {sc : Scope} {f : Expr → Option Ex} (ok : Ok X W) (hs : X.env.scope = sc) (ih : ∀ e i, f e = some i → Sd G C X W e i) (tg iter : Expr) (ix : Ix) (h : compI g sc f tg iter = some ix) :
    PI X tg iter (rdI G C W ix) ∧ isSet iter = false := by
  have hK := (k.bs X W ok).K
  have seq : isSet iter = false → (f iter).map .seq = some ix → PI X tg iter (rdI G C W ix) ∧ isSet iter = false := fun hi h => by
    simp only [Option.map_eq_some_iff] at h
    obtain ⟨i, h1, h2⟩ := h
    subst h2
    exact ⟨i_seq k.hB k.hC hK (ih _ _ h1).S, hi⟩
  unfold compI at h
  split at h
  · rename_i x px a pos
    split at h
    · rename_i c
      obtain ⟨e1, e2, e3⟩ := c
      subst e1
      simp only [Option.map_eq_some_iff] at h
      obtain ⟨i, h1, h2⟩ := h
      subst h2
      have s := ih _ _ h1
      exact ⟨i_rng1 k.hB k.hC (gl_ok hs e2) (k.no X W _ ok e3) s.S (starEach_cons s.st), rfl⟩
    · split at h
      · rename_i c
        obtain ⟨e1, e2, e3, e4⟩ := c
        subst e1
        simp only [Option.map_eq_some_iff] at h
        obtain ⟨i, h1, h2⟩ := h
        subst h2
        have s := ih _ _ h1
        cases tg <;> first
          | exact ⟨i_enu k.hB k.hC hK (gl_ok hs e2) (k.no X W _ ok e3) s.S (starEach_cons s.st), rfl⟩
          | cases e4
      · exact seq rfl h
  · rename_i x px a b pos
    split at h
    · rename_i c
      obtain ⟨e1, e2, e3⟩ := c
      subst e1
      simp only [Option.map_eq_some_iff, Option.bind_eq_some_iff] at h
      obtain ⟨i, h1, j, h2, h3⟩ := h
      subst h3
      have s := ih _ _ h1
      have s2 := ih _ _ h2
      exact ⟨i_rng2 k.hB k.hC (gl_ok hs e2) (k.no X W _ ok e3) s.S s2.S (starEach_cons s.st) (starEach_cons s2.st), rfl⟩
    · split at h
      · rename_i c
        obtain ⟨e1, e2, e3, e4⟩ := c
        subst e1
        simp only [Option.map_eq_some_iff, Option.bind_eq_some_iff] at h
        obtain ⟨i, h1, j, h2, h3⟩ := h
        subst h3
        have s := ih _ _ h1
        have s2 := ih _ _ h2
        cases tg <;> first
          | exact ⟨i_zip k.hB k.hC hK (gl_ok hs e2) (k.no X W _ ok e3) s.S s2.S (starEach_cons s.st) (starEach_cons s2.st), rfl⟩
          | cases e4
      · exact seq rfl h
  · cases h
  · rename_i h3 
    refine seq ?_ h
    cases iter <;> first
      | rfl
      | exact absurd rfl (h3 _ _ _)
theorem own_fn {N : List Str} {X : Cx} {scope sc : Scope} {t : Tg} {Y : Cx} (ok : BlkOk N sc scope (ownOf N scope)) (hN : N.Nodup) (hin : ∀ i ∈ tgIx t, i ∈ (ownOf N scope).map (fun (p : Str × Nat) => p.2)) (hsc : Y.env.scope = relS scope sc) (hf : Y.fn = fun x => scope.names.lookup x == some .cell) :
    ∀ i ∈ tgIx t, ∀ x, N[i]? = some x → Y.fn x = true ∨ Y.env.scope.names.lookup x = some .local := by
  intro i hi x hx
  obtain ⟨p, hp, e⟩ := List.mem_map.mp (hin i hi)
  subst e
  have e3 := ok.ix p hp
  rw [hx] at e3
  have e3 : x = p.1 := Option.some.inj e3
  unfold ownOf at hp
  obtain ⟨y, hy, hq⟩ := List.mem_filterMap.mp hp
  have hu := ok.uniq y hy
  have key : y.1 = p.1 := by
    split at hq <;> first
      | (simp only [Option.map_eq_some_iff] at hq; obtain ⟨j, _, e⟩ := hq; rw [← e])
      | cases hq
  rw [e3, ← key]
  split at hq
  · rename_i e
    rw [e] at hu
    refine .inr ?_
    rw [hsc]
    exact lookup_relS_keep (by simp) hu
  · rename_i e
    rw [e] at hu
    refine .inl ?_
    rw [hf]
    simp [hu]
  · cases hq
theorem tst_ok {f : Expr → Option Ex} {X : Cx} {W : WX} (ih : ∀ e i, f e = some i → Sd G C X W e i) : ∀ e i, tstE f e = some i → Sd G C X W e i ∧ isIf e = false := by
  intro e i h
  unfold tstE at h
  split at h
  · cases h
  · rename_i q
    exact ⟨ih e i h, by simpa using q⟩
theorem compE_ok (k : Kn g G C Ok) {N : List Str} (hN : N.Nodup) : ∀ (n : Nat) (sc : Scope) (e : Expr) (i : Ex), compE g N n sc e = some i → ∀ (X : Cx) (W : WX), Ok X W → X.env.scope = sc → X.N = N → Sd G C X W e i
  | 0, sc, e, i, h, X, W, ok, hs, hn => by simp [compE] at h
  | n + 1, sc, e, i, h, X, W, ok, hs, hn => by
    have hB := k.hB
    have hC := k.hC
    have bs := k.bs X W ok
    have eqo := k.eqo X W ok
    have hK := bs.K
    have ih : ∀ e i, compE g N n sc e = some i → Sd G C X W e i := fun e i h => compE_ok k hN n sc e i h X W ok hs hn
    have val : ∀ {i}, (∀ j, i ≠ Ex.var j) → (∀ r Q E, evT G.B C i r Q E = evS G.B C i r (fun x => truW x Q) E) → PE X e (rdR G C W i) → (∀ op es p, e ≠ .BoolOp op es p) → (∀ a p, e ≠ .UnaryOp .Not a p) → (∀ a o b p, e ≠ .Compare a o b p) → isStar e = false → Sd G C X W e i :=
      fun h1 h2 h3 h4 h5 h6 h7 => sd_val hB hC hK h1 h2 h3 (fun hi => isTrue_ok hi h4 h5 h6) h7
    unfold compE at h
    split at h
    · rename_i c kk p
      simp only [Option.map_eq_some_iff] at h
      obtain ⟨d, h1, h2⟩ := h
      subst h2
      refine val (fun _ z => nomatch z) (fun _ _ _ => rfl) ?_ (fun _ _ _ z => nomatch z) (fun _ _ z => nomatch z) (fun _ _ _ _ z => nomatch z) rfl
      cases c <;> first
        | (cases h1; exact p_con pe_non fun _ => .non)
        | (cases h1; exact p_con pe_bl fun _ => .bl _)
        | (cases h1; exact p_con pe_int fun _ => .int _)
        | (cases h1; exact p_con pe_str fun _ => .str _)
        | cases h1
    · rename_i x p
      unfold nameE at h
      split at h
      · cases h
      · rename_i ho
        have ho : odd x = false := by simpa using ho
        obtain ⟨o1, o2, o3⟩ := odd_cases ho
        split at h
        · rename_i hv
          simp only [Option.map_eq_some_iff] at h
          obtain ⟨j, h1, h2⟩ := h
          subst h2
          have pv : PE X (.Name x p) (tVar j) := pe_var (by rw [hn]; exact ixOf_get h1) (vis_ok hs hv) o1 o2
          exact ⟨p_var pv, p_varS pv, fun hi => t_val hB hC hK (fun _ _ _ => rfl) (p_varS pv) (isTrue_ok hi (fun _ _ _ z => nomatch z) (fun _ _ z => nomatch z) (fun _ _ _ _ z => nomatch z)), rfl⟩
        · split at h
          · rename_i hg
            simp only [Option.map_eq_some_iff] at h
            obtain ⟨d, h1, h2⟩ := h
            subst h2
            exact val (fun _ z => nomatch z) (fun _ _ _ => rfl) (k.con X W x d p ok h1 (gl_ok hs hg) ho) (fun _ _ _ z => nomatch z) (fun _ _ z => nomatch z) (fun _ _ _ _ z => nomatch z) rfl
          · cases h
    · simp only [Option.map_eq_some_iff, Option.bind_eq_some_iff] at h
      obtain ⟨i, h1, j, h2, h3⟩ := h
      subst h3
      exact val (fun _ z => nomatch z) (fun _ _ _ => rfl) (p_bin hB hC hK (ih _ _ h1).S (ih _ _ h2).S) (fun _ _ _ z => nomatch z) (fun _ _ z => nomatch z) (fun _ _ _ _ z => nomatch z) rfl
    · simp only [Option.map_eq_some_iff] at h
      obtain ⟨i, h1, h3⟩ := h
      subst h3
      exact val (fun _ z => nomatch z) (fun _ _ _ => rfl) (p_neg hB hC (ih _ _ h1).S) (fun _ _ _ z => nomatch z) (fun _ _ z => nomatch z) (fun _ _ _ _ z => nomatch z) rfl
    · simp only [Option.map_eq_some_iff] at h
      obtain ⟨i, h1, h3⟩ := h
      subst h3
      obtain ⟨s, hi⟩ := tst_ok ih _ _ h1
      have p := p_not hB hC hK s.S (pos := ‹Pos›)
      exact ⟨p, rdR_S hB hC (fun _ z => nomatch z) p, fun _ => t_not hB hC (s.T hi), rfl⟩
    · rename_i op a b r p
      have ih2 := tst_ok ih
      obtain ⟨p1, p2⟩ := boolA_ok hB hC (fun e i h => (ih2 e i h).1) op p (fun e i h => (ih2 e i h).2) _ _ h
      exact ⟨p1, rdR_S hB hC (boolA_var hB hC (fun e i h => (ih2 e i h).1) op a b r i h) p1, fun _ => p2.pt, rfl⟩
    · split at h
      · cases h
      rename_i hb
      simp only [Option.map_eq_some_iff, Option.bind_eq_some_iff] at h
      obtain ⟨i, h1, j, h2, h3⟩ := h
      subst h3
      have hb := fun op : CmpOp => behind_ok (op := op) (by simpa using hb)
      unfold cmpI
      split
      · split
        · have p := p_cmo hB hC (n := false) eqo (pe_frz hB hC (ih _ _ h1).R) (pe_frz hB hC (ih _ _ h2).R) (hb _) (pos := ‹Pos›)
          exact ⟨p, rdR_S hB hC (fun _ z => nomatch z) p, fun _ => t_cmo hB hC (n := false) eqo (pe_frz hB hC (ih _ _ h1).R) (pe_frz hB hC (ih _ _ h2).R) (hb _), rfl⟩
        · have p := p_cmp hB hC (op := .Eq) bs eqo (ih _ _ h1).S (ih _ _ h2).S (hb _) (pos := ‹Pos›)
          exact ⟨p, rdR_S hB hC (fun _ z => nomatch z) p, fun _ => t_cmp hB hC (op := .Eq) bs eqo (ih _ _ h1).S (ih _ _ h2).S (hb _), rfl⟩
      · split
        · have p := p_cmo hB hC (n := true) eqo (pe_frz hB hC (ih _ _ h1).R) (pe_frz hB hC (ih _ _ h2).R) (hb _) (pos := ‹Pos›)
          exact ⟨p, rdR_S hB hC (fun _ z => nomatch z) p, fun _ => t_cmo hB hC (n := true) eqo (pe_frz hB hC (ih _ _ h1).R) (pe_frz hB hC (ih _ _ h2).R) (hb _), rfl⟩
        · have p := p_cmp hB hC (op := .NotEq) bs eqo (ih _ _ h1).S (ih _ _ h2).S (hb _) (pos := ‹Pos›)
          exact ⟨p, rdR_S hB hC (fun _ z => nomatch z) p, fun _ => t_cmp hB hC (op := .NotEq) bs eqo (ih _ _ h1).S (ih _ _ h2).S (hb _), rfl⟩
      · split
        · have p := p_cmi hB hC (n := false) eqo (pe_frz hB hC (ih _ _ h1).R) (ih _ _ h2).S (hb _) (pos := ‹Pos›)
          exact ⟨p, rdR_S hB hC (fun _ z => nomatch z) p, fun _ => t_cmi hB hC (n := false) eqo (pe_frz hB hC (ih _ _ h1).R) (ih _ _ h2).S (hb _), rfl⟩
        · have p := p_cmp hB hC (op := .In) bs eqo (ih _ _ h1).S (ih _ _ h2).S (hb _) (pos := ‹Pos›)
          exact ⟨p, rdR_S hB hC (fun _ z => nomatch z) p, fun _ => t_cmp hB hC (op := .In) bs eqo (ih _ _ h1).S (ih _ _ h2).S (hb _), rfl⟩
      · split
        · have p := p_cmi hB hC (n := true) eqo (pe_frz hB hC (ih _ _ h1).R) (ih _ _ h2).S (hb _) (pos := ‹Pos›)
          exact ⟨p, rdR_S hB hC (fun _ z => nomatch z) p, fun _ => t_cmi hB hC (n := true) eqo (pe_frz hB hC (ih _ _ h1).R) (ih _ _ h2).S (hb _), rfl⟩
        · have p := p_cmp hB hC (op := .NotIn) bs eqo (ih _ _ h1).S (ih _ _ h2).S (hb _) (pos := ‹Pos›)
          exact ⟨p, rdR_S hB hC (fun _ z => nomatch z) p, fun _ => t_cmp hB hC (op := .NotIn) bs eqo (ih _ _ h1).S (ih _ _ h2).S (hb _), rfl⟩
      · exact ⟨p_cmp hB hC bs eqo (ih _ _ h1).S (ih _ _ h2).S (hb _), rdR_S hB hC (fun _ z => nomatch z) (p_cmp hB hC bs eqo (ih _ _ h1).S (ih _ _ h2).S (hb _)), fun _ => t_cmp hB hC bs eqo (ih _ _ h1).S (ih _ _ h2).S (hb _), rfl⟩
    · split at h
      · cases h
      rename_i a o p b c pos hb
      simp only [Option.map_eq_some_iff, Option.bind_eq_some_iff] at h
      obtain ⟨i, h1, j, h2, l, h3, h4⟩ := h
      subst h4
      have hc : lastMarks [o, p] [b, c] = false := by
        simp only [Bool.or_eq_true, not_or, Bool.not_eq_true] at hb
        show behindInMarks p c = false
        exact behind_ok hb.2
      have q := p_chn hB hC bs eqo (ih _ _ h1).S (ih _ _ h2).S (ih _ _ h3).S hc (pos := pos)
      exact ⟨q, rdR_S hB hC (fun _ z => nomatch z) q, fun _ => t_chn hB hC bs eqo (ih _ _ h1).S (ih _ _ h2).S (ih _ _ h3).S hc, rfl⟩
    · simp only [Option.map_eq_some_iff, Option.bind_eq_some_iff] at h
      obtain ⟨i, h1, j, h2, l, h3, h4⟩ := h
      subst h4
      obtain ⟨s, hi⟩ := tst_ok ih _ _ h1
      have q := p_ite hB hC (s.T hi) (ih _ _ h2).R (ih _ _ h3).R (pos := ‹Pos›)
      exact ⟨q, rdR_S hB hC (fun _ z => nomatch z) q, (fun z => nomatch z), rfl⟩
    · simp only [Option.map_eq_some_iff] at h
      obtain ⟨i, h1, h3⟩ := h
      subst h3
      exact val (fun _ z => nomatch z) (fun _ _ _ => rfl) (p_tup hB hC (mapA_ok hB hC ih hK _ _ h1)) (fun _ _ _ z => nomatch z) (fun _ _ z => nomatch z) (fun _ _ _ _ z => nomatch z) rfl
    · simp only [Option.map_eq_some_iff] at h
      obtain ⟨i, h1, h3⟩ := h
      subst h3
      exact val (fun _ z => nomatch z) (fun _ _ _ => rfl) (p_lst hB hC (mapA_ok hB hC ih hK _ _ h1)) (fun _ _ _ z => nomatch z) (fun _ _ z => nomatch z) (fun _ _ _ _ z => nomatch z) rfl
    · simp only [Option.map_eq_some_iff, Option.bind_eq_some_iff] at h
      obtain ⟨i, h1, j, h2, l, h3, h4⟩ := h
      subst h4
      exact val (fun _ z => nomatch z) (fun _ _ _ => rfl) (p_slc hB hC hK (ih _ _ h1).S (optE_ok hB hC ih _ _ h2) (optE_ok hB hC ih _ _ h3)) (fun _ _ _ z => nomatch z) (fun _ _ z => nomatch z) (fun _ _ _ _ z => nomatch z) rfl
    · split at h
      · rename_i hm
        simp only [Option.map_eq_some_iff] at h
        obtain ⟨i, h1, h3⟩ := h
        subst h3
        exact val (fun _ z => nomatch z) (fun _ _ _ => rfl) (k.rev X W _ _ _ _ _ ok hm.2 hm.1 (ih _ _ h1).S) (fun _ _ _ z => nomatch z) (fun _ _ z => nomatch z) (fun _ _ _ _ z => nomatch z) rfl
      · cases h
    · simp only [Option.map_eq_some_iff, Option.bind_eq_some_iff] at h
      obtain ⟨i, h1, j, h2, h4⟩ := h
      subst h4
      exact val (fun _ z => nomatch z) (fun _ _ _ => rfl) (p_idx hB hC hK (ih _ _ h1).S (ih _ _ h2).S (plainIx_ok h2)) (fun _ _ _ z => nomatch z) (fun _ _ z => nomatch z) (fun _ _ _ _ z => nomatch z) rfl
    · rename_i f p params body scope lp pos
      split at h
      · cases h
      rename_i ho
      simp only [Bool.or_eq_true, Bool.not_eq_true', not_or, Bool.not_eq_true, Bool.not_eq_false] at ho
      split at h
      · rename_i hf
        simp only [Option.bind_eq_some_iff] at h
        obtain ⟨e1, h1, h2⟩ := h
        obtain ⟨nm, is, h3, h4⟩ := lamOf_mem h2
        subst h4
        exact val (fun _ z => nomatch z) (fun _ _ _ => rfl) (k.lam X W f params body scope p lp pos n e1 nm is ok hf.1 (gl_ok hs ho.2) ho.1 hf.2.1 (by rw [hs]; exact LamX.lamS_by hf.2.2) (by rw [hn]; exact h1) (by rw [hn]; exact h3)) (fun _ _ _ z => nomatch z) (fun _ _ z => nomatch z) (fun _ _ _ _ z => nomatch z) rfl
      · cases h
    · rename_i f p args pos hlam
      split at h
      · cases h
      rename_i ho
      simp only [Bool.or_eq_true, Bool.not_eq_true', not_or, Bool.not_eq_true, Bool.not_eq_false] at ho
      split at h
      · rename_i a c hx
        obtain ⟨e1, e2, e3, e4, p2, e5⟩ := isxA_ok hx
        subst e1 e5
        simp only [Option.map_eq_some_iff] at h
        obtain ⟨ia, h1, h2⟩ := h
        subst h2
        have s := ih _ _ h1
        exact val (fun _ z => nomatch z) (fun _ _ _ => rfl) (k.isx X W c a ia p p2 pos ok e2 (gl_ok hs ho.2) (gl_ok hs e3) e4 s.st (pe_frz hB hC s.R)) (fun _ _ _ z => nomatch z) (fun _ _ z => nomatch z) (fun _ _ _ _ z => nomatch z) rfl
      split at h
      · rename_i hf
        simp only [Option.map_eq_some_iff] at h
        obtain ⟨is, h1, h2⟩ := h
        subst h2
        obtain ⟨q1, q2, q3⟩ := mapN_ok hB hC ih _ _ h1
        exact val (fun _ z => nomatch z) (fun _ _ _ => rfl) (k.fn X W f args is p pos ok hf (gl_ok hs ho.2) ho.1 q3 (mapN_nil h1) q1) (fun _ _ _ z => nomatch z) (fun _ _ z => nomatch z) (fun _ _ _ _ z => nomatch z) rfl
      · split at h
        · rename_i a hl
          obtain ⟨e1, e2, e3, e4, p2, q2, e5⟩ := lrgA_ok hl
          subst e1 e5
          simp only [Option.map_eq_some_iff] at h
          obtain ⟨ia, h1, h2⟩ := h
          subst h2
          exact val (fun _ z => nomatch z) (fun _ _ _ => rfl) (k.lrg X W _ _ _ _ _ _ ok e2 e3 (gl_ok hs ho.2) (gl_ok hs e4) (ih _ _ h1).st (ih _ _ h1).S) (fun _ _ _ z => nomatch z) (fun _ _ z => nomatch z) (fun _ _ _ _ z => nomatch z) rfl
        split at h
        · rename_i hn
          obtain ⟨e1, e2, hne⟩ := ntA_ok hn
          subst e1
          simp only [Option.map_eq_some_iff] at h
          obtain ⟨is, h1, h2⟩ := h
          subst h2
          obtain ⟨q1, q2, q3⟩ := mapN_ok hB hC ih _ _ h1
          exact val (fun _ z => nomatch z) (fun _ _ _ => rfl) (k.ntp X W args is p pos ok e2 (gl_ok hs ho.2) hne q3 q2) (fun _ _ _ z => nomatch z) (fun _ _ z => nomatch z) (fun _ _ _ _ z => nomatch z) rfl
        split at h
        · rename_i b hf
          split at h
          · cases h
          · rename_i hne
            simp only [Option.map_eq_some_iff] at h
            obtain ⟨is, h1, h2⟩ := h
            subst h2
            obtain ⟨q1, q2, q3⟩ := mapN_ok hB hC ih _ _ h1
            exact val (fun _ z => nomatch z) (fun _ _ _ => rfl) (k.blt X W f b args is p pos ok hf (gl_ok hs ho.2) ho.1 (fun z => hne z) q3 q2) (fun _ _ _ z => nomatch z) (fun _ _ z => nomatch z) (fun _ _ _ _ z => nomatch z) rfl
        · cases h
    · rename_i f p args kws pos hlam hk
      split at h
      · cases h
      rename_i ho
      simp only [Bool.or_eq_true, Bool.not_eq_true', not_or, Bool.not_eq_true, Bool.not_eq_false] at ho
      simp only [Option.map_eq_some_iff, Option.bind_eq_some_iff] at h
      obtain ⟨pm, h1, is, h3, js, h4, h5⟩ := h
      subst h5
      obtain ⟨q1, q2, q3⟩ := mapN_ok hB hC ih _ _ h3
      obtain ⟨q4, q5⟩ := mapK_ok hB hC ih _ _ h4
      exact val (fun _ z => nomatch z) (fun _ _ _ => rfl) (k.fnk X W f pm args kws is js p pos ok (kwOf_mem h1) (gl_ok hs ho.2) ho.1 q3 q5 (fun z => hk z) (mapN_nil h3) (mapN_len _ _ h3) (by have := mapN_len _ _ h4; simpa using this) q1 q4) (fun _ _ _ z => nomatch z) (fun _ _ z => nomatch z) (fun _ _ _ _ z => nomatch z) rfl
    · rename_i o m ap args cp
      split at h
      · cases h
      rename_i hc
      simp only [not_or, Bool.not_eq_true, Bool.not_eq_false] at hc
      split at h
      · rename_i key hm
        split at h
        · cases h
        rename_i hlen
        have hlen : args.length < 20 := by simpa using hlen
        simp only [Option.map_eq_some_iff, Option.bind_eq_some_iff] at h
        obtain ⟨io, h1, is, h2, h3⟩ := h
        subst h3
        obtain ⟨q1, q2, q3⟩ := mapN_ok hB hC ih _ _ h2
        exact val (fun _ z => nomatch z) (fun _ _ _ => rfl) (k.mcl X W m key o io args is ap cp ok hm hc.1 hlen q3 (mapN_nil h2) (pe_frz hB hC (ih _ _ h1).R) q1 hc.2) (fun _ _ _ z => nomatch z) (fun _ _ z => nomatch z) (fun _ _ _ _ z => nomatch z) rfl
      · split at h
        · rename_i b hm
          split at h
          · cases h
          · rename_i hne
            simp only [Bool.or_eq_true, Bool.not_eq_true', decide_eq_false_iff_not, not_or, Bool.not_eq_true, Decidable.not_not, List.isEmpty_eq_false_iff] at hne
            simp only [Option.map_eq_some_iff, Option.bind_eq_some_iff] at h
            obtain ⟨io, h1, is, h2, h3⟩ := h
            subst h3
            obtain ⟨q1, q2, q3⟩ := mapN_ok hB hC ih _ _ h2
            exact val (fun _ z => nomatch z) (fun _ _ _ => rfl) (k.mth X W m b o io args is ap cp ok hm hc.1 hne.1 hne.2 q3 (ih _ _ h1).S q2 hc.2) (fun _ _ _ z => nomatch z) (fun _ _ z => nomatch z) (fun _ _ _ _ z => nomatch z) rfl
        · cases h
    · rename_i o m ap args kws cp hk
      split at h
      · cases h
      rename_i hc
      simp only [not_or, Bool.not_eq_true, Bool.not_eq_false, Bool.not_eq_true', decide_eq_false_iff_not, Decidable.not_not] at hc
      simp only [Option.map_eq_some_iff, Option.bind_eq_some_iff] at h
      obtain ⟨key, h1, pm, h2, io, h3, is, h4, js, h5, h6⟩ := h
      subst h6
      obtain ⟨q1, q2, q3⟩ := mapN_ok hB hC ih _ _ h4
      obtain ⟨q4, q5⟩ := mapK_ok hB hC ih _ _ h5
      exact val (fun _ z => nomatch z) (fun _ _ _ => rfl) (k.mck X W m key pm o io args kws is js ap cp ok h1 (kwOf_mem h2) hc.1 (by simpa using hc.2.2) q3 q5 (fun z => hk z) (mapN_nil h4) (mapN_len _ _ h4) (by have := mapN_len _ _ h5; simpa using this) (pe_frz hB hC (ih _ _ h3).R) q1 q4 hc.2.1) (fun _ _ _ z => nomatch z) (fun _ _ z => nomatch z) (fun _ _ _ _ z => nomatch z) rfl
    · split at h
      · cases h
      rename_i hc
      simp only [Option.map_eq_some_iff, Option.bind_eq_some_iff] at h
      obtain ⟨key, h1, io, h2, h3⟩ := h
      subst h3
      exact val (fun _ z => nomatch z) (fun _ _ _ => rfl) (k.att X W _ io _ key _ ok h1 (pe_frz hB hC (ih _ _ h2).R) (by simpa using hc)) (fun _ _ _ z => nomatch z) (fun _ _ z => nomatch z) (fun _ _ _ _ z => nomatch z) rfl
    · cases h
      exact val (fun _ z => nomatch z) (fun _ _ _ => rfl) p_dct0 (fun _ _ _ z => nomatch z) (fun _ _ z => nomatch z) (fun _ _ _ _ z => nomatch z) rfl
    · rename_i kx _ _ c _ _ _
      simp only [Option.map_eq_some_iff] at h
      obtain ⟨d, h1, h2⟩ := h
      subst h2
      refine val (fun _ z => nomatch z) (fun _ _ _ => rfl) ?_ (fun _ _ _ z => nomatch z) (fun _ _ z => nomatch z) (fun _ _ _ _ z => nomatch z) rfl
      cases c <;> first
        | (cases h1; exact p_dct1 pe_non fun _ => .non)
        | (cases h1; exact p_dct1 pe_bl fun _ => .bl _)
        | (cases h1; exact p_dct1 pe_int fun _ => .int _)
        | (cases h1; exact p_dct1 pe_str fun _ => .str _)
        | cases h1
    · simp only [Option.map_eq_some_iff] at h
      obtain ⟨is, h1, h3⟩ := h
      subst h3
      refine val (fun _ z => nomatch z) (fun _ _ _ => rfl) (PE.imp (pe_joined (mapF_ok hB hC ih _ _ h1)) fun σ H Q ⟨r, re, tb, z⟩ => ?_) (fun _ _ _ z => nomatch z) (fun _ _ z => nomatch z) (fun _ _ _ _ z => nomatch z) rfl
      exact fst_run hB hC is r Str.empty H H (fun _ => True) _ _ re tb (LamX.ExtN.refl H) z fun s H' x t f => f _ H' (.str s) x t
    · rename_i elt tg iter ifs scope pos
      split at h
      · rename_i hb
        simp only [Option.map_eq_some_iff, Option.bind_eq_some_iff] at h
        obtain ⟨t, h1, h⟩ := h
        split at h
        · rename_i hin
          simp only [Option.map_eq_some_iff, Option.bind_eq_some_iff] at h
          obtain ⟨ix, h2, co, h3, el, h4, h5⟩ := h
          subst h5
          have hin : ∀ i ∈ tgIx t, i ∈ (ownOf N scope).map (fun (p : Str × Nat) => p.2) := fun i hi => by
            have := List.all_eq_true.mp hin i hi
            simpa using this
          have bok := blkOk_by hb
          obtain ⟨hI, hset⟩ := compI_ok k ok hs ih tg iter ix h2
          have okB : ∀ s H a cl fp, Ok (X.blk s H scope (compEnvC scope cl a X.env) fp) W0 := fun s H a cl fp => k.blk X W s H scope cl a fp ok
          have hsc : ∀ s H a cl fp, (X.blk s H scope (compEnvC scope cl a X.env) fp).env.scope = relS scope sc := fun s H a cl fp => by rw [← hs]; rfl
          have hg : ∀ (s : Shared) (H : Hp) (a : Addr) (cl : List (Str × Addr)) (fp : List Addr), PG (X.blk s H scope (compEnvC scope cl a X.env) fp) tg (rdG G t) := fun s H a cl fp =>
            compT_ok (hsc s H a cl fp) hn hN (k.bs _ _ (okB s H a cl fp)).calm (k.bs _ _ (okB s H a cl fp)).K n tg t h1 (own_fn (X := X) bok hN hin (hsc s H a cl fp) rfl)
          have ht : ∀ (s : Shared) (H : Hp) (a : Addr) (cl : List (Str × Addr)) (fp : List Addr), PTs (X.blk s H scope (compEnvC scope cl a X.env) fp) ifs (rdC G C co) := fun s H a cl fp => by
            split at h3
            · cases h3
              exact c_no
            · simp only [Option.map_eq_some_iff] at h3
              obtain ⟨i, h6, h7⟩ := h3
              subst h7
              obtain ⟨s1, s2⟩ := tst_ok (fun e i h => compE_ok k hN n _ e i h _ W0 (okB s H a cl fp) (hsc s H a cl fp) hn) _ _ h6
              exact c_so hB hC (s1.T s2)
            · cases h3
          have he : ∀ (s : Shared) (H : Hp) (a : Addr) (cl : List (Str × Addr)) (fp : List Addr), PE (X.blk s H scope (compEnvC scope cl a X.env) fp) elt (rdV G C W0 el) := fun s H a cl fp =>
            pe_frz hB hC (compE_ok k hN n _ elt el h4 _ W0 (okB s H a cl fp) (hsc s H a cl fp) hn).R
          have bok' : BlkOk X.N X.env.scope scope (ownOf N scope) := by rw [hn, hs]; exact bok
          refine val (fun _ z => nomatch z) (fun _ _ _ => rfl) (PE.imp (pe_lc bs.calm (by rw [hn]; exact hN) hI bok' hg ht he (fset_ok hset)) ?_) (fun _ _ _ z => nomatch z) (fun _ _ z => nomatch z) (fun _ _ _ _ z => nomatch z) rfl
          exact p_lc hB hC bs (pos := pos) hI bok' hin hg ht he (fset_ok hset)
        · cases h
      · cases h
    · cases h
end
end En
/-! En12: statements: monotony, what stays true, readings. -/
namespace En
open PySem L2 PyProof.Rows
/-! ### monotony -/
structure Nd.Le (N M : Nd) : Prop where
  nx : ∀ r, N.nx r → M.nx r
  rt : ∀ x r, N.rt x r → M.rt x r
  bk : ∀ r, N.bk r → M.bk r
  ct : ∀ r, N.ct r → M.ct r
section
variable {B : Lib} {C : Call} (hB : B.Mono) (hC : MonoC C)
include hB hC
theorem evIF_mono (e : Ix) (r : Env) (Q Q' : List D → Env → Prop) (E E' : XP) (hq : ∀ x r, Q x r → Q' x r) (he : ∀ c ds, E c ds → E' c ds) (z : evIF B C e r Q E) : evIF B C e r Q' E' := by
  cases e with
  | seq e => exact (evP_mono hB hC e r).S _ _ E E' (fun x q => seqW_mono (fun ys q => hq _ _ q) q) he z
  | rng1 a => exact evI_mono hB hC _ r _ _ E E' (fun x q => hq _ _ q) he z
  | rng2 a b => exact evI_mono hB hC _ r _ _ E E' (fun x q => hq _ _ q) he z
  | enu e => exact (evP_mono hB hC e r).S _ _ E E' (fun x q => enuW_mono (fun ys q => hq _ _ q) q) he z
  | zip a b => exact (evP_mono hB hC a r).S _ _ E E' (fun x q => (evP_mono hB hC b _).S _ _ E E' (fun y q => zipW_mono (fun xs ys q => hq _ _ q) q) he q) he z
mutual
theorem exS_mono : ∀ (s : Sm) (N M : Nd) (r : Env) (E E' : XP), N.Le M → (∀ c ds, E c ds → E' c ds) → exS B C s N r E → exS B C s M r E'
  | .ret e, N, M, r, E, E', hn, he, z => by
    unfold exS at z ⊢
    exact (evP_mono hB hC e r).R _ _ E E' (fun x q => hn.rt _ _ q) he z
  | .retN, N, M, r, E, E', hn, he, z => by
    unfold exS at z ⊢
    exact hn.rt _ _ z
  | .retO i, N, M, r, E, E', hn, he, z => by
    unfold exS at z ⊢
    rcases z with ⟨xs, t, e, z⟩ | ⟨d, e, z⟩
    · exact .inl ⟨xs, t, e, hn.rt _ _ z⟩
    · exact .inr ⟨d, e, hn.rt _ _ z⟩
  | .set i e, N, M, r, E, E', hn, he, z => by
    unfold exS at z ⊢
    exact (evP_mono hB hC e r).R _ _ E E' (fun x q => hn.nx _ q) he z
  | .own i e, N, M, r, E, E', hn, he, z => by
    unfold exS at z ⊢
    exact (evP_mono hB hC e r).R _ _ E E' (fun x q => hn.nx _ q) he z
  | .unp tg e, N, M, r, E, E', hn, he, z => by
    unfold exS at z ⊢
    exact (evP_mono hB hC e r).R _ _ E E' (fun x ⟨xs, e, q⟩ => ⟨xs, e, bindTgs_mono _ _ _ _ _ hn.nx q⟩) he z
  | .uno i j a b, N, M, r, E, E', hn, he, z => by
    unfold exS at z ⊢
    exact (evP_mono hB hC a r).R _ _ E E' (fun x ⟨d, e, q⟩ => ⟨d, e, (evP_mono hB hC b r).R _ _ E E' (fun y q => hn.nx _ q) he q⟩) he z
  | .unf i j a b, N, M, r, E, E', hn, he, z => by
    unfold exS at z ⊢
    exact (evP_mono hB hC a r).R _ _ E E' (fun x q => (evP_mono hB hC b r).R _ _ E E' (fun y q => hn.nx _ q) he q) he z
  | .pa3 i j l a b c, N, M, r, E, E', hn, he, z => by
    unfold exS at z ⊢
    exact (evP_mono hB hC a r).R _ _ E E' (fun x ⟨d, e, q⟩ => ⟨d, e, (evP_mono hB hC b r).R _ _ E E' (fun y q => (evP_mono hB hC c r).R _ _ E E' (fun u q => hn.nx _ q) he q) he q⟩) he z
  | .par ks es, N, M, r, E, E', hn, he, z => by
    unfold exS at z ⊢
    exact (evAs_mono hB hC es r).R _ _ E E' (fun x q => ⟨q.1, hn.nx _ q.2⟩) he z
  | .app i e, N, M, r, E, E', hn, he, z => by
    unfold exS at z ⊢
    obtain ⟨xs, t, e1, l, z⟩ := z
    exact ⟨xs, t, e1, l, (evP_mono hB hC e r).R _ _ E E' (fun x q => hn.nx _ q) he z⟩
  | .ext i e, N, M, r, E, E', hn, he, z => by
    unfold exS at z ⊢
    obtain ⟨xs, t, e1, z⟩ := z
    exact ⟨xs, t, e1, (evP_mono hB hC e r).R _ _ E E' (fun x ⟨ys, f, l, q⟩ => ⟨ys, f, l, hn.nx _ q⟩) he z⟩
  | .put i k e, N, M, r, E, E', hn, he, z => by
    unfold exS at z ⊢
    obtain ⟨xs, t, e1, z⟩ := z
    exact ⟨xs, t, e1, (evP_mono hB hC e r).R _ _ E E' (fun x q => (evP_mono hB hC k r).S _ _ E E' (fun y ⟨j, n, e2, e3, q⟩ => ⟨j, n, e2, e3, hn.nx _ q⟩) he q) he z⟩
  | .pop i, N, M, r, E, E', hn, he, z => by
    unfold exS at z ⊢
    obtain ⟨xs, x, t, e, z⟩ := z
    exact ⟨xs, x, t, e, hn.nx _ z⟩
  | .cio j f fl es, N, M, r, E, E', hn, he, z => by
    unfold exS at z ⊢
    obtain ⟨h1, h2, z⟩ := z
    exact ⟨h1, h2, (evAs_mono hB hC es r).S _ _ E0 E0 (fun ds ⟨a, z⟩ => ⟨a, hC _ _ _ _ _ _ (fun x ⟨d, ys, r', e1, e2, z⟩ => ⟨d, ys, r', e1, e2, hn.nx _ z⟩) (fun _ _ z => z) z⟩) (fun _ _ z => z) z⟩
  | .dvs i k j e, N, M, r, E, E', hn, he, z => by
    unfold exS at z ⊢
    obtain ⟨xs, t, e1, z⟩ := z
    exact ⟨xs, t, e1, (evP_mono hB hC e r).R _ _ E E' (fun x ⟨a, b, e0, q⟩ => ⟨a, b, e0, (evP_mono hB hC k r).S _ _ E E' (fun y ⟨j, n, e2, e3, q⟩ => ⟨j, n, e2, e3, hn.nx _ q⟩) he q⟩) he z⟩
  | .dead, N, M, r, E, E', hn, he, z => by
    unfold exS at z
    exact z.elim
  | .drop e, N, M, r, E, E', hn, he, z => by
    unfold exS at z ⊢
    exact (evP_mono hB hC e r).R _ _ E E' (fun x q => hn.nx _ q) he z
  | .iff t a b, N, M, r, E, E', hn, he, z => by
    unfold exS at z ⊢
    exact (evP_mono hB hC t r).T _ _ E E' (fun c q => ite_mono (exSs_mono a N M r E E' hn he) (exSs_mono b N M r E E' hn he) q) he z
  | .forr tg it b, N, M, r, E, E', hn, he, z => by
    unfold exS at z ⊢
    exact evIF_mono hB hC it r _ _ E E' (fun items r0 q => forW_mono (fun x a K K' hk q => bindTg_mono tg x a _ _ (fun r2 q => exSs_mono b { N with nx := K, ct := K, bk := N.nx } { M with nx := K', ct := K', bk := M.nx } r2 E E' ⟨hk, hn.rt, hn.nx, hk⟩ he q) q) items r0 _ _ hn.nx q) he z
  | .whl t b, N, M, r, E, E', hn, he, z => by
    unfold exS at z ⊢
    obtain ⟨W, h0, h⟩ := z
    exact ⟨W, h0, fun m r w => (evP_mono hB hC t r).T _ _ E E' (fun c q => ite_mono (exSs_mono b { N with nx := fun r' => ∃ m', m' < m ∧ W m' r', ct := fun r' => ∃ m', m' < m ∧ W m' r', bk := N.nx } { M with nx := fun r' => ∃ m', m' < m ∧ W m' r', ct := fun r' => ∃ m', m' < m ∧ W m' r', bk := M.nx } r E E' ⟨fun _ q => q, hn.rt, hn.nx, fun _ q => q⟩ he) (hn.nx _) q) he (h m r w)⟩
  | .rse c es, N, M, r, E, E', hn, he, z => by
    unfold exS at z ⊢
    exact ⟨z.1, (evAs_mono hB hC es r).R _ _ E E' (fun x q => hC _ _ _ _ _ _ (fun _ q => he _ _ q) (fun _ _ z => z) q) he z.2⟩
  | .pss, N, M, r, E, E', hn, he, z => by
    unfold exS at z ⊢
    exact hn.nx _ z
  | .brk, N, M, r, E, E', hn, he, z => by
    unfold exS at z ⊢
    exact hn.bk _ z
  | .cnt, N, M, r, E, E', hn, he, z => by
    unfold exS at z ⊢
    exact hn.ct _ z
  | .frz i, N, M, r, E, E', hn, he, z => by
    unfold exS at z ⊢
    exact hn.nx _ z
theorem exSs_mono : ∀ (s : Sms) (N M : Nd) (r : Env) (E E' : XP), N.Le M → (∀ c ds, E c ds → E' c ds) → exSs B C s N r E → exSs B C s M r E'
  | .nil, N, M, r, E, E', hn, he, z => by
    unfold exSs at z ⊢
    exact hn.nx _ z
  | .cons s q, N, M, r, E, E', hn, he, z => by
    unfold exSs at z ⊢
    exact exS_mono s { N with nx := fun r' => exSs B C q N r' E } { M with nx := fun r' => exSs B C q M r' E' } r E E' ⟨fun r' z => exSs_mono q N M r' E E' hn he z, hn.rt, hn.bk, hn.ct⟩ he z
end
end
theorem callW_mono {B : Lib} (hB : B.Mono) {fs : List (Str × Fn)} {prim : Call → Call} (hp : ∀ C, MonoC C → MonoC (prim C)) : ∀ k, MonoC (callW B fs prim k)
  | 0 => fun f xs Q Q' E E' _ _ z => z
  | k + 1 => fun f xs Q Q' E E' hq he z => by
    unfold callW at z ⊢
    split at z
    · exact ⟨z.1, exSs_mono hB (callW_mono hB hp k) _ { nx := fun _ => Q (.v .non), rt := fun x _ => Q x } { nx := fun _ => Q' (.v .non), rt := fun x _ => Q' x } _ _ _ ⟨fun _ z => hq _ z, fun _ _ z => hq _ z, fun _ z => z, fun _ z => z⟩ he z.2⟩
    · exact hp _ (callW_mono hB hp k) f xs Q Q' E E' hq he z
/-! ### what stays true through a def's body -/
structure SI (G : Cfg) (H0 H : Hp) (r : Env) (σ : St) : Prop where
  re : RE G.K H r σ
  fr : ∀ (i : Nat) (xs : List D) (t : Option Addr) (p : Addr), r[i]? = some (some (.own xs t)) → σ[i]? = some (some (.ref p)) → Fr H0 p
  ex : ExN H0 H
  tb : Tb G H
section
variable {G : Cfg} {H0 H H' : Hp} {r : Env} {σ : St}
theorem SI.ext (s : SI G H0 H r σ) (x : ExN H H') (t : Tb G H') : SI G H0 H' r σ := ⟨s.re.ext x, s.fr, s.ex.trans x, t⟩
theorem SI.setV (s : SI G H0 H r σ) (i : Nat) {d : D} {v : V} (rd : RD G.K H d v) : SI G H0 H (r.set i (some (.val d))) (σ.set i (some v)) := by
  refine ⟨s.re.setV i rd, fun j xs t p e1 e2 => ?_, s.ex, s.tb⟩
  rcases set_own e1 with ⟨_, q, _⟩ | ⟨hj, f1⟩
  · cases q
  · rw [List.getElem?_set_ne (fun z => hj z.symm)] at e2
    exact s.fr j xs t p f1 e2
theorem SI.setO (s : SI G H0 H r σ) (i : Nat) {xs : List D} {p : Addr} {us : List V} (h : H p = some (.lst us)) (rd : RDs G.K H xs us) (hf : Fr H0 p) (hn : ∀ j ys u, j ≠ i → r[j]? = some (some (.own ys u)) → σ[j]? ≠ some (some (.ref p))) : SI G H0 H (r.set i (some (.own xs none))) (σ.set i (some (.ref p))) := by
  refine ⟨s.re.setO i h rd hn none (fun _ z => nomatch z), fun j ys t q e1 e2 => ?_, s.ex, s.tb⟩
  rcases set_own e1 with ⟨j1, q, hl⟩ | ⟨hj, f1⟩
  · subst j1
    rw [List.getElem?_set_self (by rw [← s.re.len]; exact hl)] at e2
    cases e2
    exact hf
  · rw [List.getElem?_set_ne (fun z => hj z.symm)] at e2
    exact s.fr j ys t q f1 e2
/-- what an expression leaves goes to a name -/
theorem SI.setR (s : SI G H0 H r σ) (i : Nat) {H1 : Hp} {x : Rv} {v : V} (rr : RR G.K H H1 x v) (e : ExN H H1) (t : Tb G H1) : SI G H0 H1 (r.set i (some (slotOf x))) (σ.set i (some v)) := by
  cases x with
  | v d => exact (s.ext e t).setV i rr
  | fr xs =>
    obtain ⟨p, us, e1, e2, e3, e4⟩ := rr
    subst e1
    refine (s.ext e t).setO i e3 e4 (e2.back s.ex) fun j ys _ hj f1 f2 => ?_
    obtain ⟨w, g1, q, us', g2, g3, g4, _⟩ := s.re.at_ j _ f1
    rw [f2] at g1
    cases g1
    cases g2
    exact absurd rfl (e2.ne g3 (fun _ z => nomatch z))
/-- a list of its own is written -/
theorem SI.put (s : SI G H0 H r σ) {i : Nat} {xs ys : List D} {t : Option Addr} {p : Addr} {us ws : List V} (hi : r[i]? = some (some (.own xs t))) (hs : σ[i]? = some (some (.ref p))) (h : H p = some (.lst us)) (rd : RDs G.K H ys ws) : SI G H0 (upd H p (.lst ws)) (r.set i (some (.own ys t))) σ := by
  have st : Stb H (upd H p (.lst ws)) := Stb.own h
  have hf := s.fr i xs _ p hi hs
  refine ⟨⟨fun j tt e => ?_, fun j k as bs ta tb v e1 e2 e3 e4 => ?_, by rw [List.length_set]; exact s.re.len⟩, fun j as ta q e1 e2 => ?_, ExN.frz s.ex hf, Tabs.own s.tb h⟩
  · rcases set_own e with ⟨rfl, rfl, hl⟩ | ⟨hj, e⟩
    · refine ⟨.ref p, hs, p, ws, rfl, upd_same, rd.stb st, ?_⟩
      obtain ⟨w0, g0, q0, us0, g3, _, _, g4⟩ := s.re.at_ _ _ hi
      rw [hs] at g0
      cases g0
      cases g3
      exact g4
    · obtain ⟨v, g1, g2⟩ := s.re.at_ j _ e
      refine ⟨v, g1, ?_⟩
      cases tt with
      | val d => exact RD.stb st g2
      | own zs tz =>
        obtain ⟨q, us', e1, e2, e3, e5⟩ := g2
        subst e1
        refine ⟨q, us', rfl, ?_, e3.stb st, e5⟩
        rw [upd_ne]
        · exact e2
        · intro z
          subst z
          exact hj (s.re.inj j i zs xs _ _ (.ref q) e hi g1 hs)
  · have own' : ∀ {j : Nat} {as : List D} {u : Option Addr}, (r.set i (some (Slot.own ys t)))[j]? = some (some (Slot.own as u)) → ∃ bs u, r[j]? = some (some (Slot.own bs u)) := fun {j as u} e => by
      rcases set_own e with ⟨e1, _, _⟩ | ⟨_, e⟩
      · rw [e1]
        exact ⟨xs, _, hi⟩
      · exact ⟨_, _, e⟩
    obtain ⟨_, _, f1⟩ := own' e1
    obtain ⟨_, _, f2⟩ := own' e2
    exact s.re.inj j k _ _ _ _ v f1 f2 e3 e4
  · rcases set_own e1 with ⟨rfl, _, _⟩ | ⟨_, f1⟩
    · rw [hs] at e2
      cases e2
      exact hf
    · exact s.fr j as _ q f1 e2
/-- the list of a name is frozen -/
theorem SI.frz (s : SI G H0 H r σ) {i : Nat} {xs : List D} {t : Option Addr} {p : Addr} {us : List V} {o : Obj} (hi : r[i]? = some (some (.own xs t))) (hs : σ[i]? = some (some (.ref p))) (h : H p = some (.lst us)) (rd : RDs G.K H xs us) : SI G H0 (upd H p (.frz o (.lst us))) (r.set i (some (.val (.lst xs)))) σ := by
  have hf := s.fr i xs _ p hi hs
  have st : Stb H (upd H p (.frz o (.lst us))) := fun b u e n _ => by
    rw [upd_ne (fun z => n us (by rw [z, h] at e; exact (Option.some.inj e).symm))]
    exact e
  refine ⟨⟨fun j tt e => ?_, fun j k as bs ta tb v e1 e2 e3 e4 => ?_, by rw [List.length_set]; exact s.re.len⟩, fun j as ta q e1 e2 => ?_, ExN.frz s.ex hf, Tabs.frz s.tb h⟩
  · rcases set_own e with ⟨rfl, rfl, hl⟩ | ⟨hj, e⟩
    · exact ⟨.ref p, hs, .lst (.inl ⟨o, upd_same⟩) (rd.stb st)⟩
    · obtain ⟨v, g1, g2⟩ := s.re.at_ j _ e
      refine ⟨v, g1, ?_⟩
      cases tt with
      | val d => exact RD.stb st g2
      | own zs tz =>
        obtain ⟨q, us', e1, e2, e3, e5⟩ := g2
        subst e1
        refine ⟨q, us', rfl, ?_, e3.stb st, e5⟩
        rw [upd_ne]
        · exact e2
        · intro z
          subst z
          exact hj (s.re.inj j i zs xs _ _ (.ref q) e hi g1 hs)
  · rcases set_own e1 with ⟨_, q, _⟩ | ⟨_, f1⟩
    · cases q
    · rcases set_own e2 with ⟨_, q, _⟩ | ⟨_, f2⟩
      · cases q
      · exact s.re.inj j k _ _ _ _ v f1 f2 e3 e4
  · rcases set_own e1 with ⟨_, q, _⟩ | ⟨_, f1⟩
    · cases q
    · exact s.fr j as _ q f1 e2
theorem Stb.frz {H : Hp} {p : Addr} {us : List V} {o : Obj} (h : H p = some (.lst us)) : Stb H (upd H p (.frz o (.lst us))) := fun b u e n _ => by
  rw [upd_ne (fun z => n us (by rw [z, h] at e; exact (Option.some.inj e).symm))]
  exact e
/-- a list of the frame, by its name -/
theorem SI.own_at (s : SI G H0 H r σ) {i : Nat} {xs : List D} {t : Option Addr} (hi : r[i]? = some (some (.own xs t))) : ∃ p us, σ[i]? = some (some (.ref p)) ∧ H p = some (.lst us) ∧ RDs G.K H xs us := by
  obtain ⟨v, e1, p, us, e2, e3, e4, _⟩ := s.re.at_ i _ hi
  subst e2
  exact ⟨p, us, e1, e3, e4⟩
end
/-! ### readings of statements -/
def eS (G : Cfg) (E : XK) (H0 : Hp) : XP := fun c ds => ∀ cls d H', RX G.K G.fl H' c ds cls d → ExN H0 H' → Tb G H' → E cls d H'
def wE (E : XK) : WX := fun cls d _ H => E cls d H
theorem eS.exq {G : Cfg} {E : XK} {H0 H : Hp} {σ : St} (x : ExN H0 H) (c : Str) (ds : List D) (h : eS G E H0 c ds) : exq G (wE E) σ H c ds := fun cls d H' rx x2 t => h cls d H' rx (x.trans x2) t
structure Nok (G : Cfg) (H0 H : Hp) (N : Nd) (D : Ends) : Prop where
  nx : ∀ r' σ' H', SI G H0 H' r' σ' → Stb H H' → N.nx r' → D.nx σ' H'
  rt : ∀ x v r σ H', SI G H0 H' r σ → RR G.K H0 H' x v → N.rt x r → D.rt v H'
  bk : ∀ r' σ' H', SI G H0 H' r' σ' → Stb H H' → N.bk r' → D.bk σ' H'
  ct : ∀ r' σ' H', SI G H0 H' r' σ' → Stb H H' → N.ct r' → D.ct σ' H'
theorem Nok.back {G : Cfg} {H0 H H1 : Hp} {N : Nd} {D : Ends} (h : Nok G H0 H N D) (s : Stb H H1) : Nok G H0 H1 N D :=
  ⟨fun r σ H' a b c => h.nx r σ H' a (s.trans b) c, h.rt, fun r σ H' a b c => h.bk r σ H' a (s.trans b) c, fun r σ H' a b c => h.ct r σ H' a (s.trans b) c⟩
def rdM (G : Cfg) (C : Call) (H0 : Hp) (E : XK) (s : Sm) : TS := fun D σ H => ∃ r N, SI G H0 H r σ ∧ Nok G H0 H N D ∧ exS G.B C s N r (eS G E H0)
def rdMs (G : Cfg) (C : Call) (H0 : Hp) (E : XK) (s : Sms) : TS := fun D σ H => ∃ r N, SI G H0 H r σ ∧ Nok G H0 H N D ∧ exSs G.B C s N r (eS G E H0)
section
variable {X : Cx} {G : Cfg} {C : Call} {H0 : Hp} {E : XK}
/-! ### ghost steps -/
def fzP (P : St → Hp → Prop) : St → Hp → Prop := fun σ H => P σ H ∨ ∃ p us, H p = some (.lst us) ∧ ∀ o, P σ (upd H p (.frz o (.lst us)))
theorem fzP.run {P : St → Hp → Prop} {pins : List (Addr × Obj)} {σ : St} {H : Hp} {s : Shared} (I : Inv X pins σ H s) (h : fzP P σ H) : ∃ H', Inv X pins σ H' s ∧ P σ H' := by
  rcases h with h | ⟨p, us, e, h⟩
  · exact ⟨H, I, h⟩
  · obtain ⟨o, I'⟩ := Inv.freeze I e
    exact ⟨_, I', h o⟩
theorem ps_fz {st : Stmt} {t : TS} (h : PS X st t) : PS X st fun D σ H => t { D with nx := fzP D.nx } σ H := by
  refine ⟨fun pins s σ H D I q => thn (h.run pins s σ H _ I q) fun fl s1 z => ?_⟩
  cases fl with
  | next =>
    obtain ⟨σ1, H1, I1, z⟩ := z
    obtain ⟨H2, I2, z⟩ := fzP.run I1 z
    exact ⟨σ1, H2, I2, z⟩
  | cont => exact z
  | brk => exact z
  | ret v => exact z
theorem pss_fz {sts : List Stmt} {t : TS} (h : PSs X sts t) : PSs X sts fun D σ H => fzP (t D) σ H := by
  refine ⟨fun pins s σ H D I q => ?_⟩
  obtain ⟨H2, I2, z⟩ := fzP.run I q
  exact h.run pins s σ H2 D I2 z
/-! ### rows of statements -/
theorem m_nil : PSs X [] (rdMs G C H0 E .nil) := PSs.imp pss_nil fun D σ H ⟨r, N, si, no, z⟩ => by
  unfold exSs at z
  exact no.nx r σ H si (Stb.refl H) z
theorem m_cons {st : Stmt} {rest : List Stmt} {s : Sm} {q : Sms} (h1 : PS X st (rdM G C H0 E s)) (h2 : PSs X rest (rdMs G C H0 E q)) : PSs X (st :: rest) (rdMs G C H0 E (.cons s q)) := by
  refine PSs.imp (pss_cons h1 h2) fun D σ H ⟨r, N, si, no, z⟩ => ?_
  unfold exSs at z
  exact ⟨r, { N with nx := fun r' => exSs G.B C q N r' (eS G E H0) }, si, ⟨fun r' σ' H' si' st z => ⟨r', N, si', no.back st, z⟩, no.rt, no.bk, no.ct⟩, z⟩
/-- a ghost ahead -/
theorem m_frz {rest : List Stmt} {i : Nat} {q : Sms} (h2 : PSs X rest (rdMs G C H0 E q)) : PSs X rest (rdMs G C H0 E (.cons (.frz i) q)) := by
  refine PSs.imp (pss_fz h2) fun D σ H ⟨r, N, si, no, z⟩ => ?_
  unfold exSs exS at z
  have z : exSs G.B C q N (fzV i r) (eS G E H0) := z
  unfold fzV at z
  split at z
  · rename_i xs t hi
    obtain ⟨p, us, e1, e2, e3⟩ := si.own_at hi
    exact .inr ⟨p, us, e2, fun o => ⟨_, N, si.frz hi e1 e2 e3, no.back (Stb.frz e2), z⟩⟩
  · exact .inl ⟨r, N, si, no, z⟩
variable (hB : G.B.Mono) (hC : MonoC C)
/-! ### expressions within statements -/
section
include hB hC
theorem m_R {i : Ex} {σ : St} {H : Hp} {Q : VK} {r : Env} {F : Rv → Prop} (si : SI G H0 H r σ) (z : evR G.B C i r F (eS G E H0)) (k : ∀ x v H1, RR G.K H H1 x v → ExN H H1 → Tb G H1 → F x → Q v H1) : rdR G C (wE E) i σ H Q :=
  ⟨r, si.re, si.tb, (evP_mono hB hC i r).R _ _ _ _ (fun x f v H1 rr x1 t1 => k x v H1 rr x1 t1 f) (fun c ds z => eS.exq si.ex c ds z) z⟩
theorem m_S {i : Ex} {σ : St} {H : Hp} {Q : VK} {r : Env} {F : D → Prop} (si : SI G H0 H r σ) (z : evS G.B C i r F (eS G E H0)) (k : ∀ x v H1, RB G.K H1 x v → ExN H H1 → Tb G H1 → F x → Q v H1) : rdS G C (wE E) i σ H Q :=
  ⟨r, si.re, si.tb, (evP_mono hB hC i r).S _ _ _ _ (fun x f v H1 rr x1 t1 => k x v H1 rr x1 t1 f) (fun c ds z => eS.exq si.ex c ds z) z⟩
theorem m_V {i : Ex} {σ : St} {H : Hp} {Q : VK} {r : Env} {F : Rv → Prop} (si : SI G H0 H r σ) (z : evR G.B C i r F (eS G E H0)) (k : ∀ (x : Rv) v H1, RD G.K H1 x.d v → ExN H H1 → Tb G H1 → F x → Q v H1) : rdV G C (wE E) i σ H Q :=
  ⟨r, si.re, si.tb, (evP_mono hB hC i r).R _ _ _ _ (fun x f v H1 rr x1 t1 => k x v H1 rr x1 t1 f) (fun c ds z => eS.exq si.ex c ds z) z⟩
theorem m_T {i : Ex} {σ : St} {H : Hp} {Q : Bool → Hp → Prop} {r : Env} {F : Bool → Prop} (si : SI G H0 H r σ) (z : evT G.B C i r F (eS G E H0)) (k : ∀ b H1, ExN H H1 → Tb G H1 → F b → Q b H1) : rdT G C (wE E) i σ H Q :=
  ⟨r, si.re, si.tb, (evP_mono hB hC i r).T _ _ _ _ (fun x f H1 x1 t1 => k x H1 x1 t1 f) (fun c ds z => eS.exq si.ex c ds z) z⟩
theorem m_A {i : Exs} {σ : St} {H : Hp} {Q : List V → Hp → Prop} {r : Env} {F : List D → Prop} (si : SI G H0 H r σ) (z : (evAs G.B C i r).R F (eS G E H0)) (k : ∀ xs vs H1, RDs G.K H1 xs vs → ExN H H1 → Tb G H1 → F xs → Q vs H1) : rdA G C (wE E) i σ H Q :=
  ⟨r, si.re, si.tb, (evAs_mono hB hC i r).R _ _ _ _ (fun x f v H1 rr x1 t1 => k x v H1 rr x1 t1 f) (fun c ds z => eS.exq si.ex c ds z) z⟩
/-! ### the statements -/
theorem m_ret {e : Expr} {i : Ex} {pos : Pos} (h : PE X e (rdR G C (wE E) i)) : PS X (.Return (some e) pos) (rdM G C H0 E (.ret i)) := by
  refine PS.imp (ps_ret h) fun D σ H ⟨r, N, si, no, z⟩ => ?_
  unfold exS at z
  exact m_R hB hC si z fun x v H1 rr x1 t1 f => no.rt x v r σ H1 (si.ext x1 t1) (rr.back si.ex) f
omit hB hC in
theorem m_retN {pos : Pos} : PS X (.Return none pos) (rdM G C H0 E .retN) := by
  refine PS.imp ps_retN fun D σ H ⟨r, N, si, no, z⟩ => ?_
  unfold exS at z
  exact no.rt (.v .non) .non r σ H si .non z
omit hB hC in
theorem m_retO {e : Expr} {i : Nat} {pos : Pos} (h : PE X e (tVar i)) : PS X (.Return (some e) pos) (rdM G C H0 E (.retO i)) := by
  refine PS.imp (ps_ret h) fun D σ H ⟨r, N, si, no, z⟩ => ?_
  unfold exS at z
  rcases z with ⟨xs, t, e, z⟩ | ⟨d, e, z⟩
  · obtain ⟨p, us, e1, e2, e3⟩ := si.own_at e
    exact ⟨.ref p, e1, no.rt (.fr xs) (.ref p) r σ H si ⟨p, us, rfl, si.fr i xs t p e e1, e2, e3⟩ z⟩
  · obtain ⟨v, e1, e2⟩ := si.re.at_ i _ e
    exact ⟨v, e1, no.rt (.v d) v r σ H si e2 z⟩
theorem m_own {st : Stmt} {i : Ex} {j : Nat} (h : PS X st (tAsg (rdR G C (wE E) i) (gName j))) : PS X st (rdM G C H0 E (.own j i)) := by
  refine PS.imp h fun D σ H ⟨r, N, si, no, z⟩ => ?_
  unfold exS at z
  exact m_R hB hC si z fun x v H1 rr x1 t1 f => no.nx _ _ H1 (si.setR j rr x1 t1) (ExN.stb x1) f
theorem m_set {st : Stmt} {i : Ex} {j : Nat} (h : PS X st (tAsg (rdR G C (wE E) i) (gName j))) : PS X st (rdM G C H0 E (.set j i)) := by
  refine PS.imp (ps_fz h) fun D σ H ⟨r, N, si, no, z⟩ => ?_
  unfold exS at z
  refine m_R hB hC si z fun x v H1 rr x1 t1 f => ?_
  have s1 := si.setR j rr x1 t1
  cases x with
  | v d => exact .inl (no.nx _ _ H1 s1 (ExN.stb x1) f)
  | fr xs =>
    obtain ⟨p, us, e1, e2, e3, e4⟩ := rr
    subst e1
    refine .inr ⟨p, us, e3, fun o => no.nx _ _ _ ?_ ((ExN.stb x1).trans (Stb.frz e3)) f⟩
    by_cases hl : j < r.length
    · have s2 := s1.frz (o := o) (i := j) (xs := xs) (p := p) (us := us) (List.getElem?_set_self hl) (List.getElem?_set_self (by rw [← si.re.len]; exact hl)) e3 e4
      rw [List.set_set] at s2
      exact s2
    · have s2 : SI G H0 (upd H1 p (.frz o (.lst us))) r σ := by
        refine ⟨si.re.ext (ExN.frz x1 e2), si.fr, si.ex.trans (ExN.frz x1 e2), Tabs.frz t1 e3⟩
      rw [List.set_eq_of_length_le (by omega), List.set_eq_of_length_le (by rw [← si.re.len]; omega)]
      exact s2
end
end
/-! ### targets keep what the frame owns -/
def OwnSub (r r' : Env) (is : List Nat) : Prop := ∀ (j : Nat) (xs : List D) (t : Option Addr), r'[j]? = some (some (.own xs t)) → r[j]? = some (some (.own xs t)) ∧ j ∉ is
mutual
theorem bindTg_own : ∀ (t : Tg) (d : D) (r : Env) (K : Env → Prop), bindTg t d r K → bindTg t d r fun r' => K r' ∧ OwnSub r r' (tgIx t)
  | .nm i, d, r, K, z => by
    unfold bindTg at z ⊢
    refine ⟨z, fun j xs t e => ?_⟩
    rcases set_own e with ⟨_, q, _⟩ | ⟨hj, e⟩
    · cases q
    · exact ⟨e, by simpa [tgIx] using hj⟩
  | .tp ts, d, r, K, z => by
    unfold bindTg at z ⊢
    obtain ⟨ds, e, z⟩ := z
    exact ⟨ds, e, bindTgs_own ts ds r K z⟩
theorem bindTgs_own : ∀ (t : Tgs) (d : List D) (r : Env) (K : Env → Prop), bindTgs t d r K → bindTgs t d r fun r' => K r' ∧ OwnSub r r' (tgsIx t)
  | .nil, d, r, K, z => by
    unfold bindTgs at z ⊢
    exact ⟨z.1, z.2, fun j xs t e => ⟨e, by simp [tgsIx]⟩⟩
  | .cons t ts, d, r, K, z => by
    unfold bindTgs at z ⊢
    obtain ⟨x, xs, e, z⟩ := z
    refine ⟨x, xs, e, bindTg_mono t _ _ _ _ (fun r1 ⟨z, o1⟩ => ?_) (bindTg_own t x r _ z)⟩
    refine bindTgs_mono ts _ _ _ _ (fun r2 ⟨z, o2⟩ => ⟨z, fun j as t e => ?_⟩) (bindTgs_own ts xs r1 K z)
    obtain ⟨e2, n2⟩ := o2 j as t e
    obtain ⟨e1, n1⟩ := o1 j as t e2
    exact ⟨e1, by simp [tgsIx, n1, n2]⟩
end
theorem SI.bind {G : Cfg} {H0 H : Hp} {r r' : Env} {σ σ' : St} {is : List Nat} (s : SI G H0 H r σ) (re : RE G.K H r' σ') (wd : Wd is σ σ') (o : OwnSub r r' is) : SI G H0 H r' σ' := by
  refine ⟨re, fun j xs t p e1 e2 => ?_, s.ex, s.tb⟩
  obtain ⟨f1, f2⟩ := o j xs t e1
  have w := wd is fun i hi => hi
  have := congrArg (fun l => l[j]?) w
  simp only [wipe_get f2] at this
  rw [this] at e2
  exact s.fr j xs t p f1 e2
/-- a target, within a statement -/
def rdGM (G : Cfg) (H0 : Hp) (t : Tg) : TG := fun v σ H Q => ∃ d r, SI G H0 H r σ ∧ RD G.K H d v ∧ bindTg t d r fun r' => ∀ σ', SI G H0 H r' σ' → Q σ' H
section
variable {X : Cx} {G : Cfg} {C : Call} {H0 : Hp} {E : XK}
theorem g_M {tg : Expr} {t : Tg} (h : PG X tg (rdG G t)) : PG X tg (rdGM G H0 t) := by
  refine PG.imp h fun v σ H Q ⟨d, r, si, rd, z⟩ => ?_
  exact ⟨d, r, si.re, rd, bindTg_mono t _ _ _ _ (fun r' ⟨z, o⟩ σ' re wd => z σ' (si.bind re wd o)) (bindTg_own t d r _ z)⟩
variable (hB : G.B.Mono) (hC : MonoC C)
section
include hB hC
theorem m_unp {e : Expr} {i : Ex} {tg : Expr} {t : Tgs} {pos : Pos} (h : PE X e (rdR G C (wE E) i)) (hg : PG X tg (rdG G (.tp t))) (hs : swapsWithSole [tg] e pos.line X.env = pure false) (hw : swappedStores [tg] e X.env = pure none) (h1 : (assignEach [tg] X.env).map (·.2) = [assign tg X.env]) : PS X (.Assign [tg] e pos) (rdM G C H0 E (.unp t i)) := by
  refine PS.imp (ps_asg h (g_M (H0 := H0) hg) hs hw h1) fun D σ H ⟨r, N, si, no, z⟩ => ?_
  unfold exS at z
  refine m_R hB hC si z fun x v H1 rr x1 t1 ⟨xs, e1, f⟩ => ?_
  cases x with
  | fr ys => cases e1
  | v d =>
  refine ⟨d, r, si.ext x1 t1, rr, ?_⟩
  unfold bindTg
  exact ⟨xs, e1, bindTgs_mono t _ _ _ _ (fun r' z σ' s' => no.nx r' σ' H1 s' (ExN.stb x1) z) f⟩
/-- x, y = a, b, where x is a list of its own -/
theorem m_unf {st : Stmt} {ia ib : Ex} {i j : Nat} (hK : X.K = G.K) (h : PS X st (tAsg (tTup (tCons (rdR G C (wE E) ia) (tCons (rdR G C (wE E) ib) tNil))) (gTup X.K 2 (gCons (gName i) (gCons (gName j) gNil))))) : PS X st (rdM G C H0 E (.unf i j ia ib)) := by
  refine PS.imp h fun D σ H ⟨r, N, si, no, z⟩ => ?_
  unfold exS at z
  refine m_R hB hC si z fun x v H1 rr x1 t1 z2 => ?_
  have s1 := si.ext x1 t1
  refine m_R hB hC s1 z2 fun y w H2 rr2 x2 t2 f => ?_
  refine ⟨by rw [sizeLine_eq]; simp, fun p hp => ?_⟩
  refine ⟨p, [v, w], rfl, .inl (.inl upd_same), rfl, v, [w], rfl, w, [], rfl, rfl, ?_⟩
  have s2 := (si.setR i rr x1 t1).setR j rr2 x2 t2
  have xn : ExN H2 (upd H2 p (.tup [v, w])) := ExN.new hp
  exact no.nx _ _ _ (s2.ext xn (Tabs.new t2 hp)) (ExN.stb (x1.trans (x2.trans xn))) f
/-- x, y, z = a, b, c, where y and z are lists of their own -/
theorem m_pa3 {st : Stmt} {ia ib ic : Ex} {i j l : Nat} (h : PS X st (tPar3 i j l (tCons (rdR G C (wE E) ia) (tCons (rdR G C (wE E) ib) (tCons (rdR G C (wE E) ic) tNil))))) : PS X st (rdM G C H0 E (.pa3 i j l ia ib ic)) := by
  refine PS.imp h fun D σ H ⟨r, N, si, no, z⟩ => ?_
  unfold exS at z
  refine m_R hB hC si z fun x v H1 rr x1 t1 ⟨d, e1, z2⟩ => ?_
  subst e1
  have s1 := si.ext x1 t1
  refine m_R hB hC s1 z2 fun y w H2 rr2 x2 t2 z3 => ?_
  have s2 := s1.ext x2 t2
  refine m_R hB hC s2 z3 fun u w3 H3 rr3 x3 t3 f => ?_
  refine ⟨v, w, w3, rfl, ?_⟩
  exact no.nx _ _ _ (((s1.setV i (d := d) (v := v) rr).setR j rr2 x2 t2).setR l rr3 x3 t3) (ExN.stb (x1.trans (x2.trans x3))) f
/-- x, y = a, b, where y is a list of its own -/
theorem m_uno {st : Stmt} {ia ib : Ex} {i j : Nat} (hK : X.K = G.K) (h : PS X st (tAsg (tTup (tCons (rdR G C (wE E) ia) (tCons (rdR G C (wE E) ib) tNil))) (gTup X.K 2 (gCons (gName i) (gCons (gName j) gNil))))) : PS X st (rdM G C H0 E (.uno i j ia ib)) := by
  refine PS.imp h fun D σ H ⟨r, N, si, no, z⟩ => ?_
  unfold exS at z
  refine m_R hB hC si z fun x v H1 rr x1 t1 ⟨d, e1, z2⟩ => ?_
  subst e1
  have s1 := si.ext x1 t1
  refine m_R hB hC s1 z2 fun y w H2 rr2 x2 t2 f => ?_
  refine ⟨by rw [sizeLine_eq]; simp, fun p hp => ?_⟩
  refine ⟨p, [v, w], rfl, .inl (.inl upd_same), rfl, v, [w], rfl, w, [], rfl, rfl, ?_⟩
  have s2 := (s1.setV i (d := d) (v := v) rr).setR j rr2 x2 t2
  have xn : ExN H2 (upd H2 p (.tup [v, w])) := ExN.new hp
  exact no.nx _ _ _ (s2.ext xn (Tabs.new t2 hp)) (ExN.stb (x1.trans (x2.trans xn))) f
theorem m_drop {e : Expr} {i : Ex} {pos : Pos} (h : PE X e (rdR G C (wE E) i)) (hs : swapsWith e none pos.line X.env = pure false) : PS X (.Expr e pos) (rdM G C H0 E (.drop i)) := by
  refine PS.imp (ps_expr h hs) fun D σ H ⟨r, N, si, no, z⟩ => ?_
  unfold exS at z
  exact m_R hB hC si z fun x v H1 rr x1 t1 f => no.nx r σ H1 (si.ext x1 t1) (ExN.stb x1) f
theorem m_if {c : Expr} {t : Ex} {a b : List Stmt} {ia ib : Sms} {pos : Pos} (hc : PT X c (rdT G C (wE E) t)) (ha : PSs X a (rdMs G C H0 E ia)) (hb : PSs X b (rdMs G C H0 E ib)) : PS X (.If c a b pos) (rdM G C H0 E (.iff t ia ib)) := by
  refine PS.imp (ps_if hc ha hb) fun D σ H ⟨r, N, si, no, z⟩ => ?_
  unfold exS at z
  refine m_T hB hC si z fun b H1 x1 t1 f => ?_
  cases b with
  | true => exact ⟨r, N, si.ext x1 t1, no.back (ExN.stb x1), f⟩
  | false => exact ⟨r, N, si.ext x1 t1, no.back (ExN.stb x1), f⟩
omit hB hC in
theorem m_pass {pos : Pos} : PS X (.Pass pos) (rdM G C H0 E .pss) := PS.imp ps_pass fun D σ H ⟨r, N, si, no, z⟩ => by
  unfold exS at z
  exact no.nx r σ H si (Stb.refl H) z
omit hB hC in
theorem m_doc {x : Str} {k : Nat} {p pos : Pos} : PS X (.Expr (.Constant (.str x) k p) pos) (rdM G C H0 E .pss) := PS.imp ps_doc fun D σ H ⟨r, N, si, no, z⟩ => by
  unfold exS at z
  exact no.nx r σ H si (Stb.refl H) z
omit hB hC in
theorem m_break {pos : Pos} : PS X (.Break pos) (rdM G C H0 E .brk) := PS.imp ps_break fun D σ H ⟨r, N, si, no, z⟩ => by
  unfold exS at z
  exact no.bk r σ H si (Stb.refl H) z
omit hB hC in
theorem m_cont {pos : Pos} : PS X (.Continue pos) (rdM G C H0 E .cnt) := PS.imp ps_continue fun D σ H ⟨r, N, si, no, z⟩ => by
  unfold exS at z
  exact no.ct r σ H si (Stb.refl H) z
/-! ### lists of the frame -/
omit hB hC in
theorem tVar_own {i : Nat} {r : Env} {σ : St} {H : Hp} {xs : List D} {t : Option Addr} (si : SI G H0 H r σ) (hi : r[i]? = some (some (.own xs t))) {Q : VK} (k : ∀ p us, σ[i]? = some (some (.ref p)) → H p = some (.lst us) → RDs G.K H xs us → Q (.ref p) H) : tVar i σ H Q := by
  obtain ⟨p, us, e1, e2, e3⟩ := si.own_at hi
  exact ⟨.ref p, e1, k p us e1 e2 e3⟩
theorem m_app {x : Str} {e : Expr} {i : Nat} {ie : Ex} {px ap cp pos : Pos} (hx : PE X (.Name x px) (tVar i)) (he : PE X e (rdV G C (wE E) ie)) (hst : isStar e = false) (hl : (ap.endLine == cp.line) = true) : PS X (.Expr (.Call (.Attribute (.Name x px) "append" ap) [e] [] cp) pos) (rdM G C H0 E (.app i ie)) := by
  have hs := starEach_cons (env := X.env) (es := []) hst
  have h := pe_bm (cpos := cp) (apos := ap) PySem.F.plainAttrs_list PySem.F.slot_list_append PySem.F.type_list_append (mt_append (X := X)) hx (pa_cons he pa_nil hs) rfl (by rw [hs]; rfl) hl hs rfl
  refine PS.imp (ps_expr h rfl) fun D σ H ⟨r, N, si, no, z⟩ => ?_
  unfold exS at z
  obtain ⟨xs, t, hi, hl, z⟩ := z
  unfold tDrop tBM
  refine tVar_own si hi fun p us e1 e2 e3 => ?_
  refine ⟨.inl ⟨rfl, us, .inl (.inl e2)⟩, m_V hB hC si z fun y v H1 rd x1 t1 f => ?_⟩
  have e2' := x1 _ _ e2 (fun _ z => nomatch z)
  refine ⟨p, us, v, rfl, rfl, e2', by rw [← e3.length]; exact hl, ?_⟩
  exact no.nx _ σ _ ((si.ext x1 t1).put hi e1 e2' ((e3.stb (ExN.stb x1)).append (.one rd))) ((ExN.stb x1).trans (Stb.own e2')) f
theorem m_ext {x : Str} {e : Expr} {i : Nat} {ie : Ex} {px ap cp pos : Pos} (hx : PE X (.Name x px) (tVar i)) (he : PE X e (rdR G C (wE E) ie)) (hst : isStar e = false) (hl : (ap.endLine == cp.line) = true) : PS X (.Expr (.Call (.Attribute (.Name x px) "extend" ap) [e] [] cp) pos) (rdM G C H0 E (.ext i ie)) := by
  have hs := starEach_cons (env := X.env) (es := []) hst
  have h := pe_bm (cpos := cp) (apos := ap) PySem.F.plainAttrs_list PySem.F.slot_list_extend PySem.F.type_list_extend (mt_extend (X := X)) hx (pa_cons he pa_nil hs) rfl (by rw [hs]; rfl) hl hs rfl
  refine PS.imp (ps_expr h rfl) fun D σ H ⟨r, N, si, no, z⟩ => ?_
  unfold exS at z
  obtain ⟨xs, t, hi, z⟩ := z
  unfold tDrop tBM
  refine tVar_own si hi fun p us e1 e2 e3 => ?_
  refine ⟨.inl ⟨rfl, us, .inl (.inl e2)⟩, m_R hB hC si z fun y v H1 rr x1 t1 ⟨ys, f1, hl, f⟩ => ?_⟩
  subst f1
  obtain ⟨q, ws, g1, g2, g3, g4⟩ := rr
  subst g1
  have e2' := x1 _ _ e2 (fun _ z => nomatch z)
  refine ⟨p, q, us, ws, rfl, rfl, e2', g3, by rw [← e3.length, ← g4.length]; exact hl, ?_⟩
  exact no.nx _ σ _ ((si.ext x1 t1).put hi e1 e2' ((e3.stb (ExN.stb x1)).append g4)) ((ExN.stb x1).trans (Stb.own e2')) f
theorem m_put {x : Str} {k e : Expr} {i : Nat} {ik ie : Ex} {px tp pos : Pos} (hx : PE X (.Name x px) (tVar i)) (hk : PE X k (rdS G C (wE E) ik)) (he : PE X e (rdV G C (wE E) ie)) (hs : swapsWithSole [.Subscript (.Name x px) k tp] e pos.line X.env = pure false) (hw : swappedStores [.Subscript (.Name x px) k tp] e X.env = pure none) (ha : ∀ v, assign (.Subscript (.Name x px) k tp) X.env v = (do
      let ov ← holding [v] (eval (.Name x px) X.env)
      let iv ← holding [v, ov] (eval k X.env)
      standAt tp
      holding [v, ov, iv] (setItem ov iv v)
      release [v, ov, iv] [])) :
    PS X (.Assign [.Subscript (.Name x px) k tp] e pos) (rdM G C H0 E (.put i ik ie)) := by
  refine PS.imp (ps_asg he (pg_sub hx hk set_list ha) hs hw) fun D σ H ⟨r, N, si, no, z⟩ => ?_
  unfold exS at z
  obtain ⟨xs, t, hi, z⟩ := z
  refine m_V hB hC si z fun y v H1 rd x1 t1 f => ?_
  have s1 := si.ext x1 t1
  refine tVar_own s1 hi fun p us e1 e2 e3 => ?_
  refine m_S hB hC s1 f fun yk vk H2 rb x2 t2 ⟨j, n, g1, g2, f⟩ => ?_
  subst g1
  cases rb.rd (fun _ z => nomatch z)
  have e2' := x2 _ _ e2 (fun _ z => nomatch z)
  refine ⟨p, us, j, n, rfl, rfl, e2', by rw [← e3.length]; exact g2, ?_⟩
  exact no.nx _ σ _ ((s1.ext x2 t2).put hi e1 e2' ((e3.stb (ExN.stb x2)).set (rd.stb (ExN.stb x2)) n)) (((ExN.stb x1).trans (ExN.stb x2)).trans (Stb.own e2')) f
theorem m_dvs {x y : Str} {k e : Expr} {i j : Nat} {ik ie : Ex} {px tp py pos pt : Pos} {kk : Nat} (hc : X.calm = true) (hK : X.K = G.K) (hx : PE X (.Name x px) (tVar i)) (hk : PE X k (rdS G C (wE E) ik)) (hy : PG X (.Name y py) (gName j)) (he : PE X e (rdV G C (wE E) ie)) (hs : swapsWithSole [.Tuple [.Subscript (.Name x px) k tp, .Name y py] kk pt] e pos.line X.env = pure false) (hw : swappedStores [.Tuple [.Subscript (.Name x px) k tp, .Name y py] kk pt] e X.env = pure none) (ha : ∀ v, assign (.Subscript (.Name x px) k tp) X.env v = (do
      let ov ← holding [v] (eval (.Name x px) X.env)
      let iv ← holding [v, ov] (eval k X.env)
      standAt tp
      holding [v, ov, iv] (setItem ov iv v)
      release [v, ov, iv] [])) :
    PS X (.Assign [.Tuple [.Subscript (.Name x px) k tp, .Name y py] kk pt] e pos) (rdM G C H0 E (.dvs i ik j ie)) := by
  refine PS.imp (ps_asg he (pg_tup hc (pgs_cons (pg_sub hx hk set_list ha) (pgs_cons hy pgs_nil))) hs hw) fun D σ H ⟨r, N, si, no, z⟩ => ?_
  unfold exS at z
  obtain ⟨xs, t, hi, z⟩ := z
  refine m_V hB hC si z fun y v H1 rd x1 t1 ⟨a, b, ex, f⟩ => ?_
  subst ex
  have s1 := si.ext x1 t1
  have rd : RD G.K H1 (.tup [a, b]) v := rd
  cases rd with
  | tup sq rs =>
    cases rs with
    | cons ra rs =>
      cases rs with
      | cons rb rs =>
        cases rs
        refine ⟨_, _, rfl, by rw [hK]; exact sq, rfl, _, _, rfl, ?_⟩
        refine tVar_own s1 hi fun p us e1 e2 e3 => ?_
        refine m_S hB hC s1 f fun yk vk H2 rbk x2 t2 ⟨j, n, g1, g2, f⟩ => ?_
        subst g1
        cases rbk.rd (fun _ z => nomatch z)
        have e2' := x2 _ _ e2 (fun _ z => nomatch z)
        have s2 := (s1.ext x2 t2).put hi e1 e2' ((e3.stb (ExN.stb x2)).set (ra.stb (ExN.stb x2)) n)
        refine ⟨p, us, j, n, rfl, rfl, e2', by rw [← e3.length]; exact g2, ?_⟩
        refine ⟨_, _, rfl, rfl, ?_⟩
        exact no.nx _ _ _ (s2.setV _ (rb.stb ((ExN.stb x2).trans (Stb.own e2')))) (((ExN.stb x1).trans (ExN.stb x2)).trans (Stb.own e2')) f
omit hB hC in
theorem setAll_ok {H : Hp} : ∀ (ks : List Nat) (ds : List D) (vs : List V) (r : Env) (σ : St), SI G H0 H r σ → RDs G.K H ds vs → ds.length = ks.length → SI G H0 H (setAll ks ds r) ((ks.zip vs).foldl (fun σ kv => σ.set kv.1 (some kv.2)) σ)
  | [], ds, vs, r, σ, s, rd, hl => by
    cases ds with
    | nil =>
      cases rd
      exact s
    | cons d ds => cases hl
  | k :: ks, ds, vs, r, σ, s, rd, hl => by
    cases rd with
    | nil => cases hl
    | cons r1 r2 =>
      unfold setAll
      exact setAll_ok ks _ _ _ _ (s.setV k r1) r2 (by simpa using hl)
theorem m_par {st : Stmt} {i j : Nat} {es : List Expr} {is : Exs} (h : ∀ {ta : TA}, PA X es ta → PS X st (tPar i j ta)) (ha : PA X es (rdA G C (wE E) is)) : PS X st (rdM G C H0 E (.par [i, j] is)) := by
  refine PS.imp (h ha) fun D σ H ⟨r, N, si, no, z⟩ => ?_
  unfold exS at z
  refine m_A hB hC si z fun xs vs H1 rs x1 t1 ⟨hl, f⟩ => ?_
  cases rs with
  | nil => cases hl
  | cons r1 rs =>
    cases rs with
    | nil => cases hl
    | cons r2 rs =>
      cases rs with
      | nil => exact ⟨_, _, rfl, no.nx _ _ H1 (setAll_ok [i, j] _ _ r σ (si.ext x1 t1) (.cons r1 (.cons r2 .nil)) hl) (ExN.stb x1) f⟩
      | cons r3 rs => simp at hl
theorem m_par3 {st : Stmt} {i j l : Nat} {es : List Expr} {is : Exs} (h : ∀ {ta : TA}, PA X es ta → PS X st (tPar3 i j l ta)) (ha : PA X es (rdA G C (wE E) is)) : PS X st (rdM G C H0 E (.par [i, j, l] is)) := by
  refine PS.imp (h ha) fun D σ H ⟨r, N, si, no, z⟩ => ?_
  unfold exS at z
  refine m_A hB hC si z fun xs vs H1 rs x1 t1 ⟨hl, f⟩ => ?_
  cases rs with
  | nil => cases hl
  | cons r1 rs =>
    cases rs with
    | nil => cases hl
    | cons r2 rs =>
      cases rs with
      | nil => cases hl
      | cons r3 rs =>
        cases rs with
        | nil => exact ⟨_, _, _, rfl, no.nx _ _ H1 (setAll_ok [i, j, l] _ _ r σ (si.ext x1 t1) (.cons r1 (.cons r2 (.cons r3 .nil))) hl) (ExN.stb x1) f⟩
        | cons r4 rs => simp at hl
end
end
end En
/-! Io1: the statement x = f(..) where f changes lists of the frame; x.pop(). -/
namespace En
open PySem L2 PyProof.Rows
section
variable {X : Cx} {G : Cfg} {C : Call} {H0 : Hp} {E : XK} (hB : G.B.Mono) (hC : MonoC C)
include hB hC
/-- the values, one behind another -/
theorem io_A : ∀ (fl : List Bool) (es : Exs) {σ : St} {H : Hp} {r : Env} {F : List D → Prop} {Q : List V → Hp → Prop}, SI G H0 H r σ → ioOwn fl es r = true → (evAs G.B C es r).S F E0 →
    (∀ ds vs H1, IoV G.K H1 σ fl es ds vs → ExN H H1 → Tb G H1 → F ds → Q vs H1) → tIo G C (wE E) fl es σ H Q
  | [], .nil, σ, H, r, F, Q, si, _, z, k => k [] [] H .nil (LamX.ExtN.refl H) si.tb z
  | true :: fl, .cons e es, σ, H, r, F, Q, si, ow, z, k => by
    cases e with
    | var i =>
      unfold ioOwn at ow
      rw [Bool.and_eq_true] at ow
      obtain ⟨o1, o2⟩ := ow
      split at o1
      · rename_i xs t hi
        show tCons (tVar i) (tIo G C (wE E) fl es) σ H Q
        refine tVar_own si hi fun p us e1 e2 e3 => ?_
        have z' : (evAs G.B C es r).S (fun ys => F (.lst xs :: ys)) E0 := by
          unfold evAs at z
          have z : (evP G.B C (.var i) r).S (fun x => (evAs G.B C es r).S (fun ys => F (x :: ys)) E0) E0 := z
          unfold evP at z
          have z : barW i r (fun x => (evAs G.B C es r).S (fun ys => F (x :: ys)) E0) := z
          rcases z with ⟨d, h, z⟩ | ⟨ys, u, h, z⟩
          · rw [hi] at h
            cases h
          · rw [hi] at h
            cases h
            exact z
        exact io_A fl es si o2 z' fun ds vs H1 iv x1 t1 f => k _ _ H1 (.own e1 (x1 _ _ e2 (fun _ z => nomatch z)) (e3.stb (ExN.stb x1)) iv) x1 t1 f
      · cases o1
    | _ => cases ow
  | false :: fl, .cons e es, σ, H, r, F, Q, si, ow, z, k => by
    have o2 : ioOwn fl es r = true := ow
    have z' : evS G.B C e r (fun x => (evAs G.B C es r).S (fun ys => F (x :: ys)) E0) (eS G E H0) := by
      unfold evAs at z
      exact (evP_mono hB hC e r).S _ _ E0 _ (fun _ z => z) (fun _ _ z => z.elim) z
    show tCons (rdS G C (wE E) e) (tIo G C (wE E) fl es) σ H Q
    refine m_S hB hC si z' fun x v H1 rb x1 t1 f => ?_
    exact io_A fl es (si.ext x1 t1) o2 f fun ds vs H2 iv x2 t2 f => k _ _ H2 (.flat (rb.ext x2) iv) (x1.trans x2) t2 f
  | [], .cons _ _, _, _, _, _, _, _, ow, _, _ => by cases ow
  | [], .star _ _, _, _, _, _, _, _, ow, _, _ => by cases ow
  | true :: _, .nil, _, _, _, _, _, _, ow, _, _ => by cases ow
  | false :: _, .nil, _, _, _, _, _, _, ow, _, _ => by cases ow
  | true :: _, .star _ _, _, _, _, _, _, _, ow, _, _ => by cases ow
  | false :: _, .star _ _, _, _, _, _, _, _, ow, _, _ => by cases ow
end
/-- where the lists lie, what they held -/
inductive IoL (H : Hp) (σ : St) : List Bool → Exs → List Addr → List (List V) → Prop
  | nil : IoL H σ [] .nil [] []
  | own {fl : List Bool} {es : Exs} {ps : List Addr} {us : List (List V)} {i : Nat} {p : Addr} {u : List V} : σ[i]? = some (some (.ref p)) → H p = some (.lst u) → IoL H σ fl es ps us → IoL H σ (true :: fl) (.cons (.var i) es) (p :: ps) (u :: us)
  | flat {fl : List Bool} {es : Exs} {e : Ex} {ps : List Addr} {us : List (List V)} : IoL H σ fl es ps us → IoL H σ (false :: fl) (.cons e es) ps us
theorem IoL.len {H : Hp} {σ : St} {fl : List Bool} {es : Exs} {ps : List Addr} {us : List (List V)} (h : IoL H σ fl es ps us) : ps.length = us.length := by
  induction h with
  | nil => rfl
  | own _ _ _ ih => simp [ih]
  | flat _ ih => exact ih
theorem IoL.ovr {H H2 : Hp} {σ : St} {fl : List Bool} {es : Exs} {ps : List Addr} {us : List (List V)} (h : IoL H σ fl es ps us) (x : ExM ps H H2) : ∀ b u, H b = some u → (∀ q, u ≠ HO.tbl q) → ovr H2 ps us b = some u := by
  have key : ∀ {fl : List Bool} {es : Exs} {ps : List Addr} {us : List (List V)}, IoL H σ fl es ps us → ∀ b u, H b = some u → b ∈ ps → En.ovr H2 ps us b = some u := by
    intro fl es ps us h
    induction h with
    | nil => exact fun b u _ hb => by cases hb
    | flat _ ih => exact ih
    | @own fl es ps us i p w h1 h2 _ ih =>
      intro b u hu hb
      show upd (En.ovr H2 ps us) p (.lst w) b = some u
      by_cases e : b = p
      · subst e
        rw [upd_same, ← h2, hu]
      · rw [upd_ne e]
        refine ih b u hu ?_
        cases hb with
        | head => exact absurd rfl e
        | tail _ hb => exact hb
  intro b u hu ht
  by_cases hb : b ∈ ps
  · exact key h b u hu hb
  · rw [ovr_ne hb]
    exact x b u hu ht hb
theorem io_adr {G : Cfg} {H0 H : Hp} {r : Env} {σ : St} (si : SI G H0 H r σ) {fl : List Bool} {es : Exs} {ds : List D} {vs : List V} (iv : IoV G.K H σ fl es ds vs) : ioOwn fl es r = true → (ioIx fl es).Nodup → ioFlat fl ds = true →
    ∃ ps us, IoR G.K H fl ps ds vs ∧ IoL H σ fl es ps us ∧ ps.Nodup ∧ ∀ p ∈ ps, ∃ i ∈ ioIx fl es, σ[i]? = some (some (.ref p)) ∧ ∃ xs t, r[i]? = some (some (Slot.own xs t)) := by
  induction iv with
  | nil => exact fun _ _ _ => ⟨[], [], .nil, .nil, List.nodup_nil, fun p hp => by cases hp⟩
  | @own fl es ds vs us i p xs h1 h2 h3 _ ih =>
    intro ow nd ft
    unfold ioOwn at ow
    rw [Bool.and_eq_true] at ow
    have nd : (i :: ioIx fl es).Nodup := nd
    have nd := List.nodup_cons.mp nd
    obtain ⟨ps, ws, i1, i2, i3, i4⟩ := ih ow.2 nd.2 ft
    have hown : ∃ xs t, r[i]? = some (some (Slot.own xs t)) := by
      have o1 := ow.1
      split at o1
      · rename_i xs t hi
        exact ⟨xs, t, hi⟩
      · cases o1
    refine ⟨p :: ps, us :: ws, .own h2 h3 i1, .own h1 h2 i2, List.nodup_cons.mpr ⟨fun hp => ?_, i3⟩, fun q hq => ?_⟩
    · obtain ⟨j, hj, e1, ys, t, e2⟩ := i4 p hp
      obtain ⟨zs, u, e3⟩ := hown
      have := si.re.inj i j _ _ _ _ _ e3 e2 h1 e1
      subst this
      exact nd.1 hj
    · cases hq with
      | head => exact ⟨i, List.mem_cons_self, h1, hown⟩
      | tail _ hq =>
        obtain ⟨j, hj, z⟩ := i4 q hq
        exact ⟨j, List.mem_cons_of_mem _ hj, z⟩
  | @flat fl es e ds vs d v h1 _ ih =>
    intro ow nd ft
    unfold ioFlat at ft
    rw [Bool.and_eq_true] at ft
    obtain ⟨ps, ws, i1, i2, i3, i4⟩ := ih ow nd ft.2
    refine ⟨ps, ws, .flat (h1.rd fun xs e => ?_) i1, .flat i2, i3, i4⟩
    rw [e] at ft
    exact absurd ft.1 (by simp [flatD])
theorem SI.io {G : Cfg} {H0 H1 H2 : Hp} {σ : St} {fl : List Bool} {es : Exs} {ps : List Addr} {us : List (List V)} (h : IoL H1 σ fl es ps us) : ∀ {ys : List D} {r r' : Env}, ps.Nodup → IoO G.K H2 ps ys → SI G H0 (ovr H2 ps us) r σ → ioSet fl es ys r = some r' → SI G H0 H2 r' σ := by
  induction h with
  | nil =>
    intro ys r r' nd oo si e
    cases oo
    cases e
    exact si
  | flat _ ih => exact fun nd oo si e => ih nd oo si e
  | @own fl es ps us i p u h1 h2 _ ih =>
    intro ys r r' nd oo si e
    have ol := oo.lst
    cases oo with
    | @cons _ _ ws y ys o1 o2 o3 =>
      have nd := List.nodup_cons.mp nd
      unfold ioSet at e
      split at e
      · rename_i xs t hi
        have s1 := si.put hi h1 (show ovr H2 (p :: ps) (u :: us) p = some (.lst u) from upd_same) (o2.stb (ovr_stb (us := u :: us) ol))
        have he : upd (ovr H2 (p :: ps) (u :: us)) p (.lst ws) = ovr H2 ps us := funext fun b => by
          by_cases hb : b = p
          · subst hb
            rw [upd_same, ovr_ne nd.1, o1]
          · rw [upd_ne hb]
            show upd (ovr H2 ps us) p (.lst u) b = _
            rw [upd_ne hb]
        rw [he] at s1
        exact ih nd.2 o3 s1 e
      · cases e
section
variable {X : Cx} {G : Cfg} {C : Call} {H0 : Hp} {E : XK} (hB : G.B.Mono) (hC : MonoC C)
include hB hC
theorem m_cio {f y : Str} {args : List Expr} {fl : List Bool} {is : Exs} {j : Nat} {pf py cp pos : Pos} (h : PE X (.Call (.Name f pf) args [] cp) (fun σ H Q => tIo G C (wE E) fl is σ H fun vs H1 => spI G C fl f vs H1 Q)) (hg : PG X (.Name y py) (gName j)) (hs : swapsWithSole [.Name y py] (.Call (.Name f pf) args [] cp) pos.line X.env = pure false) (hw : swappedStores [.Name y py] (.Call (.Name f pf) args [] cp) X.env = pure none) :
    PS X (.Assign [.Name y py] (.Call (.Name f pf) args [] cp) pos) (rdM G C H0 E (.cio j f fl is)) := by
  refine PS.imp (ps_asg h hg hs hw) fun D σ H ⟨r, N, si, no, z⟩ => ?_
  unfold exS at z
  obtain ⟨nd, ow, z⟩ := z
  refine io_A hB hC fl is si ow z fun ds vs H1 iv x1 t1 ⟨ft, hc⟩ => ?_
  have s1 := si.ext x1 t1
  obtain ⟨ps, us, i1, i2, i3, i4⟩ := io_adr s1 iv ow nd ft
  refine ⟨ps, ds, i1, i3, t1, hC _ _ _ _ _ _ (fun x ⟨d, ys, r', e1, e2, f⟩ => ⟨d, ys, e1, fun v H2 rd oo xm t2 => ?_⟩) (fun _ _ z => z) hc⟩
  have s2 : SI G H0 H2 r' σ := SI.io i2 i3 oo (s1.ext (fun b u hu ht => i2.ovr xm b u hu ht) (ovr_tb t2 i3 oo.lst)) e2
  exact no.nx _ _ _ (s2.setV j rd) ((ExN.stb x1).trans (xm.stb i1.lst)) f
theorem m_pop {x : Str} {i : Nat} {px ap cp pos : Pos} (hx : PE X (.Name x px) (tVar i)) (hl : (ap.endLine == cp.line) = true) : PS X (.Expr (.Call (.Attribute (.Name x px) "pop" ap) [] [] cp) pos) (rdM G C H0 E (.pop i)) := by
  have h := pe_bm0 (cpos := cp) (apos := ap) PySem.F.plainAttrs_list PySem.F.slot_list_pop PySem.F.type_list_pop (mt_pop (X := X)) hx rfl hl
  refine PS.imp (ps_expr h rfl) fun D σ H ⟨r, N, si, no, z⟩ => ?_
  unfold exS at z
  obtain ⟨xs, x, t, hi, z⟩ := z
  unfold tDrop tBM0
  refine tVar_own si hi fun p us e1 e2 e3 => ?_
  have hlen := e3.length
  rw [List.length_append, List.length_singleton] at hlen
  refine ⟨.inl ⟨rfl, us, .inl (.inl e2)⟩, ?_⟩
  obtain ⟨y, hy⟩ : ∃ y, us[us.length - 1]? = some y := ⟨us[us.length - 1]'(by omega), List.getElem?_eq_getElem (by omega)⟩
  refine ⟨p, us, y, rfl, rfl, e2, hy, ?_⟩
  have ed : us.dropLast = us.take xs.length := by
    rw [List.dropLast_eq_take]
    congr 1
    omega
  have rd := e3.take xs.length
  rw [List.take_left'] at rd
  · rw [ed]
    exact no.nx _ σ _ (si.put hi e1 e2 rd) (Stb.own e2) z
  · rfl
end
end En
/-! En13: loops, raise. -/
namespace En
open PySem L2 PyProof.Rows
section
variable {X : Cx} {G : Cfg} {C : Call} {H0 : Hp} {E : XK}
/-- a value that is walked by a for: a list of the frame is frozen -/
def rdZ (G : Cfg) (C : Call) (H0 : Hp) (E : XK) (i : Ex) : TE := fun σ H Q => ∃ r, SI G H0 H r σ ∧ evS G.B C i r (fun d => ∀ v H', RD G.K H' d v → SI G H0 H' (fzE i r) σ → Stb H H' → Q v H') (eS G E H0)
theorem pe_fz {e : Expr} {t : TE} (h : PE X e t) : PE X e fun σ H Q => t σ H fun v H' => Q v H' ∨ ∃ p us, H' p = some (.lst us) ∧ ∀ o, Q v (upd H' p (.frz o (.lst us))) := by
  refine ⟨fun pins s σ H Q I q => thn (h.run pins s σ H _ I q) fun u s1 ⟨v, H1, I1, rv, z⟩ => ?_⟩
  rcases z with z | ⟨p, us, e, z⟩
  · exact ⟨v, H1, I1, rv, z⟩
  · obtain ⟨o, I2⟩ := Inv.freeze I1 e
    exact ⟨v, _, I2, rv, z o⟩
theorem z_var {e : Expr} {i : Nat} (h : PE X e (tVar i)) : PE X e (rdZ G C H0 E (.var i)) := by
  refine PE.imp (pe_fz h) fun σ H Q ⟨r, si, z⟩ => ?_
  have z : barW i r fun d => ∀ v H', RD G.K H' d v → SI G H0 H' (fzV i r) σ → Stb H H' → Q v H' := z
  unfold fzV at z
  rcases z with ⟨d, e1, z⟩ | ⟨xs, t, e1, z⟩
  · obtain ⟨v, e2, q⟩ := si.re.at_ i _ e1
    rw [e1] at z
    exact ⟨v, e2, .inl (z v H q si (Stb.refl H))⟩
  · obtain ⟨p, us, e2, e3, e4⟩ := si.own_at e1
    rw [e1] at z
    exact ⟨.ref p, e2, .inr ⟨p, us, e3, fun o => z _ _ (.lst (.inl ⟨o, upd_same⟩) (e4.stb (Stb.frz e3))) (si.frz e1 e2 e3 e4) (Stb.frz e3)⟩⟩
theorem z_val (hB : G.B.Mono) (hC : MonoC C) {e : Expr} {i : Ex} (hn : ∀ k, i ≠ .var k) (h : PE X e (rdR G C (wE E) i)) : PE X e (rdZ G C H0 E i) := by
  refine PE.imp (pe_frz hB hC h) fun σ H Q ⟨r, si, z⟩ => ?_
  have hf : fzE i r = r := by
    unfold fzE
    split
    · exact absurd rfl (hn _)
    · rfl
  rw [hf] at z
  have e : evS G.B C i r (fun d => ∀ v H', RD G.K H' d v → SI G H0 H' r σ → Stb H H' → Q v H') (eS G E H0) → evR G.B C i r (fun x => ∀ v H', RD G.K H' x.d v → SI G H0 H' r σ → Stb H H' → Q v H') (eS G E H0) := by
    intro z
    cases i <;> first
      | exact z
      | exact absurd rfl (hn _)
  exact m_V hB hC si (e z) fun x v H1 rd x1 t1 f => f v H1 rd (si.ext x1 t1) (ExN.stb x1)
/-- what a for walks -/
def rdIF (G : Cfg) (C : Call) (H0 : Hp) (E : XK) (it : Ix) : TI := fun σ H R => ∃ r, SI G H0 H r σ ∧ evIF G.B C it r (fun items r0 => ∀ J H', Wk G Stb J items H' → SI G H0 H' r0 σ → Stb H H' → R J H') (eS G E H0)
section
variable (hB : G.B.Mono) (hC : MonoC C) (hK : X.K = G.K)
include hB hC
theorem z_bind {i : Ex} {σ : St} {H : Hp} {Q : VK} {r : Env} {F : D → Prop} (si : SI G H0 H r σ) (z : evS G.B C i r F (eS G E H0)) (k : ∀ d v H1, RD G.K H1 d v → SI G H0 H1 (fzE i r) σ → Stb H H1 → F d → Q v H1) : rdZ G C H0 E i σ H Q :=
  ⟨r, si, (evP_mono hB hC i r).S _ _ _ _ (fun d f v H1 rd s st => k d v H1 rd s st f) (fun _ _ z => z) z⟩
include hK
theorem f_seq {tg e : Expr} {i : Ex} (he : PE X e (rdZ G C H0 E i)) : PI X tg e (rdIF G C H0 E (.seq i)) := by
  refine PI.imp (pi_seq he) fun σ H R ⟨r, si, z⟩ => ?_
  unfold evIF at z
  refine z_bind hB hC si z fun d v H1 rd s1 st f => ?_
  rw [hK]
  exact seq_case (Rel := fun H d v => RD G.K H d v) (rdRB G) (rdSt G) rd f fun J items wk f => f J H1 wk s1 st
theorem f_enu {a : Expr} {i : Ex} {p pos tpos : Pos} {elts : List Expr} {kk : Nat} (hg : Gl X "enumerate") (hm : X.mg "enumerate" = none) (ha : PE X a (rdZ G C H0 E i)) (hs : starEach [a] X.env = [(false, eval a X.env)]) : PI X (.Tuple elts kk tpos) (.Call (.Name "enumerate" p) [a] [] pos) (rdIF G C H0 E (.enu i)) := by
  refine PI.imp (pi_enumA hg hm (pa_cons ha pa_nil hs) hs) fun σ H R ⟨r, si, z⟩ => ?_
  unfold evIF at z
  refine z_bind hB hC si z fun d v H1 rd s1 st f => ?_
  rw [hK]
  exact enu_case (Rel := fun H d v => RD G.K H d v) (F := fun items => ∀ J H', Wk G Stb J items H' → SI G H0 H' (fzE i r) σ → Stb H H' → R J H') (rdRB G) (rdSt G) rd f fun J items wk f => f J H1 wk s1 st
theorem f_zip {a b : Expr} {i j : Ex} {p pos tpos : Pos} {elts : List Expr} {kk : Nat} (hg : Gl X "zip") (hm : X.mg "zip" = none) (ha : PE X a (rdZ G C H0 E i)) (hb : PE X b (rdZ G C H0 E j)) (hs : starEach [a, b] X.env = (false, eval a X.env) :: starEach [b] X.env) (hs2 : starEach [b] X.env = [(false, eval b X.env)]) :
    PI X (.Tuple elts kk tpos) (.Call (.Name "zip" p) [a, b] [] pos) (rdIF G C H0 E (.zip i j)) := by
  refine PI.imp (RZ.pi_zipA hg hm (pa_cons ha (pa_cons hb pa_nil hs2) hs) hs (by rw [hs2]; rfl)) fun σ H R ⟨r, si, z⟩ => ?_
  unfold evIF at z
  refine z_bind hB hC si z fun d v H1 rd s1 st f => ?_
  refine z_bind hB hC s1 f fun d2 v2 H2 rd2 s2 st2 f => ?_
  rw [hK]
  exact zip_case (Rel := fun H d v => RD G.K H d v) (F := fun items => ∀ J H', Wk G Stb J items H' → SI G H0 H' (fzE j (fzE i r)) σ → Stb H H' → R J H') (rdRB G) (rdSt G) (rd.stb st2) rd2 f fun J items wk f => f J H2 wk s2 (st.trans st2)
omit hK in
theorem f_rng1 {tg a : Expr} {i : Ex} {p pos : Pos} (hg : Gl X "range") (hm : X.mg "range" = none) (ha : PE X a (rdS G C (wE E) i)) (hs : starEach [a] X.env = [(false, eval a X.env)]) : PI X tg (.Call (.Name "range" p) [a] [] pos) (rdIF G C H0 E (.rng1 i)) := by
  refine PI.imp (pi_range1 hg hm (pa_cons ha pa_nil hs) hs) fun σ H R ⟨r, si, z⟩ => ?_
  unfold evIF evI at z
  refine m_S hB hC si z fun x v H1 rb x1 t1 ⟨j, e, l, f⟩ => ?_
  subst e
  cases rb.rd (fun _ z => nomatch z)
  refine ⟨j, rfl, by omega, by omega, f _ H1 ?_ (si.ext x1 t1) (ExN.stb x1)⟩
  have := wk_rng (G := G) (S := Stb) (H := H1) (lo := 0) (n := j.toNat)
  simpa using this
omit hK in
theorem f_rng2 {tg a b : Expr} {i j : Ex} {p pos : Pos} (hg : Gl X "range") (hm : X.mg "range" = none) (ha : PE X a (rdS G C (wE E) i)) (hb : PE X b (rdS G C (wE E) j)) (hs : starEach [a, b] X.env = (false, eval a X.env) :: starEach [b] X.env) (hs2 : starEach [b] X.env = [(false, eval b X.env)]) : PI X tg (.Call (.Name "range" p) [a, b] [] pos) (rdIF G C H0 E (.rng2 i j)) := by
  refine PI.imp (pi_range2 hg hm (pa_cons ha (pa_cons hb pa_nil hs2) hs) (by rw [hs, hs2]) hs2) fun σ H R ⟨r, si, z⟩ => ?_
  unfold evIF evI at z
  refine m_S hB hC si z fun x v H1 rb x1 t1 f => ?_
  refine m_S hB hC (si.ext x1 t1) f fun y w H2 rb2 x2 t2 ⟨lo, hi, e1, e2, l1, l2, l3, l4, f9⟩ => ?_
  subst e1 e2
  cases rb.rd (fun _ z => nomatch z)
  cases rb2.rd (fun _ z => nomatch z)
  exact ⟨lo, hi, rfl, ⟨by omega, by omega, by omega, by omega⟩, f9 _ H2 wk_rng (si.ext (x1.trans x2) t2) (ExN.stb (x1.trans x2))⟩
omit hK in
theorem m_for {tg iter : Expr} {body : List Stmt} {t : Tg} {it : Ix} {b : Sms} {pos : Pos} (hp : PassesOwn (model X.prog X.w) X.A X.env X.xe) (hc : X.calm = true) (hi : PI X tg iter (rdIF G C H0 E it)) (hg : PG X tg (rdG G t)) (hb : PSs X body (rdMs G C H0 E b)) (hs : ∀ x, foldedSetIterable iter X.env x = pure x) :
    PS X (.For tg iter body [] pos) (rdM G C H0 E (.forr t it b)) := by
  refine PS.imp (ps_for hp hc hi (g_M (H0 := H0) hg) hb hs) fun D σ H ⟨r, N, si, no, z⟩ => ?_
  unfold exS at z
  refine ⟨r, si, evIF_mono hB hC it r _ _ _ _ (fun items r0 z J H1 wk s1 st1 => ?_) (fun _ _ z => z) z⟩
  obtain ⟨Gd, g1, g2, w⟩ := wk
  refine for_it w (fun i σ' H' => ∃ r', SI G H0 H' r' σ' ∧ Stb H1 H' ∧ forW (fun x r1 K => bindTg t x r1 fun r2 => exSs G.B C b { N with nx := K, ct := K, bk := N.nx } r2 (eS G E H0)) (items.drop i) r' N.nx)
    ⟨r0, s1, Stb.refl H1, by simpa using z⟩ (fun i σ' H' _ ⟨r', _, st, _⟩ => g2 _ _ g1 st) (fun i x σa Ha Hb hi ⟨r', sa, st, zf⟩ ⟨x3, t3, d, hd, rd⟩ => ?_) fun σ' H' ⟨r', s', st, zf⟩ => ?_
  · have hdr : items.drop i = d :: items.drop (i + 1) := by
      rw [List.drop_eq_getElem_cons hi]
      rw [List.getElem?_eq_getElem hi] at hd
      rw [Option.some.inj hd]
    rw [hdr] at zf
    unfold forW at zf
    have sb := sa.ext x3 (t3 sa.tb)
    refine ⟨d, r', sb, rd, bindTg_mono t _ _ _ _ (fun r2 z2 σ2 s2 => ?_) zf⟩
    have stb : Stb H1 Hb := st.trans (ExN.stb x3)
    refine Exists.intro r2 (Exists.intro _ (And.intro s2 (And.intro (Nok.mk (N := { N with nx := fun r' => forW (fun x r1 K => bindTg t x r1 fun r2 => exSs G.B C b { N with nx := K, ct := K, bk := N.nx } r2 (eS G E H0)) (items.drop (i + 1)) r' N.nx, ct := fun r' => forW (fun x r1 K => bindTg t x r1 fun r2 => exSs G.B C b { N with nx := K, ct := K, bk := N.nx } r2 (eS G E H0)) (items.drop (i + 1)) r' N.nx, bk := N.nx }) (fun r3 σ3 H3 s3 st3 z => ?_) no.rt (fun r3 σ3 H3 s3 st3 z => ?_) (fun r3 σ3 H3 s3 st3 z => ?_)) z2)))
    · exact ⟨r3, s3, stb.trans st3, z⟩
    · exact no.nx r3 σ3 H3 s3 (st1.trans (stb.trans st3)) z
    · exact ⟨r3, s3, stb.trans st3, z⟩
  · rw [List.drop_length] at zf
    unfold forW at zf
    exact no.nx r' σ' H' s' (st1.trans st) zf
omit hK in
theorem m_while {c : Expr} {t : Ex} {body : List Stmt} {b : Sms} {pos : Pos} (hp : PassesOwn (model X.prog X.w) X.A X.env X.xe) (hc : PT X c (rdT G C (wE E) t)) (hb : PSs X body (rdMs G C H0 E b)) : PS X (.While c body [] pos) (rdM G C H0 E (.whl t b)) := by
  refine PS.imp (ps_while hp hc hb) fun D σ H ⟨r, N, si, no, z⟩ => ?_
  unfold exS at z
  obtain ⟨W, ⟨m0, w0⟩, h⟩ := z
  refine ⟨fun m σ' H' => ∃ r', SI G H0 H' r' σ' ∧ Stb H H' ∧ W m r', ⟨m0, r, si, Stb.refl H, w0⟩, fun m σ' H' ⟨r', s', st, w⟩ => ?_⟩
  refine m_T hB hC s' (h m r' w) fun k H1 x1 t1 f => ?_
  have s1 := s'.ext x1 t1
  have st1 := st.trans (ExN.stb x1)
  cases k with
  | false => exact no.nx r' σ' H1 s1 st1 f
  | true =>
    refine ⟨_, fun σ3 H3 z => z, Exists.intro r' (Exists.intro _ (And.intro s1 (And.intro (Nok.mk (N := { N with nx := fun r' => ∃ m', m' < m ∧ W m' r', ct := fun r' => ∃ m', m' < m ∧ W m' r', bk := N.nx }) (fun r3 σ3 H3 s3 st3 z => ?_) no.rt (fun r3 σ3 H3 s3 st3 z => ?_) (fun r3 σ3 H3 s3 st3 z => ?_)) f)))⟩
    · obtain ⟨m', hm, w'⟩ := z
      exact ⟨m', hm, r3, s3, st1.trans st3, w'⟩
    · exact no.nx r3 σ3 H3 s3 (st1.trans st3) z
    · obtain ⟨m', hm, w'⟩ := z
      exact ⟨m', hm, r3, s3, st1.trans st3, w'⟩
end
/-! ### raise -/
def rdX (G : Cfg) (C : Call) (W : WX) (c : Str) (is : Exs) : St → Hp → XK → Prop := fun σ H Q => ∃ r, RE G.K H r σ ∧ Tb G H ∧ C "!lv" [] (fun _ => True) E0 ∧ (evAs G.B C is r).R (fun ds => C c ds (fun _ => ∀ cls d H', RX G.K G.fl H' c ds cls d → ExN H H' → Tb G H' → Q cls d H') E0) (exq G W σ H)
theorem m_raise (hB : G.B.Mono) (hC : MonoC C) {e : Expr} {c : Str} {is : Exs} {pos : Pos} (hc : X.calm = true) (tk : Takes X (wE E)) (h : PMk X e (rdX G C (wE E) c is)) : PS X (.Raise (some e) none pos) (rdM G C H0 E (.rse c is)) := by
  refine PS.imp (ps_raise hc tk h) fun D σ H ⟨r, N, si, no, z⟩ => ?_
  unfold exS at z
  exact ⟨r, si.re, si.tb, z.1, (evAs_mono hB hC is r).R _ _ _ _ (fun ds f => hC _ _ _ _ _ _ (fun _ f cls d H' rx x t => f cls d H' rx (si.ex.trans x) t) (fun _ _ z => z) f) (fun c ds z => eS.exq si.ex c ds z) z.2⟩
end
end En
/-! En14: from statements to the small syntax; soundness. -/
namespace En
open PySem L2 PyProof.Rows
/-! ### names that are read as they stand -/
mutual
def rvR : Ex → List Nat
  | .var i => [i]
  | .con _ => []
  | .glo _ => []
  | .bin _ a b => rvS a ++ rvS b
  | .neg a => rvS a
  | .not a => rvS a
  | .and a b => rvS a ++ rvR b
  | .or a b => rvS a ++ rvR b
  | .cmp _ a b => rvS a ++ rvS b
  | .cmo _ a b => rvR a ++ rvR b
  | .cmi _ a b => rvR a ++ rvS b
  | .chn _ _ a b c => rvS a ++ (rvS b ++ rvS c)
  | .ite t a b => rvS t ++ (rvR a ++ rvR b)
  | .tup es => rvRs es
  | .lst es => rvRs es
  | .fn _ es => rvRs es
  | .fnk _ _ es ks => rvRs es ++ rvRs ks
  | .blt _ es => rvSs es
  | .mth _ o es => rvS o ++ rvSs es
  | .mcl _ o es => rvR o ++ rvRs es
  | .mck _ _ o es ks => rvR o ++ (rvRs es ++ rvRs ks)
  | .att o _ => rvR o
  | .idx o i => rvS o ++ rvS i
  | .slc o lo hi => rvS o ++ (rvO lo ++ rvO hi)
  | .rev o => rvS o
  | .dct _ => []
  | .lc el _ it c _ => rvR el ++ (rvI it ++ rvO c)
  | .fst es => rvSs es
def rvS : Ex → List Nat
  | .var _ => []
  | .con _ => []
  | .glo _ => []
  | .bin _ a b => rvS a ++ rvS b
  | .neg a => rvS a
  | .not a => rvS a
  | .and a b => rvS a ++ rvR b
  | .or a b => rvS a ++ rvR b
  | .cmp _ a b => rvS a ++ rvS b
  | .cmo _ a b => rvR a ++ rvR b
  | .cmi _ a b => rvR a ++ rvS b
  | .chn _ _ a b c => rvS a ++ (rvS b ++ rvS c)
  | .ite t a b => rvS t ++ (rvR a ++ rvR b)
  | .tup es => rvRs es
  | .lst es => rvRs es
  | .fn _ es => rvRs es
  | .fnk _ _ es ks => rvRs es ++ rvRs ks
  | .blt _ es => rvSs es
  | .mth _ o es => rvS o ++ rvSs es
  | .mcl _ o es => rvR o ++ rvRs es
  | .mck _ _ o es ks => rvR o ++ (rvRs es ++ rvRs ks)
  | .att o _ => rvR o
  | .idx o i => rvS o ++ rvS i
  | .slc o lo hi => rvS o ++ (rvO lo ++ rvO hi)
  | .rev o => rvS o
  | .dct _ => []
  | .lc el _ it c _ => rvR el ++ (rvI it ++ rvO c)
  | .fst es => rvSs es
def rvRs : Exs → List Nat
  | .nil => []
  | .cons e r => rvR e ++ rvRs r
  | .star e r => rvS e ++ rvRs r
def rvSs : Exs → List Nat
  | .nil => []
  | .cons e r => rvS e ++ rvSs r
  | .star e r => rvS e ++ rvSs r
def rvO : Exo → List Nat
  | .no => []
  | .so e => rvS e
def rvI : Ix → List Nat
  | .seq e => rvS e
  | .rng1 a => rvS a
  | .rng2 a b => rvS a ++ rvS b
  | .enu e => rvS e
  | .zip a b => rvS a ++ rvS b
end
def rvM : Sm → List Nat
  | .ret e => rvR e
  | .set _ e => rvR e
  | .own _ e => rvR e
  | .unp _ e => rvR e
  | .uno _ _ a b => rvR a ++ rvR b
  | .unf _ _ a b => rvR a ++ rvR b
  | .pa3 _ _ _ a b c => rvR a ++ (rvR b ++ rvR c)
  | .par _ es => rvRs es
  | .app _ e => rvR e
  | .ext _ e => rvR e
  | .put _ k e => rvS k ++ rvR e
  | .dvs _ k _ e => rvS k ++ rvR e
  | .drop e => rvR e
  | .cio _ _ _ es => rvSs es
  | .iff t _ _ => rvS t
  | .forr _ it _ => rvI it
  | .rse _ es => rvRs es
  | _ => []
/-! ### names whose lists are written -/
def isComp : Expr → Bool
  | .ListComp .. => true
  | .SetComp .. => true
  | .DictComp .. => true
  | _ => false
/-- name = [..] on one line -/
def lcSw (sc : Scope) (x : Str) (px : Pos) : Expr → Option Bool
  | .ListComp _ _ scope pos => some (sc.names.lookup x == some .local && px.line == pos.line && !(scope.names.any fun (n, k) => n == x && (k == .local || k == .cell)))
  | .SetComp .. => none
  | .DictComp .. => none
  | _ => some false
/-- two or three names at once -/
def par2 (sc : Scope) (x y : Str) (px py : Pos) (a b : Expr) : Bool :=
  decide (sc.names.lookup x = some .local) && decide (sc.names.lookup y = some .local) && (py.line == px.line) && decide (x ≠ y) && !isStar a && !isStar b && !([a, b].all (foldedForSure 8)) && !([a, b].all (constantsAlone 8))
def par3 (sc : Scope) (x y z : Str) (px py pz : Pos) (a b c : Expr) : Bool :=
  decide (sc.names.lookup x = some .local) && decide (sc.names.lookup y = some .local) && decide (sc.names.lookup z = some .local) && (py.line == px.line) && (pz.line == px.line) && decide (x ≠ y) && decide (x ≠ z) && decide (y ≠ z) && !isStar a && !isStar b && !isStar c && !([a, b, c].all (foldedForSure 8)) && !([a, b, c].all (constantsAlone 8))
/-- a target that is no plain name of the frame -/
def notLoc (sc : Scope) : Expr → Bool
  | .Name x _ => !(sc.names.lookup x == some .local)
  | _ => true
def noPar (sc : Scope) (ts : List Expr) : Expr → Bool
  | .Tuple vs _ _ => !(ts.length == 2 || ts.length == 3) || vs.length != ts.length || vs.all (foldedForSure 8) || ts.any (notLoc sc)
  | _ => true
def frzs (mx : List Nat) : List Nat → Sms → Sms
  | [], q => q
  | i :: r, q => if i ∈ mx then .cons (.frz i) (frzs mx r q) else frzs mx r q
def isVarE : Ex → Bool
  | .var _ => true
  | _ => false
def isNm : Expr → Bool
  | .Name .. => true
  | _ => false
def nvE (f : Expr → Option Ex) (e : Expr) : Option Ex := (f e).bind fun i => if isVarE i && !isNm e then none else some i
section
variable (g : Gi) (N : List Str) (mu : List Str)
def compPar (n : Nat) (sc : Scope) (ts : List Expr) (e : Expr) : Option Sm := match ts, e with
  | [.Name x px, .Name y py], .Tuple [a, b] _ _ => if par2 sc x y px py a b then (ixOf N x).bind fun i => (ixOf N y).bind fun j => (mapN (compE g N n sc) [a, b]).map fun is => Sm.par [i, j] is else none
  | [.Name x px, .Name y py, .Name z pz], .Tuple [a, b, c] _ _ => if par3 sc x y z px py pz a b c then (ixOf N x).bind fun i => (ixOf N y).bind fun j => (ixOf N z).bind fun l => (mapN (compE g N n sc) [a, b, c]).map fun is => Sm.par [i, j, l] is else none
  | _, _ => none
def compUnp (n : Nat) (sc : Scope) (ts : List Expr) (e : Expr) : Option Sm := if noPar sc ts e then (compTs sc N n ts).bind fun t => (compE g N n sc e).map fun ie => .unp t ie else none
/-- x, y = a, b, where y is a list that changes -/
def compUno (n : Nat) (sc : Scope) (ts : List Expr) (e : Expr) : Option Sm := match ts, e with
  | [.Name x _, .Name y _], .Tuple [a, b] _ _ => if decide (y ∈ mu) && (!decide (x ∈ mu) && (isLoc sc x && (isLoc sc y && (noPar sc ts e && (!isStar a && (!isStar b && decide (x ≠ y))))))) then (ixOf N x).bind fun i => (ixOf N y).bind fun j => (compE g N n sc a).bind fun ia => (compE g N n sc b).map fun ib => .uno i j ia ib else
    if decide (x ∈ mu) && (!decide (y ∈ mu) && (isLoc sc x && (isLoc sc y && (noPar sc ts e && (!isStar a && (!isStar b && decide (x ≠ y))))))) then (ixOf N x).bind fun i => (ixOf N y).bind fun j => (compE g N n sc a).bind fun ia => (compE g N n sc b).map fun ib => .unf i j ia ib else none
  | [.Name x px, .Name y py, .Name z pz], .Tuple [a, b, c] _ _ => if decide (y ∈ mu) && (decide (z ∈ mu) && (!decide (x ∈ mu) && (par3 sc x y z px py pz a b c && (!isStar a && (!isStar b && !isStar c))))) then (ixOf N x).bind fun i => (ixOf N y).bind fun j => (ixOf N z).bind fun l => (compE g N n sc a).bind fun ia => (compE g N n sc b).bind fun ib => (compE g N n sc c).map fun ic => .pa3 i j l ia ib ic else none
  | _, _ => none
/-- x[k], y = e -/
def compDv (n : Nat) (sc : Scope) (ts : List Expr) (e : Expr) : Option Sm := match ts with
  | [.Subscript (.Name x _) k _, .Name y _] => if odd x || !isVis sc x || !isLoc sc y || !noPar sc ts e then none else (ixOf N x).bind fun i => (ixOf N y).bind fun j => (compE g N n sc k).bind fun ik => (compE g N n sc e).map fun ie => .dvs i ik j ie
  | _ => none
def compAsg (n : Nat) (sc : Scope) (tg e : Expr) : Option Sm := match tg with
  | .Name x px => if isLoc sc x then (lcSw sc x px e).bind fun _ => (ixOf N x).bind fun i => (compE g N n sc e).map fun ie => if x ∈ mu then .own i ie else .set i ie else none
  | .Subscript (.Name x px) k _ => if odd x || !isVis sc x then none else (ixOf N x).bind fun i => (compE g N n sc k).bind fun ik => (compE g N n sc e).map fun ie => .put i ik ie
  | .Tuple ts _ _ => (match compUno g N mu n sc ts e with
    | some s => some s
    | none => (match compDv g N n sc ts e with
      | some s => some s
      | none => (match compPar g N n sc ts e with
        | some s => some s
        | none => compUnp g N n sc ts e)))
  | _ => none
/-- values of a call that changes lists of the frame -/
def compIoA (n : Nat) (sc : Scope) : List Bool → List Expr → Option Exs
  | true :: fl, .Name x _ :: es => if odd x || !isVis sc x then none else (ixOf N x).bind fun i => (compIoA n sc fl es).map (.cons (.var i))
  | false :: fl, e :: es => (compE g N n sc e).bind fun i => (compIoA n sc fl es).map (.cons i)
  | [], [] => some .nil
  | _, _ => none
def compIo (n : Nat) (sc : Scope) (tg e : Expr) : Option Sm := match tg, e with
  | .Name x _, .Call (.Name f _) args [] _ => if isLoc sc x && (isGl sc f && (!odd f && !args.isEmpty)) then (g.ios.find? fun p => p.1 == f).bind fun p => (ixOf N x).bind fun j => (compIoA g N n sc p.2 args).map fun is => .cio j f p.2 is else none
  | _, _ => none
def compX (n : Nat) (sc : Scope) (e : Expr) : Option Sm := match e with
  | .Constant (.str _) _ _ => some .pss
  | .Call (.Attribute (.Name x px) m ap) [] [] cp =>
    if m = ("pop" : Str) then (if odd x || !isVis sc x || !(ap.endLine == cp.line) then none else (ixOf N x).map .pop)
    else (compE g N n sc e).map .drop
  | .Call (.Attribute (.Name x px) m ap) [a] [] cp =>
    if m = ("append" : Str) then (if odd x || !isVis sc x || !(ap.endLine == cp.line) then none else (ixOf N x).bind fun i => (compE g N n sc a).map fun ie => .app i ie)
    else if m = ("extend" : Str) then (if odd x || !isVis sc x || !(ap.endLine == cp.line) then none else (ixOf N x).bind fun i => (compE g N n sc a).map fun ie => .ext i ie)
    else (compE g N n sc e).map .drop
  | e => if isComp e then none else (compE g N n sc e).map .drop
def compRet (n : Nat) (sc : Scope) (e : Expr) : Option Sm := match e with
  | .Name x px => if x ∈ mu then (if odd x || !isVis sc x then none else (ixOf N x).map .retO) else (compE g N n sc (.Name x px)).map .ret
  | e => (compE g N n sc e).map .ret
mutual
def compS : Nat → Scope → Stmt → Option Sm
  | 0, _, _ => none
  | n + 1, sc, st => match st with
    | .Return none _ => some .retN
    | .Return (some e) _ => compRet g N mu n sc e
    | .Assign [tg] e _ => (match compIo g N n sc tg e with
      | some s => some s
      | none => compAsg g N mu n sc tg e)
    | .Expr e _ => compX g N n sc e
    | .If c a b _ => (tstE (compE g N n sc) c).bind fun ic => (compSs n sc a).bind fun ia => (compSs n sc b).map fun ib => .iff ic ia ib
    | .For tg it body [] _ => (compT sc N n tg).bind fun t => (compI g sc (nvE (compE g N n sc)) tg it).bind fun ix => (compSs n sc body).map fun b => .forr t ix b
    | .While c body [] _ => (tstE (compE g N n sc) c).bind fun ic => (compSs n sc body).map fun b => .whl ic b
    | .Raise (some (.Call (.Name c _) args [] _)) none _ => if odd c || !isGl sc c then none else if c ∈ g.err then (mapN (compE g N n sc) args).map fun is => .rse c is else some .dead
    | .Pass _ => some .pss
    | .Break _ => some .brk
    | .Continue _ => some .cnt
    | _ => none
def compSs : Nat → Scope → List Stmt → Option Sms
  | _, _, [] => some .nil
  | 0, _, _ => none
  | n + 1, sc, st :: rest => match compS n sc st with
    | some s => (compSs n sc rest).map fun q => frzs (mu.filterMap (ixOf N)) (rvM s) (.cons s q)
    | none => some (.cons .dead .nil)
end
end
/-! ### what the machine asks of stores -/
theorem sw_not {e : Expr} {t : Option Expr} {l : Nat} {env : PySem.Env} (h : isComp e = false) : swapsWith e t l env = pure false := by
  cases e <;> first
    | rfl
    | cases h
theorem sw_tup {e tg : Expr} {l : Nat} {env : PySem.Env} (h : ∀ x p, tg ≠ .Name x p) : swapsWithSole [tg] e l env = pure false := by
  show swapsWith e (some tg) l env = pure false
  cases e <;> first
    | rfl
    | (cases tg <;> first
        | rfl
        | exact absurd rfl (h _ _))
theorem sw_false {elt : Expr} {gs : List Comprehension} {scope : Scope} {pos py : Pos} {y : Str} {l : Nat} {env : PySem.Env}
    (h : (env.scope.names.lookup y == some .local && py.line == pos.line && !(scope.names.any fun (n, k) => n == y && (k == .local || k == .cell))) = false) : swapsWith (.ListComp elt gs scope pos) (some (.Name y py)) l env = pure false := by
  unfold swapsWith
  show (pure (env.blockKind == .function && env.kindOf y == some .local && py.line == pos.line && !(scope.names.any fun (n, k) => n == y && (k == .local || k == .cell))) : Sem Bool) = pure false
  have e : (env.blockKind == .function && env.kindOf y == some .local && py.line == pos.line && !(scope.names.any fun (n, k) => n == y && (k == .local || k == .cell))) = false := by
    have h : (env.kindOf y == some .local && py.line == pos.line && !(scope.names.any fun (n, k) => n == y && (k == .local || k == .cell))) = false := h
    rw [Bool.and_assoc, Bool.and_assoc, ← Bool.and_assoc (env.kindOf y == some .local), h, Bool.and_false]
  rw [e]
theorem ss_no {ts : List Expr} {e : Expr} {k : Nat} {tp : Pos} {env : PySem.Env} (h : noPar env.scope ts e = true) : swappedStores [.Tuple ts k tp] e env = pure none := by
  cases e <;> first
    | rfl
    | skip
  rename_i vs k2 p2
  unfold noPar at h
  unfold swappedStores
  simp only [Bool.or_eq_true] at h
  rcases h with ((h | h) | h) | h
  · simp [h]
  · simp [h]
  · simp only [h, if_true]
    repeat' split
    all_goals rfl
  · have hl : ∀ (f : Expr → Option Str) (l : List Expr), (∀ e ∈ l, notLoc env.scope e = true → f e = none) → l.any (notLoc env.scope) = true → ((l.filterMap f).length != l.length) = true := fun f l hf ha => by
      have hlt : (l.filterMap f).length < l.length := by
        induction l with
        | nil => cases ha
        | cons x xs ih =>
          rw [List.filterMap_cons]
          have hx := hf x List.mem_cons_self
          cases hn : notLoc env.scope x with
          | true =>
            rw [hx hn]
            have := List.length_filterMap_le f xs
            simp only [List.length_cons]
            omega
          | false =>
            have h2 : xs.any (notLoc env.scope) = true := by
              have : (notLoc env.scope x || xs.any (notLoc env.scope)) = true := ha
              rw [hn] at this
              exact this
            have := ih (fun e he => hf e (List.mem_cons_of_mem _ he)) h2
            cases f x with
            | none => simp only [List.length_cons]; omega
            | some y => simp only [List.length_cons]; omega
      simp only [bne_iff_ne, ne_eq]
      omega
    simp only
    repeat' split
    all_goals first
      | rfl
      | skip
    all_goals
      rename_i h3 _ _
      exfalso
      simp only [Bool.or_eq_true, not_or] at h3
      refine h3.1 (hl _ ts (fun e _ hn => ?_) h)
      unfold notLoc at hn
      split at hn
      · rename_i id pp _
        have : (env.kindOf id == some .local) = false := by
          have hn : (env.scope.names.lookup id == some .local) = false := by simpa using hn
          exact hn
        simp only [this]
        rfl
      · split
        · rename_i hh; exact absurd rfl (hh _ _)
        · rfl
theorem dups2 {x y : Str} (h : x ≠ y) : [x, y].eraseDups = [x, y] := by
  have e : (y == x) = false := by simpa using Ne.symm h
  rw [List.eraseDups_cons, List.filter_cons, e]
  simp [List.eraseDups_cons]
theorem dups3 {x y z : Str} (h : x ≠ y) (h2 : x ≠ z) (h3 : y ≠ z) : [x, y, z].eraseDups = [x, y, z] := by
  have e : (y == x) = false := by simpa using Ne.symm h
  have e2 : (z == x) = false := by simpa using Ne.symm h2
  rw [List.eraseDups_cons]
  have : List.filter (fun b => !b == x) [y, z] = [y, z] := by
    rw [List.filter_cons, List.filter_cons, e, e2]
    rfl
  rw [this, dups2 h3]
theorem ss_2 {x y : Str} {px py tp p2 : Pos} {a b : Expr} {k k2 : Nat} {env : PySem.Env} (hk : env.blockKind = .function) (h : par2 env.scope x y px py a b = true) : swappedStores [.Tuple [.Name x px, .Name y py] k tp] (.Tuple [a, b] k2 p2) env = pure (some [x, y]) := by
  unfold par2 at h
  simp only [Bool.and_eq_true, decide_eq_true_eq, Bool.not_eq_true'] at h
  obtain ⟨⟨⟨⟨⟨⟨⟨h1, h2⟩, h3⟩, h4⟩, h5⟩, h6⟩, h7⟩, h8⟩ := h
  have e1 : env.kindOf x = some .local := h1
  have e2 : env.kindOf y = some .local := h2
  have d := dups2 h4
  unfold swappedStores
  simp only [h7, h8, hk, e1, e2, Expr.pos, h3, List.head?, List.filterMap, Option.map, Option.getD, beq_self_eq_true, Bool.and_self, if_true, d]
  simp
  intro h
  rcases h with h | h
  · cases a <;> first
      | exact Bool.noConfusion (show true = false from h5)
      | exact Bool.noConfusion (show false = true from h)
  · cases b <;> first
      | exact Bool.noConfusion (show true = false from h6)
      | exact Bool.noConfusion (show false = true from h)
theorem ss_3 {x y z : Str} {px py pz tp p2 : Pos} {a b c : Expr} {k k2 : Nat} {env : PySem.Env} (hk : env.blockKind = .function) (h : par3 env.scope x y z px py pz a b c = true) : swappedStores [.Tuple [.Name x px, .Name y py, .Name z pz] k tp] (.Tuple [a, b, c] k2 p2) env = pure (some [x, y, z]) := by
  unfold par3 at h
  simp only [Bool.and_eq_true, decide_eq_true_eq, Bool.not_eq_true'] at h
  obtain ⟨⟨⟨⟨⟨⟨⟨⟨⟨⟨⟨⟨h1, h2⟩, h2'⟩, h3⟩, h3'⟩, h4⟩, h4'⟩, h4''⟩, h5⟩, h6⟩, h6'⟩, h7⟩, h8⟩ := h
  have e1 : env.kindOf x = some .local := h1
  have e2 : env.kindOf y = some .local := h2
  have e3 : env.kindOf z = some .local := h2'
  have d := dups3 h4 h4' h4''
  unfold swappedStores
  simp only [h7, h8, hk, e1, e2, e3, Expr.pos, h3, h3', List.head?, List.filterMap, Option.map, Option.getD, beq_self_eq_true, Bool.and_self, if_true, d]
  simp
  intro h
  rcases h with h | h | h
  · cases a <;> first
      | exact Bool.noConfusion (show true = false from h5)
      | exact Bool.noConfusion (show false = true from h)
  · cases b <;> first
      | exact Bool.noConfusion (show true = false from h6)
      | exact Bool.noConfusion (show false = true from h)
  · cases c <;> first
      | exact Bool.noConfusion (show true = false from h6')
      | exact Bool.noConfusion (show false = true from h)
theorem ss_sub {o i e : Expr} {p : Pos} {env : PySem.Env} : swappedStores [.Subscript o i p] e env = pure none := by
  cases e <;> rfl
end En
/-! En15: compSs is sound. -/
namespace En
open PySem L2 PyProof.Rows
/-- what is known where statements run -/
structure Ks (g : Gi) (G : Cfg) (C : Call) (Ok : Cx → WX → Prop) (X : Cx) (E : XK) : Prop where
  ok : Ok X (wE E)
  pass : PassesOwn (model X.prog X.w) X.A X.env X.xe
  tk : Takes X (wE E)
  fn : ∀ x, X.fn x = true
  kind : X.env.blockKind = .function
  skind : X.env.scope.kind = .function
  err : ∀ c ∈ g.err, Gl X c → odd c = false → ∀ args is p pos, PA X args (rdA G C (wE E) is) → (∀ e ∈ args, isStar e = false) → (args = [] → is = .nil) → PMk X (.Call (.Name c p) args [] pos) (rdX G C (wE E) c is)
section
variable {g : Gi} {G : Cfg} {C : Call} {Ok : Cx → WX → Prop} {X : Cx} {E : XK} {N mu : List Str} {H0 : Hp}
theorem vr_ok {sc : Scope} {x : Str} {p : Pos} {i : Nat} (hs : X.env.scope = sc) (hn : X.N = N) (ho : odd x = false) (hv : isVis sc x = true) (hi : ixOf N x = some i) : PE X (.Name x p) (tVar i) := by
  obtain ⟨o1, o2, o3⟩ := odd_cases ho
  exact pe_var (by rw [hn]; exact ixOf_get hi) (vis_ok hs hv) o1 o2
theorem name_var {n : Nat} {sc : Scope} {x : Str} {p : Pos} {i : Nat} (h : compE g N n sc (.Name x p) = some (.var i)) (hs : X.env.scope = sc) (hn : X.N = N) : PE X (.Name x p) (tVar i) := by
  cases n with
  | zero => simp [compE] at h
  | succ n =>
    simp only [compE] at h
    unfold nameE at h
    split at h
    · cases h
    · rename_i ho
      split at h
      · rename_i hv
        simp only [Option.map_eq_some_iff] at h
        obtain ⟨j, h1, h2⟩ := h
        cases h2
        exact vr_ok hs hn (by simpa using ho) hv h1
      · split at h
        · simp only [Option.map_eq_some_iff] at h
          obtain ⟨j, h1, h2⟩ := h
          cases h2
        · cases h
theorem zz_ok (k : Kn g G C Ok) (hN : N.Nodup) (ks : Ks g G C Ok X E) {n : Nat} {sc : Scope} (hs : X.env.scope = sc) (hn : X.N = N) : ∀ e i, nvE (compE g N n sc) e = some i → PE X e (rdZ G C H0 E i) ∧ Sd G C X (wE E) e i := by
  intro e i h
  unfold nvE at h
  simp only [Option.bind_eq_some_iff] at h
  obtain ⟨j, h1, h2⟩ := h
  split at h2
  · cases h2
  rename_i hv
  cases h2
  have s := compE_ok k hN n sc e i h1 X (wE E) ks.ok hs hn
  refine ⟨?_, s⟩
  cases hi : isVarE i with
  | false =>
    refine z_val k.hB k.hC (fun m z => ?_) s.R
    rw [z] at hi
    cases hi
  | true =>
    have hnm : isNm e = true := by simpa [hi] using hv
    cases i <;> first
      | cases hi
      | skip
    cases e <;> first
      | cases hnm
      | skip
    exact z_var (name_var h1 hs hn)
theorem compIF_ok (k : Kn g G C Ok) (hN : N.Nodup) (ks : Ks g G C Ok X E) {n : Nat} {sc : Scope} (hs : X.env.scope = sc) (hn : X.N = N) (tg iter : Expr) (ix : Ix) (h : compI g sc (nvE (compE g N n sc)) tg iter = some ix) :
    PI X tg iter (rdIF G C H0 E ix) ∧ isSet iter = false := by
  have ok := ks.ok
  have hK := (k.bs X _ ok).K
  have ih : ∀ e i, nvE (compE g N n sc) e = some i → PE X e (rdZ G C H0 E i) ∧ Sd G C X (wE E) e i := zz_ok k hN ks hs hn
  have seq : isSet iter = false → (nvE (compE g N n sc) iter).map .seq = some ix → PI X tg iter (rdIF G C H0 E ix) ∧ isSet iter = false := fun hi h => by
    simp only [Option.map_eq_some_iff] at h
    obtain ⟨i, h1, h2⟩ := h
    subst h2
    exact ⟨f_seq k.hB k.hC hK (ih _ _ h1).1, hi⟩
  unfold compI at h
  split at h
  · rename_i x px a pos
    split at h
    · rename_i c
      obtain ⟨e1, e2, e3⟩ := c
      subst e1
      simp only [Option.map_eq_some_iff] at h
      obtain ⟨i, h1, h2⟩ := h
      subst h2
      have s := (ih _ _ h1).2
      exact ⟨f_rng1 k.hB k.hC (gl_ok hs e2) (k.no X _ _ ok e3) s.S (starEach_cons s.st), rfl⟩
    · split at h
      · rename_i c
        obtain ⟨e1, e2, e3, e4⟩ := c
        subst e1
        simp only [Option.map_eq_some_iff] at h
        obtain ⟨i, h1, h2⟩ := h
        subst h2
        obtain ⟨z, s⟩ := ih _ _ h1
        cases tg <;> first
          | exact ⟨f_enu k.hB k.hC hK (gl_ok hs e2) (k.no X _ _ ok e3) z (starEach_cons s.st), rfl⟩
          | cases e4
      · exact seq rfl h
  · rename_i x px a b pos
    split at h
    · rename_i c
      obtain ⟨e1, e2, e3⟩ := c
      subst e1
      simp only [Option.map_eq_some_iff, Option.bind_eq_some_iff] at h
      obtain ⟨i, h1, j, h2, h3⟩ := h
      subst h3
      have s := (ih _ _ h1).2
      have s2 := (ih _ _ h2).2
      exact ⟨f_rng2 k.hB k.hC (gl_ok hs e2) (k.no X _ _ ok e3) s.S s2.S (starEach_cons s.st) (starEach_cons s2.st), rfl⟩
    · split at h
      · rename_i c
        obtain ⟨e1, e2, e3, e4⟩ := c
        subst e1
        simp only [Option.map_eq_some_iff, Option.bind_eq_some_iff] at h
        obtain ⟨i, h1, j, h2, h3⟩ := h
        subst h3
        obtain ⟨z, s⟩ := ih _ _ h1
        obtain ⟨z2, s2⟩ := ih _ _ h2
        cases tg <;> first
          | exact ⟨f_zip k.hB k.hC hK (gl_ok hs e2) (k.no X _ _ ok e3) z z2 (starEach_cons s.st) (starEach_cons s2.st), rfl⟩
          | cases e4
      · exact seq rfl h
  · cases h
  · rename_i h3
    refine seq ?_ h
    cases iter <;> first
      | rfl
      | exact absurd rfl (h3 _ _ _)
/-- name = [..] on one line -/
theorem lc_set (k : Kn g G C Ok) (hN : N.Nodup) {n : Nat} {sc : Scope} {elt : Expr} {gens : List Comprehension} {scope : Scope} {pos py spos : Pos} {y : Str} {i : Ex} {j : Nat} {W : WX} (ok : Ok X W) (hs : X.env.scope = sc) (hn : X.N = N) (h : compE g N n sc (.ListComp elt gens scope pos) = some i) (hy : X.N[j]? = some y) (hyl : X.env.scope.names.lookup y = some .local)
    (hsw : swapsWith (.ListComp elt gens scope pos) (some (.Name y py)) spos.line X.env = pure true) : PS X (.Assign [.Name y py] (.ListComp elt gens scope pos) spos) (tAsg (rdR G C W i) (gName j)) := by
  cases n with
  | zero => simp [compE] at h
  | succ n =>
    have hB := k.hB
    have hC := k.hC
    have bs := k.bs X W ok
    have ih : ∀ e i, compE g N n sc e = some i → Sd G C X W e i := fun e i h => compE_ok k hN n sc e i h X W ok hs hn
    unfold compE at h
    split at h
    all_goals first
      | (rename_i q; cases q; done)
      | skip
    · rename_i elt' tg iter ifs scope' pos' q
      cases q
      split at h
      · rename_i hb
        simp only [Option.map_eq_some_iff, Option.bind_eq_some_iff] at h
        obtain ⟨t, h1, h⟩ := h
        split at h
        · rename_i hin
          simp only [Option.map_eq_some_iff, Option.bind_eq_some_iff] at h
          obtain ⟨ix, h2, co, h3, el, h4, h5⟩ := h
          subst h5
          have hin : ∀ i ∈ tgIx t, i ∈ (ownOf N scope).map (fun (p : Str × Nat) => p.2) := fun i hi => by
            have := List.all_eq_true.mp hin i hi
            simpa using this
          have bok := blkOk_by hb
          obtain ⟨hI, hset⟩ := compI_ok k ok hs ih tg iter ix h2
          have okB : ∀ s H a cl fp, Ok (X.blk s H scope (compEnvC scope cl a X.env) fp) W0 := fun s H a cl fp => k.blk X W s H scope cl a fp ok
          have hsc : ∀ s H a cl fp, (X.blk s H scope (compEnvC scope cl a X.env) fp).env.scope = relS scope sc := fun s H a cl fp => by rw [← hs]; rfl
          have hg : ∀ (s : Shared) (H : Hp) (a : Addr) (cl : List (Str × Addr)) (fp : List Addr), PG (X.blk s H scope (compEnvC scope cl a X.env) fp) tg (rdG G t) := fun s H a cl fp =>
            compT_ok (hsc s H a cl fp) hn hN (k.bs _ _ (okB s H a cl fp)).calm (k.bs _ _ (okB s H a cl fp)).K n tg t h1 (own_fn (X := X) bok hN hin (hsc s H a cl fp) rfl)
          have ht : ∀ (s : Shared) (H : Hp) (a : Addr) (cl : List (Str × Addr)) (fp : List Addr), PTs (X.blk s H scope (compEnvC scope cl a X.env) fp) ifs (rdC G C co) := fun s H a cl fp => by
            split at h3
            · cases h3
              exact c_no
            · simp only [Option.map_eq_some_iff] at h3
              obtain ⟨i, h6, h7⟩ := h3
              subst h7
              obtain ⟨s1, s2⟩ := tst_ok (fun e i h => compE_ok k hN n _ e i h _ W0 (okB s H a cl fp) (hsc s H a cl fp) hn) _ _ h6
              exact c_so hB hC (s1.T s2)
            · cases h3
          have he : ∀ (s : Shared) (H : Hp) (a : Addr) (cl : List (Str × Addr)) (fp : List Addr), PE (X.blk s H scope (compEnvC scope cl a X.env) fp) elt (rdV G C W0 el) := fun s H a cl fp =>
            pe_frz hB hC (compE_ok k hN n _ elt el h4 _ W0 (okB s H a cl fp) (hsc s H a cl fp) hn).R
          have bok' : BlkOk X.N X.env.scope scope (ownOf N scope) := by rw [hn, hs]; exact bok
          refine PS.imp (ps_setLc bs.calm (by rw [hn]; exact hN) hy hyl hsw hI bok' hg ht he (fset_ok hset)) fun D σ H q => ?_
          exact p_lc hB hC bs (pos := pos) hI bok' hin hg ht he (fset_ok hset) σ H _ q
        · cases h
      · cases h
    · cases h
theorem asg_ok (k : Kn g G C Ok) (hN : N.Nodup) (ks : Ks g G C Ok X E) {n : Nat} {sc : Scope} (hs : X.env.scope = sc) (hn : X.N = N) {x : Str} {px pos : Pos} {e : Expr} {i : Ex} {j : Nat} {b : Bool} (hl : isLoc sc x = true) (hb : lcSw sc x px e = some b) (hj : ixOf N x = some j) (h : compE g N n sc e = some i) :
    PS X (.Assign [.Name x px] e pos) (tAsg (rdR G C (wE E) i) (gName j)) := by
  have hl' : Loc X.env.scope x := by
    unfold isLoc at hl
    rw [hs]
    show sc.names.lookup x = some .local ∨ sc.names.lookup x = some .cell
    simpa using hl
  have plain : swapsWith e (some (.Name x px)) pos.line X.env = pure false → PS X (.Assign [.Name x px] e pos) (tAsg (rdR G C (wE E) i) (gName j)) := fun hw =>
    ps_set (by rw [hn]; exact hN) (by rw [hn]; exact ixOf_get hj) hl' (compE_ok k hN n sc e i h X (wE E) ks.ok hs hn).R hw (.inl (ks.fn x))
  cases e <;> first
    | exact plain (sw_not rfl)
    | skip
  · rename_i elt gens scope cpos
    unfold lcSw at hb
    cases b with
    | false => exact plain (sw_false (by rw [hs]; exact Option.some.inj hb))
    | true =>
      have hb := Option.some.inj hb
      simp only [Bool.and_eq_true, Bool.not_eq_true', beq_iff_eq] at hb
      obtain ⟨⟨h1, h2⟩, h3⟩ := hb
      exact lc_set k hN ks.ok hs hn h (by rw [hn]; exact ixOf_get hj) (by rw [hs]; exact h1) (sw_true ks.skind (by rw [hs]; exact h1) (by simpa using h2) h3)
  · cases hb
  · cases hb
theorem asgn_sub {n : Nat} {sc : Scope} {o kx : Expr} {i : Ex} {tp : Pos} {env : PySem.Env} (h : compE g N n sc kx = some i) : ∀ v, assign (.Subscript o kx tp) env v = (do
      let ov ← holding [v] (eval o env)
      let iv ← holding [v, ov] (eval kx env)
      standAt tp
      holding [v, ov, iv] (setItem ov iv v)
      release [v, ov, iv] []) := by
  cases n with
  | zero => simp [compE] at h
  | succ n => cases kx <;> first
    | (intro v; rfl)
    | (simp [compE] at h)
theorem ioA_ok (k : Kn g G C Ok) (hN : N.Nodup) (ks : Ks g G C Ok X E) {n : Nat} {sc : Scope} (hs : X.env.scope = sc) (hn : X.N = N) : ∀ (fl : List Bool) (es : List Expr) (is : Exs), compIoA g N n sc fl es = some is → PA X es (tIo G C (wE E) fl is) ∧ ∀ e ∈ es, isStar e = false
  | [], [], is, h => by
    unfold compIoA at h
    cases h
    exact ⟨pa_nil, fun e he => by cases he⟩
  | true :: fl, e :: es, is, h => by
    cases e <;> first
      | (simp [compIoA] at h; done)
      | skip
    rename_i x px
    unfold compIoA at h
    split at h
    · cases h
    rename_i hv
    simp only [Bool.or_eq_true, Bool.not_eq_true', not_or, Bool.not_eq_true, Bool.not_eq_false] at hv
    simp only [Option.bind_eq_some_iff, Option.map_eq_some_iff] at h
    obtain ⟨i, h1, js, h2, h3⟩ := h
    subst h3
    obtain ⟨a, b⟩ := ioA_ok k hN ks hs hn fl es js h2
    refine ⟨pa_cons (vr_ok hs hn hv.1 hv.2 h1) a (starEach_cons rfl), fun e he => ?_⟩
    cases he with
    | head => rfl
    | tail _ he => exact b e he
  | false :: fl, e :: es, is, h => by
    unfold compIoA at h
    simp only [Option.bind_eq_some_iff, Option.map_eq_some_iff] at h
    obtain ⟨i, h1, js, h2, h3⟩ := h
    subst h3
    obtain ⟨a, b⟩ := ioA_ok k hN ks hs hn fl es js h2
    have s := compE_ok k hN n sc e i h1 X (wE E) ks.ok hs hn
    refine ⟨pa_cons s.S a (starEach_cons s.st), fun e' he => ?_⟩
    cases he with
    | head => exact s.st
    | tail _ he => exact b e' he
  | [], _ :: _, is, h => by simp [compIoA] at h
  | true :: _, [], is, h => by simp [compIoA] at h
  | false :: _, [], is, h => by simp [compIoA] at h
theorem compIo_ok (k : Kn g G C Ok) (hN : N.Nodup) (ks : Ks g G C Ok X E) {n : Nat} {sc : Scope} (hs : X.env.scope = sc) (hn : X.N = N) {tg e : Expr} {s : Sm} {pos : Pos} (h : compIo g N n sc tg e = some s) : PS X (.Assign [tg] e pos) (rdM G C H0 E s) := by
  unfold compIo at h
  split at h
  · rename_i x px f pf args cp
    split at h
    · rename_i hv
      simp only [Bool.and_eq_true, Bool.not_eq_true'] at hv
      obtain ⟨h1, h2, h3, h4⟩ := hv
      simp only [Option.bind_eq_some_iff, Option.map_eq_some_iff] at h
      obtain ⟨⟨f', fl⟩, g1, j, g2, is, g3, g4⟩ := h
      subst g4
      have hm := List.mem_of_find?_eq_some g1
      have he : f' = f := by simpa using List.find?_some g1
      subst he
      obtain ⟨a, b⟩ := ioA_ok k hN ks hs hn fl args is g3
      have hne : args ≠ [] := fun z => by rw [z] at h4; cases h4
      have hl' : Loc X.env.scope x := by
        unfold isLoc at h1
        rw [hs]
        show sc.names.lookup x = some .local ∨ sc.names.lookup x = some .cell
        simpa using h1
      exact m_cio k.hB k.hC (k.io X _ _ _ _ _ _ _ ks.ok hm (gl_ok hs h2) h3 hne b a) (pg_name (by rw [hn]; exact hN) (by rw [hn]; exact ixOf_get g2) hl' (.inl (ks.fn x))) (sw_not (e := .Call (.Name f' pf) args [] cp) (t := some (.Name x px)) (l := pos.line) (env := X.env) rfl) rfl
    · cases h
  · cases h
theorem frzs_ok {rest : List Stmt} {mx : List Nat} {q : Sms} (h : PSs X rest (rdMs G C H0 E q)) : ∀ l, PSs X rest (rdMs G C H0 E (frzs mx l q))
  | [] => h
  | i :: r => by
    unfold frzs
    split
    · exact m_frz (frzs_ok h r)
    · exact frzs_ok h r
mutual
theorem compS_ok (k : Kn g G C Ok) (hN : N.Nodup) (ks : Ks g G C Ok X E) {sc : Scope} (hs : X.env.scope = sc) (hn : X.N = N) : ∀ (n : Nat) (st : Stmt) (s : Sm), compS g N mu n sc st = some s → PS X st (rdM G C H0 E s)
  | 0, st, s, h => by simp [compS] at h
  | n + 1, st, s, h => by
    have hB := k.hB
    have hC := k.hC
    have ih : ∀ e i, compE g N n sc e = some i → Sd G C X (wE E) e i := fun e i h => compE_ok k hN n sc e i h X (wE E) ks.ok hs hn
    have hc := (k.bs _ _ ks.ok).calm
    have hK := (k.bs _ _ ks.ok).K
    unfold compS at h
    split at h
    · cases h
      exact m_retN
    · rename_i e pos
      unfold compRet at h
      split at h
      · rename_i x px
        split at h
        · split at h
          · cases h
          rename_i hv
          simp only [Bool.or_eq_true, Bool.not_eq_true', not_or, Bool.not_eq_true, Bool.not_eq_false] at hv
          simp only [Option.map_eq_some_iff] at h
          obtain ⟨i, h1, h2⟩ := h
          subst h2
          exact m_retO (vr_ok hs hn hv.1 hv.2 h1)
        · simp only [Option.map_eq_some_iff] at h
          obtain ⟨i, h1, h2⟩ := h
          subst h2
          exact m_ret hB hC (ih _ _ h1).R
      · simp only [Option.map_eq_some_iff] at h
        obtain ⟨i, h1, h2⟩ := h
        subst h2
        exact m_ret hB hC (ih _ _ h1).R
    · rename_i tg e pos
      split at h
      · rename_i s' hio
        cases h
        exact compIo_ok k hN ks hs hn hio
      rename_i hno
      clear hno
      unfold compAsg at h
      split at h
      · rename_i x px
        split at h
        · rename_i hl
          simp only [Option.map_eq_some_iff, Option.bind_eq_some_iff] at h
          obtain ⟨b, h1, i, h2, ie, h3, h4⟩ := h
          have a := asg_ok (pos := pos) k hN ks hs hn hl h1 h2 h3
          split at h4
          · cases h4
            exact m_own hB hC a
          · cases h4
            exact m_set hB hC a
        · cases h
      · rename_i x px kx tp
        split at h
        · cases h
        rename_i hv
        simp only [Bool.or_eq_true, Bool.not_eq_true', not_or, Bool.not_eq_true, Bool.not_eq_false] at hv
        simp only [Option.map_eq_some_iff, Option.bind_eq_some_iff] at h
        obtain ⟨i, h1, ik, h2, ie, h3, h4⟩ := h
        subst h4
        exact m_put hB hC (vr_ok hs hn hv.1 hv.2 h1) (ih _ _ h2).S (pe_frz hB hC (ih _ _ h3).R) (sw_tup fun _ _ z => nomatch z) ss_sub (asgn_sub h2)
      · rename_i ts kt tp
        cases hun : compUno g N mu n sc ts e with
        | some s' =>
          rw [hun] at h
          cases h
          unfold compUno at hun
          split at hun
          · rename_i x px y py a b k2 p2
            split at hun
            · rename_i hv
              simp only [Bool.and_eq_true, Bool.not_eq_true', decide_eq_true_eq] at hv
              obtain ⟨_, _, lx, ly, hnp, sa, sb, hne⟩ := hv
              simp only [Option.map_eq_some_iff, Option.bind_eq_some_iff] at hun
              obtain ⟨i, h1, j, h2, ia, h3, ib, h4, h5⟩ := hun
              subst h5
              have loc : ∀ {x : Str}, isLoc sc x = true → Loc X.env.scope x := fun {x} hl => by
                unfold isLoc at hl
                rw [hs]
                simp only [Bool.or_eq_true, beq_iff_eq] at hl
                exact hl
              exact m_uno hB hC hK (ps_asg (pe_tup (pa_cons (ih _ _ h3).R (pa_cons (ih _ _ h4).R pa_nil (starEach_cons sb)) (starEach_cons sa))) (pg_tup hc (pgs_cons (pg_name (by rw [hn]; exact hN) (by rw [hn]; exact ixOf_get h1) (loc lx) (.inl (ks.fn x))) (pgs_cons (pg_name (by rw [hn]; exact hN) (by rw [hn]; exact ixOf_get h2) (loc ly) (.inl (ks.fn y))) pgs_nil))) (sw_tup fun _ _ z => nomatch z) (ss_no (by rw [hs]; exact hnp)) rfl)
            · split at hun
              · rename_i hv
                simp only [Bool.and_eq_true, Bool.not_eq_true', decide_eq_true_eq] at hv
                obtain ⟨_, _, lx, ly, hnp, sa, sb, hne⟩ := hv
                simp only [Option.map_eq_some_iff, Option.bind_eq_some_iff] at hun
                obtain ⟨i, h1, j, h2, ia, h3, ib, h4, h5⟩ := hun
                subst h5
                have loc : ∀ {x : Str}, isLoc sc x = true → Loc X.env.scope x := fun {x} hl => by
                  unfold isLoc at hl
                  rw [hs]
                  simp only [Bool.or_eq_true, beq_iff_eq] at hl
                  exact hl
                exact m_unf hB hC hK (ps_asg (pe_tup (pa_cons (ih _ _ h3).R (pa_cons (ih _ _ h4).R pa_nil (starEach_cons sb)) (starEach_cons sa))) (pg_tup hc (pgs_cons (pg_name (by rw [hn]; exact hN) (by rw [hn]; exact ixOf_get h1) (loc lx) (.inl (ks.fn x))) (pgs_cons (pg_name (by rw [hn]; exact hN) (by rw [hn]; exact ixOf_get h2) (loc ly) (.inl (ks.fn y))) pgs_nil))) (sw_tup fun _ _ z => nomatch z) (ss_no (by rw [hs]; exact hnp)) rfl)
              · cases hun
          · rename_i x px y py z pz a b c k2 p2
            split at hun
            · rename_i hv
              simp only [Bool.and_eq_true, Bool.not_eq_true', decide_eq_true_eq] at hv
              obtain ⟨_, _, _, hpar, sa, sb, sc'⟩ := hv
              simp only [Option.map_eq_some_iff, Option.bind_eq_some_iff] at hun
              obtain ⟨i, h1, j, h2, l, h2', ia, h3, ib, h4, ic, h5, h6⟩ := hun
              subst h6
              have hpar2 := hpar
              unfold par3 at hpar2
              simp only [Bool.and_eq_true, decide_eq_true_eq] at hpar2
              obtain ⟨⟨⟨⟨⟨⟨⟨⟨⟨⟨⟨⟨l1, l2⟩, l3⟩, _⟩, _⟩, ne1⟩, ne2⟩, ne3⟩, _⟩, _⟩, _⟩, _⟩, _⟩ := hpar2
              have e1 := ixOf_get h1
              have e2 := ixOf_get h2
              have e3 := ixOf_get h2'
              have hij : i ≠ j := fun w => by
                rw [w, e2] at e1
                exact ne1 (Option.some.inj e1).symm
              have hil : i ≠ l := fun w => by
                rw [w, e3] at e1
                exact ne2 (Option.some.inj e1).symm
              have hjl : j ≠ l := fun w => by
                rw [w, e3] at e2
                exact ne3 (Option.some.inj e2).symm
              exact m_pa3 hB hC (ps_par3 hc (by rw [hn]; exact hN) (by rw [hn]; exact e1) (by rw [hn]; exact e2) (by rw [hn]; exact e3) hij hil hjl (by rw [hs]; exact l1) (by rw [hs]; exact l2) (by rw [hs]; exact l3) (pa_cons (ih _ _ h3).R (pa_cons (ih _ _ h4).R (pa_cons (ih _ _ h5).R pa_nil (starEach_cons sc')) (starEach_cons sb)) (starEach_cons sa)) (ss_3 ks.kind (by rw [hs]; exact hpar)) (sw_tup fun _ _ z => nomatch z))
            · cases hun
          · cases hun
        | none =>
        rw [hun] at h
        simp only at h
        cases hdv : compDv g N n sc ts e with
        | some s' =>
          rw [hdv] at h
          cases h
          unfold compDv at hdv
          split at hdv
          · rename_i x px kx tp2 y py
            split at hdv
            · cases hdv
            rename_i hv
            simp only [Bool.or_eq_true, Bool.not_eq_true', not_or, Bool.not_eq_true, Bool.not_eq_false] at hv
            simp only [Option.map_eq_some_iff, Option.bind_eq_some_iff] at hdv
            obtain ⟨i, h1, j, h2, ik, h3, ie, h4, h5⟩ := hdv
            subst h5
            refine m_dvs hB hC hc hK (vr_ok hs hn hv.1.1.1 hv.1.1.2 h1) (ih _ _ h3).S (pg_name (by rw [hn]; exact hN) (by rw [hn]; exact ixOf_get h2) ?_ (.inl (ks.fn y))) (pe_frz hB hC (ih _ _ h4).R) (sw_tup fun _ _ z => nomatch z) (ss_no (by rw [hs]; exact hv.2)) (asgn_sub h3)
            have hl := hv.1.2
            unfold isLoc at hl
            rw [hs]
            simp only [Bool.or_eq_true, beq_iff_eq] at hl
            exact hl
          · cases hdv
        | none =>
        rw [hdv] at h
        simp only at h
        have hst : swapsWithSole [.Tuple ts kt tp] e pos.line X.env = pure false := sw_tup fun _ _ z => nomatch z
        split at h
        · rename_i s' hp
          cases h
          unfold compPar at hp
          split at hp
          · rename_i x px y py a b k2 p2
            split at hp
            · rename_i hpar
              simp only [Option.map_eq_some_iff, Option.bind_eq_some_iff] at hp
              obtain ⟨i, h1, j, h2, is, h3, h4⟩ := hp
              subst h4
              have hpar2 := hpar
              unfold par2 at hpar2
              simp only [Bool.and_eq_true, decide_eq_true_eq] at hpar2
              obtain ⟨⟨⟨⟨⟨⟨⟨l1, l2⟩, _⟩, hne⟩, _⟩, _⟩, _⟩, _⟩ := hpar2
              have hij : i ≠ j := fun z => by
                have e1 := ixOf_get h1
                have e2 := ixOf_get h2
                rw [z, e2] at e1
                exact hne (Option.some.inj e1).symm
              exact m_par hB hC (fun ha => ps_par hc (by rw [hn]; exact hN) (by rw [hn]; exact ixOf_get h1) (by rw [hn]; exact ixOf_get h2) hij (by rw [hs]; exact l1) (by rw [hs]; exact l2) ha (ss_2 ks.kind (by rw [hs]; exact hpar)) hst) (mapN_ok hB hC ih _ _ h3).1
            · cases hp
          · rename_i x px y py z pz a b c k2 p2
            split at hp
            · rename_i hpar
              simp only [Option.map_eq_some_iff, Option.bind_eq_some_iff] at hp
              obtain ⟨i, h1, j, h2, l, h2', is, h3, h4⟩ := hp
              subst h4
              have hpar2 := hpar
              unfold par3 at hpar2
              simp only [Bool.and_eq_true, decide_eq_true_eq] at hpar2
              obtain ⟨⟨⟨⟨⟨⟨⟨⟨⟨⟨⟨⟨l1, l2⟩, l3⟩, _⟩, _⟩, ne1⟩, ne2⟩, ne3⟩, _⟩, _⟩, _⟩, _⟩, _⟩ := hpar2
              have e1 := ixOf_get h1
              have e2 := ixOf_get h2
              have e3 := ixOf_get h2'
              have hij : i ≠ j := fun w => by
                rw [w, e2] at e1
                exact ne1 (Option.some.inj e1).symm
              have hil : i ≠ l := fun w => by
                rw [w, e3] at e1
                exact ne2 (Option.some.inj e1).symm
              have hjl : j ≠ l := fun w => by
                rw [w, e3] at e2
                exact ne3 (Option.some.inj e2).symm
              exact m_par3 hB hC (fun ha => ps_par3 hc (by rw [hn]; exact hN) (by rw [hn]; exact e1) (by rw [hn]; exact e2) (by rw [hn]; exact e3) hij hil hjl (by rw [hs]; exact l1) (by rw [hs]; exact l2) (by rw [hs]; exact l3) ha (ss_3 ks.kind (by rw [hs]; exact hpar)) hst) (mapN_ok hB hC ih _ _ h3).1
            · cases hp
          · cases hp
        · unfold compUnp at h
          split at h
          · rename_i hnp
            simp only [Option.map_eq_some_iff, Option.bind_eq_some_iff] at h
            obtain ⟨t, h1, ie, h2, h3⟩ := h
            subst h3
            obtain ⟨g1, g2, g3⟩ := compTs_ok (G := G) hs hn hN hc hK n ts t h1 fun i hi x hx => .inl (ks.fn x)
            exact m_unp hB hC (ih _ _ h2).R (g_tup hc hK g1 g2 g3) hst (ss_no (by rw [hs]; exact hnp)) rfl
          · cases h
      · cases h
    · rename_i e pos
      have dr : ∀ e s, isComp e = false → (compE g N n sc e).map .drop = some s → PS X (.Expr e pos) (rdM G C H0 E s) := fun e s hi h => by
        simp only [Option.map_eq_some_iff] at h
        obtain ⟨i, h1, h2⟩ := h
        subst h2
        exact m_drop hB hC (ih _ _ h1).R (sw_not hi)
      unfold compX at h
      split at h
      · cases h
        exact m_doc
      · rename_i x px m ap cp
        split at h
        · rename_i hm
          subst hm
          split at h
          · cases h
          rename_i hv
          simp only [Bool.or_eq_true, Bool.not_eq_true', not_or, Bool.not_eq_true, Bool.not_eq_false] at hv
          simp only [Option.map_eq_some_iff] at h
          obtain ⟨i, h1, h3⟩ := h
          subst h3
          exact m_pop hB hC (vr_ok hs hn hv.1.1 hv.1.2 h1) hv.2
        · exact dr _ _ rfl h
      · rename_i x px m ap a cp
        split at h
        · rename_i hm
          subst hm
          split at h
          · cases h
          rename_i hv
          simp only [Bool.or_eq_true, Bool.not_eq_true', not_or, Bool.not_eq_true, Bool.not_eq_false] at hv
          simp only [Option.map_eq_some_iff, Option.bind_eq_some_iff] at h
          obtain ⟨i, h1, ie, h2, h3⟩ := h
          subst h3
          exact m_app hB hC (vr_ok hs hn hv.1.1 hv.1.2 h1) (pe_frz hB hC (ih _ _ h2).R) (ih _ _ h2).st hv.2
        · split at h
          · rename_i hm
            subst hm
            split at h
            · cases h
            rename_i hv
            simp only [Bool.or_eq_true, Bool.not_eq_true', not_or, Bool.not_eq_true, Bool.not_eq_false] at hv
            simp only [Option.map_eq_some_iff, Option.bind_eq_some_iff] at h
            obtain ⟨i, h1, ie, h2, h3⟩ := h
            subst h3
            exact m_ext hB hC (vr_ok hs hn hv.1.1 hv.1.2 h1) (ih _ _ h2).R (ih _ _ h2).st hv.2
          · exact dr _ _ rfl h
      · split at h
        · cases h
        · rename_i hi
          exact dr _ _ (by simpa using hi) h
    · rename_i c a b pos
      simp only [Option.map_eq_some_iff, Option.bind_eq_some_iff] at h
      obtain ⟨ic, h1, ia, h2, ib, h3, h4⟩ := h
      subst h4
      obtain ⟨s, hi⟩ := tst_ok ih _ _ h1
      exact m_if hB hC (s.T hi) (compSs_ok k hN ks hs hn n a ia h2) (compSs_ok k hN ks hs hn n b ib h3)
    · rename_i tg it body pos
      simp only [Option.map_eq_some_iff, Option.bind_eq_some_iff] at h
      obtain ⟨t, h1, ix, h2, b, h3, h4⟩ := h
      subst h4
      obtain ⟨p1, p2⟩ := compIF_ok (H0 := H0) k hN ks hs hn tg it ix h2
      exact m_for hB hC ks.pass hc p1 (compT_ok hs hn hN hc hK n tg t h1 fun i hi x hx => .inl (ks.fn x)) (compSs_ok k hN ks hs hn n body b h3) (fset_ok p2)
    · rename_i c body pos
      simp only [Option.map_eq_some_iff, Option.bind_eq_some_iff] at h
      obtain ⟨ic, h1, b, h2, h3⟩ := h
      subst h3
      obtain ⟨s, hi⟩ := tst_ok ih _ _ h1
      exact m_while hB hC ks.pass (s.T hi) (compSs_ok k hN ks hs hn n body b h2)
    · rename_i c p args cp pos
      split at h
      · cases h
      rename_i ho
      simp only [Bool.or_eq_true, Bool.not_eq_true', not_or, Bool.not_eq_true, Bool.not_eq_false] at ho
      split at h
      · rename_i hc'
        simp only [Option.map_eq_some_iff] at h
        obtain ⟨is, h1, h2⟩ := h
        subst h2
        obtain ⟨q1, q2, q3⟩ := mapN_ok hB hC ih _ _ h1
        exact m_raise hB hC hc ks.tk (ks.err c hc' (gl_ok hs ho.2) ho.1 args is p cp q1 q3 (mapN_nil h1))
      · cases h
        exact ⟨fun pins s σ H D I ⟨r, N, si, no, z⟩ => by unfold exS at z; exact z.elim⟩
    · cases h
      exact m_pass
    · cases h
      exact m_break
    · cases h
      exact m_cont
    · cases h
theorem compSs_ok (k : Kn g G C Ok) (hN : N.Nodup) (ks : Ks g G C Ok X E) {sc : Scope} (hs : X.env.scope = sc) (hn : X.N = N) : ∀ (n : Nat) (sts : List Stmt) (s : Sms), compSs g N mu n sc sts = some s → PSs X sts (rdMs G C H0 E s)
  | n, [], s, h => by
    have e : s = .nil := by cases n <;> simp [compSs] at h <;> exact h.symm
    subst e
    exact m_nil
  | 0, st :: r, s, h => by simp [compSs] at h
  | n + 1, st :: r, s, h => by
    unfold compSs at h
    cases h1 : compS g N mu n sc st with
    | none =>
      rw [h1] at h
      cases h
      exact ⟨fun pins s σ H D I ⟨r, N, si, no, z⟩ => by
        unfold exSs exS at z
        exact z.elim⟩
    | some s1 =>
      rw [h1] at h
      simp only [Option.map_eq_some_iff] at h
      obtain ⟨q, h2, h3⟩ := h
      subst h3
      exact frzs_ok (m_cons (compS_ok k hN ks hs hn n st s1 h1) (compSs_ok k hN ks hs hn n r q h2)) _
end
end
end En
/-! En16: defs and their calls. -/
namespace En
open PySem L2 PyProof.Rows
/-- the program, its globals, the ground -/
structure Pg where
  P : Program
  w : World
  mg : Str → Option Value
  base : Heap
  fl : Bool
  lq : Bool
/-- the table of a def that makes lambdas, by its code -/
def LmV (p : Pg) (G : Cfg) (qual : Str) (cd : Value) : Prop := p.lq = true → ∃ c P, cd = .ref c ∧ LamX.TabB p.base p.mg c P ∧ (P, qual ++ "<lambda>") ∈ G.T ∧ ∀ t ∈ G.T, t.1 = P → t.2 = qual ++ "<lambda>"
theorem LmV.nil {p : Pg} {G : Cfg} {qual : Str} {cd : Value} (h : p.lq = false) : LmV p G qual cd := fun z => by
  rw [h] at z
  cases z
/-- a context at level k -/
structure OkX (p : Pg) (G : Cfg) (k : Nat) (X : Cx) (W : WX) : Prop where
  P : X.prog = p.P
  w : X.w = p.w
  mg : X.mg = p.mg
  base : X.base = p.base
  bs : Bs X G
  room : Room k X.A
  gd : p.fl = true → X.A.guards = some []
  tk : Takes X W
  lm : LmV p G X.env.qual X.env.code
  ind : ∀ cls d σ σ' H, W cls d σ H → W cls d σ' H
theorem OkX.blk {p : Pg} {G : Cfg} {k : Nat} {X : Cx} {W : WX} (h : OkX p G k X W) (s : Shared) (H : Hp) (scope : Scope) (cl : List (Str × Addr)) (a : Addr) (fp : List Addr) : OkX p G k (X.blk s H scope (compEnvC scope cl a X.env) fp) W0 :=
  ⟨h.P, h.w, h.mg, h.base, ⟨h.bs.K, h.bs.un, h.bs.calm, h.bs.nd⟩, h.room, h.gd, fun u s' ⟨_, _, _, _, _, _, _, _, _, _, _, _, _, _, _, _, z⟩ => z.elim, h.lm, fun _ _ _ _ _ z => z.elim⟩
/-- what a call's wish is, told of data -/
def qS (G : Cfg) (Q : VK) (H : Hp) : Rv → Prop := fun x => ∀ v H', RR G.K H H' x v → ExN H H' → Tb G H' → Q v H'
/-- a def keeps its meaning C nm -/
def FnG (p : Pg) (G : Cfg) (C : Call) (k : Nat) (f : Addr) (fd : FuncData) (ps : List Str) (nm : Str) : Prop :=
  ∀ (A : Around) (outer : List PySem.Env) (s : Shared) (H : Hp) (args : Args) (us : List Value) (vs : List V) (ds : List D) (Q : VK) (E : XK), Room k A → (p.fl = true → A.guards = some []) → Env0 p.P p.w G.K p.mg p.base A outer s H → BindsTo s fd args (ps.zip us) → Vals vs us → RDs G.K H ds vs → Tb G H → ds.length = ps.length →
    C nm ds (qS G Q H) (eS G E H) → codeAny (model p.P p.w) A (.call (.ref f) args) (CR (L2.CX p.P p.w) outer p.P p.w H s Q E) s
theorem startD_get {n : Nat} {ds : List D} {i : Nat} {s : Slot} (h : (startD n ds)[i]? = some (some s)) : ∃ d, ds[i]? = some d ∧ s = .val d := by
  unfold startD at h
  by_cases hi : i < ds.length
  · rw [List.getElem?_append_left (by simpa using hi), List.getElem?_map, List.getElem?_eq_getElem hi] at h
    cases h
    exact ⟨_, List.getElem?_eq_getElem hi, rfl⟩
  · rw [List.getElem?_append_right (by simp; omega)] at h
    have := List.mem_of_getElem? h
    have := List.eq_of_mem_replicate this
    cases this
theorem RE.start {K : PySem.W.Frag} {H : Hp} {N : List Str} {ds : List D} {vs : List V} (r : RDs K H ds vs) : RE K H (startD N.length ds) (L2.start N vs) := by
  have hl := r.length
  refine ⟨fun i s e => ?_, fun i j xs ys t u v e1 _ _ _ => ?_, by simp [startD, L2.start, hl]⟩
  · obtain ⟨d, e1, e2⟩ := startD_get e
    subst e2
    obtain ⟨v, e3, rd⟩ := r.get e1
    refine ⟨v, ?_, rd⟩
    unfold L2.start
    have hi : i < vs.length := by
      rcases Nat.lt_or_ge i vs.length with z | z
      · exact z
      · rw [List.getElem?_eq_none z] at e3; cases e3
    rw [List.getElem?_append_left (by simpa using hi), List.getElem?_map, e3]
    rfl
  · obtain ⟨d, _, e2⟩ := startD_get e1
    cases e2
section
variable {p : Pg} {G : Cfg} {g : Gi} {C : Call}
/-- what may be raised -/
def ErrOk (p : Pg) (G : Cfg) (g : Gi) (C : Call) (k : Nat) : Prop := ∀ X E, OkX p G k X (wE E) → ∀ c ∈ g.err, Gl X c → odd c = false → ∀ args is p pos, PA X args (rdA G C (wE E) is) → (∀ e ∈ args, isStar e = false) → (args = [] → is = .nil) → PMk X (.Call (.Name c p) args [] pos) (rdX G C (wE E) c is)
/-- a def that is compiled -/
theorem fn_comp {k : Nat} (kn : Kn g G C (OkX p G k)) (er : ErrOk p G g C k) {x qual : Str} {params : Arguments} {body : List Stmt} {scope : Scope} {dvs : List V} {kws : List (Str × V)} {f : Addr} {fd : FuncData} {N ps mu : List Str} {n : Nat} {b : Sms}
    (F : FunD G.K x qual params body scope dvs kws f fd) (S : FnScope N ps scope) (hc : compSs g N mu n scope body = some b) (hlm : LmV p G (qual ++ ".<locals>.") fd.code)
    {C' : Call} {nm : Str} (hC' : ∀ ds Q E, C' nm ds Q E → exSs G.B C b { nx := fun _ => Q (.v .non), rt := fun x _ => Q x } (startD N.length ds) E) : FnG p G C' (k + 1) f fd ps nm := by
  obtain ⟨oc, od, dV, kV, doc, pm, an, cdv, ct, osl, rfl, lk, hcd, _, _⟩ := F.ex
  intro A outer s H args us vs ds Q E hr hg e0 hb r rd tb hl h
  refine LamX.run_ofS (N := N) lk hcd S hr e0 hb r (by rw [← rd.length]; exact hl) fun hr2 => ⟨rdMs G C H E b, ?_, ?_⟩
  · have ok : OkX p G k (cxOf (L2.CX p.P p.w) p.P p.w G.K p.mg p.base N qual scope f cdv A outer s H E) (wE E) :=
      ⟨rfl, rfl, rfl, rfl, ⟨rfl, hr2.units, rfl, S.nd⟩, hr2, hg, takes_of rfl rfl rfl rfl, hlm, fun _ _ _ _ _ z => z⟩
    exact compSs_ok kn S.nd ⟨ok, passes_of rfl, takes_of rfl rfl rfl rfl, fun _ => rfl, by show Env.blockKind _ = _; unfold Env.blockKind; rw [show (cxOf (L2.CX p.P p.w) p.P p.w G.K p.mg p.base N qual scope f cdv A outer s H E).env.scope.kind = .function from S.kind]; rfl, S.kind, er _ E ok⟩ rfl rfl n body b hc
  · refine ⟨startD N.length ds, { nx := fun _ => qS G Q H (.v .non), rt := fun x _ => qS G Q H x }, ⟨RE.start rd, fun i xs t q e _ => ?_, LamX.ExtN.refl H, tb⟩, ⟨fun r' σ' H' si _ z => z _ H' .non si.ex si.tb, fun x v r' σ' H' si rr z => z v H' rr si.ex si.tb, fun _ _ _ _ _ z => z.elim, fun _ _ _ _ _ z => z.elim⟩, hC' _ _ _ h⟩
    obtain ⟨d, _, e2⟩ := startD_get e
    cases e2
/-! ### the call of a def -/
theorem run_G {k : Nat} {X : Cx} {W : WX} (ok : OkX p G k X W) {f : Addr} {fd : FuncData} {ps : List Str} {nm : Str} (F : FnG p G C k f fd ps nm) {pins : List (Addr × Obj)} {σ : St} {H : Hp} {s : Shared} {Q : VK} {args : Args} {us : List Value} {vs : List V} {ds : List D}
    (hb : BindsTo s fd args (ps.zip us)) (I : Inv X pins σ H s) (r : Vals vs us) (rd : RDs G.K H ds vs) (tb : Tb G H) (hl : ds.length = ps.length) (h : C nm ds (qS G Q H) (exq G W σ H)) :
    wpAny (model X.prog X.w) X.A (call (.ref f) args.pos args.kw) (EP X pins σ Q) X.xe s := by
  obtain ⟨e1, e2, e3, e4, bs, room, gd, tk, _, _⟩ := ok
  have e0 := I.env0
  rw [e1, e2, bs.K, e3, e4] at e0
  rw [e1, e2]
  refine wpAny_call (codeAny_mono (F X.A X.stack s H args us vs ds Q (fun cls d H' => W cls d σ H') room gd e0 hb r rd tb hl h) fun r s' hq => ?_)
  rw [← e1, ← e2] at hq
  cases r with
  | error e => exact tk e s' (XE.of_call I (fun cls d H' h => h) hq)
  | ok fl =>
    cases fl with
    | ret u => exact I.after hq
    | next => exact False.elim hq
    | brk => exact False.elim hq
    | cont => exact False.elim hq
theorem noStars {es : List Expr} {env : PySem.Env} {pos : Pos} (h : ∀ e ∈ es, isStar e = false) : (backTo pos (starEach es env)).any (·.1) = false := by
  induction es with
  | nil => rfl
  | cons e es ih =>
    rw [starEach_cons (h e List.mem_cons_self)]
    show (false || (backTo pos (starEach es env)).any (·.1)) = false
    rw [ih fun x hx => h x (List.mem_cons_of_mem _ hx)]
    rfl
/-- the promise of a def, for the rules of the layer that ask no guards -/
def spG (G : Cfg) (C : Call) (n : Nat) (nm : Str) : Sp := fun vs H Q E => ∃ ds, RDs G.K H ds vs ∧ Tb G H ∧ ds.length = n ∧ C nm ds (qS G Q H) (eS G E H)
theorem FnG.ok {k : Nat} {f : Addr} {fd : FuncData} {ps : List Str} {nm : Str} (hf : p.fl = false) (F : FnG p G C k f fd ps nm) : FnOk p.P p.w G.K p.mg p.base (L2.CX p.P p.w) k f fd ps (spG G C ps.length nm) :=
  ⟨fun vs H Q E ⟨ds, rd, _, hl, _⟩ => by rw [← rd.length]; exact hl, fun A outer s H args us vs Q E hr e0 hb r ⟨ds, rd, tb, hl, h⟩ => F A outer s H args us vs ds Q E hr (fun z => by rw [hf] at z; cases z) e0 hb r rd tb hl h⟩
theorem FnG.run {k : Nat} {f : Addr} {fd : FuncData} {ps : List Str} {nm : Str} (hf : p.fl = false) (F : FnG p G C k f fd ps nm) (hb : Binds G.K fd ps []) : FnR p.P p.w G.K p.mg p.base (L2.CX p.P p.w) k f (spG G C ps.length nm) :=
  fun A outer s H us vs Q E hr e0 r ⟨ds, rd, tb, hl, h⟩ => by
    have kin : G.K.In s.heap := e0.mod.kin.keeps fun b o e => (e0.bs b o e).1
    have b := hb s us kin (by rw [List.append_nil, ← r.length, ← rd.length]; exact hl)
    rw [List.append_nil] at b
    exact F A outer s H ⟨us, []⟩ us vs ds Q E hr (fun z => by rw [hf] at z; cases z) e0 b r rd tb hl h
end
end En
/-! En17: built-in functions and methods, by data. -/
namespace En
open PySem L2 PyProof.Rows
/-- the built-in type of a datum -/
def tyN : D → Option Tn
  | .non => some .none
  | .bl _ => some .bool
  | .int _ => some .int
  | .str _ => some .str
  | .tup _ => some .tuple
  | .lst _ => some .list
  | .dic _ => some .dict
  | _ => none
def subT (a b : Tn) : Bool := decide (a = b) || (decide (a = .bool) && decide (b = .int))
/-- what own classes are of -/
structure Sub where
  ok : Str → D → Option Bool
  own : List Str
  mok : Str → D → Bool
def unBl : List D → Option (List Bool)
  | [] => some []
  | .bl b :: r => (unBl r).map (b :: ·)
  | _ => none
def unInt : List D → Option (List Int)
  | [] => some []
  | .int b :: r => (unInt r).map (b :: ·)
  | _ => none
def unStr : List D → Option (List Str)
  | [] => some []
  | .str b :: r => (unStr r).map (b :: ·)
  | _ => none
def isiW (sub : Sub) : D → D → (Bool → Prop) → Prop
  | .obj c _, u, Q => ∃ b, sub.ok c u = some b ∧ Q b
  | x, .ty n, Q => ∃ a, tyN x = some a ∧ Q (subT a n)
  | x, .cls c, Q => c ∈ sub.own ∧ (tyN x).isSome = true ∧ Q false
  | _, _, _ => False
def lenW : D → (Int → Prop) → Prop
  | .lst xs, Q => Q xs.length
  | .tup xs, Q => Q xs.length
  | .str x, Q => x.length ≤ sizeLine ∧ Q x.length
  | .ntp xs, Q => Q xs.length
  | _, _ => False
/-- the built-in functions -/
def bltW (sub : Sub) (C : Call) : Bf → List D → (Rv → Prop) → Prop
  | .isi, [x, u], Q => isiW sub x u fun b => Q (.v (.bl b))
  | .len, [.obj c fs], Q => C "__len__" [.obj c fs] (fun r => ∃ n : Int, r = .v (.int n) ∧ 0 ≤ n ∧ n < 1000000 ∧ Q (.v (.int n))) E0
  | .len, [x], Q => lenW x fun n => Q (.v (.int n))
  | .all, [.lst xs], Q => ∃ bs, unBl xs = some bs ∧ Q (.v (.bl (bs.all id)))
  | .any, [.lst xs], Q => ∃ bs, unBl xs = some bs ∧ Q (.v (.bl (bs.any id)))
  | .tup, [.lst xs], Q => Q (.v (.tup xs))
  | .tup, [.tup xs], Q => Q (.v (.tup xs))
  | .lst, [.lst xs], Q => Q (.fr xs)
  | .lst, [.tup xs], Q => Q (.fr xs)
  | .str, [.obj c fs], Q => C "__str__" [.obj c fs] (fun r => ∃ x, r = .v (.str x) ∧ Q (.v (.str x))) E0
  | .str, [.int i], Q => i.natAbs.log2 < 1920 ∧ Q (.v (.str (toString i)))
  | .str, [.str x], Q => Q (.v (.str x))
  | .int, [.int i], Q => Q (.v (.int i))
  | .int, [.bl b], Q => Q (.v (.int (if b then 1 else 0)))
  | .int, [.str a], Q => ∃ n, PySem.intText? a = some n ∧ a.length ≤ 640 ∧ Q (.v (.int n))
  | .abs, [.int i], Q => Q (.v (.int (if i < 0 then -i else i)))
  | .min, [.int i, .int j], Q => Q (.v (.int (if j < i then j else i)))
  | .max, [.int i, .int j], Q => Q (.v (.int (if j > i then j else i)))
  | .sum, [.lst xs], Q => ∃ ns, unInt xs = some ns ∧ Q (.v (.int ns.sum))
  | .divmod, [.int i, .int j], Q => CDiv i j ∧ Q (.v (.tup [.int (i / j), .int (i % j)]))
  | .bool, [.int i], Q => Q (.v (.bl (i != 0)))
  | .bool, [.bl b], Q => Q (.v (.bl b))
  | .bool, [.obj c fs], Q => C "__bool__" [.obj c fs] (fun r => ∃ n : Int, r = .v (.int n) ∧ 0 ≤ n ∧ n < 1000000 ∧ Q (.v (.bl (n != 0)))) E0
  | .repr, [.obj c fs], Q => C "__repr__" [.obj c fs] (fun r => ∃ x, r = .v (.str x) ∧ Q (.v (.str x))) E0
  | .repr, [x], Q => isShw x = true ∧ (toPy x).showable = true ∧ (toPy x).depth ≤ 60 ∧ (toPy x).shown.length ≤ sizeLine ∧ Q (.v (.str (toPy x).shown))
  | .lrg, [.int j], Q => (0 ≤ j ∧ j ≤ 1000000) ∧ Q (.fr ((List.range j.toNat).map fun i => .int (i : Nat)))
  | .sorted, [.tup xs], Q => ∃ ys, unStr xs = some ys ∧ ys.length < 64 ∧ ∀ zs : List Str, zs.Perm ys → sortedS zs = true → Q (.fr (zs.map D.str))
  | .ntup, [.lst xs], Q => Q (.v (.ntp xs)) ∨ Q (.v (.tup xs))
  | _, _, _ => False
def joinW : D → List D → (Rv → Prop) → Prop
  | .str a, [.lst xs], Q => ∃ ys, unStr xs = some ys ∧ (ys.map (·.length)).sum + ys.length * a.length ≤ 16777216 ∧ Q (.v (.str (Txt.join a ys)))
  | .str a, [.tup xs], Q => ∃ ys, unStr xs = some ys ∧ (ys.map (·.length)).sum + ys.length * a.length ≤ 16777216 ∧ Q (.v (.str (Txt.join a ys)))
  | _, _, _ => False
def splitW : D → List D → (Rv → Prop) → Prop
  | .str a, [.str b], Q => (b.length == 0) = false ∧ a.length + 2 ≤ sizeLine ∧ Q (.fr ((Txt.split a b).map D.str))
  | _, _, _ => False
def countW : D → List D → (Rv → Prop) → Prop
  | .lst xs, [.int k], Q => ∃ ns, unInt xs = some ns ∧ Q (.v (.int (ns.count k : Nat)))
  | _, _, _ => False
/-- the first place of a text among texts -/
def indexW : D → List D → (Rv → Prop) → Prop
  | .lst xs, [.str z], Q => ∃ ys j, unStr xs = some ys ∧ ys[j]? = some z ∧ (∀ m, m < j → ys[m]? ≠ some z) ∧ Q (.v (.int (j : Nat)))
  | _, _, _ => False
/-- .. in a tuple of which it is known that it has nothing of its own -/
def tindexW : D → List D → (Rv → Prop) → Prop
  | .ntp xs, [.str z], Q => ∃ ys j, unStr xs = some ys ∧ ys[j]? = some z ∧ (∀ m, m < j → ys[m]? ≠ some z) ∧ Q (.v (.int (j : Nat)))
  | _, _, _ => False
def mthW : Mf → D → List D → (Rv → Prop) → Prop
  | .join => joinW
  | .split => splitW
  | .count => countW
  | .idl => indexW
  | .index => tindexW
  | _ => fun _ _ _ => False
def mtyW : Mf → D → Bool
  | .join, .str _ => true
  | .split, .str _ => true
  | .count, .lst _ => true
  | .idl, .lst _ => true
  | .index, .ntp _ => true
  | _, _ => false
def libW (sub : Sub) : Lib := ⟨fun C b ds Q _ => bltW sub C b ds Q, mthW, mtyW, sub.mok⟩
theorem isiW_mono {sub : Sub} {x u : D} {Q Q' : Bool → Prop} (h : ∀ b, Q b → Q' b) (z : isiW sub x u Q) : isiW sub x u Q' := by
  unfold isiW at z ⊢
  split at z <;> first
    | (obtain ⟨b, e, z⟩ := z; exact ⟨b, e, h _ z⟩)
    | exact ⟨z.1, z.2.1, h _ z.2.2⟩
    | exact z.elim
theorem lenW_mono {x : D} {Q Q' : Int → Prop} (h : ∀ b, Q b → Q' b) (z : lenW x Q) : lenW x Q' := by
  unfold lenW at z ⊢
  split at z <;> first
    | exact h _ z
    | exact ⟨z.1, h _ z.2⟩
    | exact z.elim
theorem libW_mono (sub : Sub) : (libW sub).Mono := by
  refine ⟨fun C hC b ds Q Q' E E' hq he z => ?_, fun m x ds Q Q' hq z => ?_⟩
  · have z : bltW sub C b ds Q := z
    show bltW sub C b ds Q'
    unfold bltW at z ⊢
    split at z
    case h_1 => exact isiW_mono (fun _ z => hq _ z) z
    case h_2 => exact hC _ _ _ _ _ _ (fun r ⟨n, e, h1, h2, z⟩ => ⟨n, e, h1, h2, hq _ z⟩) (fun _ _ z => z) z
    case h_3 => exact lenW_mono (fun _ z => hq _ z) z
    case h_10 => exact hC _ _ _ _ _ _ (fun r ⟨x, e, z⟩ => ⟨x, e, hq _ z⟩) (fun _ _ z => z) z
    case h_23 => exact hC _ _ _ _ _ _ (fun r ⟨n, e, h1, h2, z⟩ => ⟨n, e, h1, h2, hq _ z⟩) (fun _ _ z => z) z
    case h_24 => exact hC _ _ _ _ _ _ (fun r ⟨x, e, z⟩ => ⟨x, e, hq _ z⟩) (fun _ _ z => z) z
    case h_25 => exact ⟨z.1, z.2.1, z.2.2.1, z.2.2.2.1, hq _ z.2.2.2.2⟩
    all_goals first
      | exact hq _ z
      | exact ⟨z.1, hq _ z.2⟩
      | (obtain ⟨b, e, z⟩ := z; exact ⟨b, e, hq _ z⟩)
      | (obtain ⟨b, e, e2, z⟩ := z; exact ⟨b, e, e2, hq _ z⟩)
      | (obtain ⟨b, e, e2, z⟩ := z; exact ⟨b, e, e2, fun zs h1 h2 => hq _ (z zs h1 h2)⟩)
      | exact z.elim (fun z => .inl (hq _ z)) fun z => .inr (hq _ z)
      | exact z.elim
  · have z : mthW m x ds Q := z
    show mthW m x ds Q'
    cases m with
    | join =>
      have z : joinW x ds Q := z
      show joinW x ds Q'
      unfold joinW at z ⊢
      split at z
      all_goals first
        | (obtain ⟨b, e, e2, z⟩ := z; exact ⟨b, e, e2, hq _ z⟩)
        | exact z.elim
    | split =>
      have z : splitW x ds Q := z
      show splitW x ds Q'
      unfold splitW at z ⊢
      split at z
      all_goals first
        | exact ⟨z.1, z.2.1, hq _ z.2.2⟩
        | exact z.elim
    | index =>
      have z : tindexW x ds Q := z
      show tindexW x ds Q'
      unfold tindexW at z ⊢
      split at z
      all_goals first
        | (obtain ⟨ys, j, e, e2, e3, z⟩ := z; exact ⟨ys, j, e, e2, e3, hq _ z⟩)
        | exact z.elim
    | idl =>
      have z : indexW x ds Q := z
      show indexW x ds Q'
      unfold indexW at z ⊢
      split at z
      all_goals first
        | (obtain ⟨ys, j, e, e2, e3, z⟩ := z; exact ⟨ys, j, e, e2, e3, hq _ z⟩)
        | exact z.elim
    | count =>
      have z : countW x ds Q := z
      show countW x ds Q'
      unfold countW at z ⊢
      split at z
      all_goals first
        | (obtain ⟨b, e, z⟩ := z; exact ⟨b, e, hq _ z⟩)
        | exact z.elim
    | _ => exact (show False from z).elim
section
variable {X : Cx} {G : Cfg}
theorem unBl_ok {K : PySem.W.Frag} {H : Hp} : ∀ {xs : List D} {bs : List Bool} {us : List V}, unBl xs = some bs → RDs K H xs us → us = bs.map V.bl
  | [], bs, us, h, r => by
    cases r
    cases h
    rfl
  | x :: xs, bs, us, h, r => by
    cases r with
    | cons r1 r2 =>
      cases r1 <;> first
        | (simp only [unBl, Option.map_eq_some_iff] at h
           obtain ⟨bs', h1, h2⟩ := h
           rw [← h2, unBl_ok h1 r2]
           rfl)
        | cases h
theorem unInt_ok {K : PySem.W.Frag} {H : Hp} : ∀ {xs : List D} {bs : List Int} {us : List V}, unInt xs = some bs → RDs K H xs us → us = bs.map V.int
  | [], bs, us, h, r => by
    cases r
    cases h
    rfl
  | x :: xs, bs, us, h, r => by
    cases r with
    | cons r1 r2 =>
      cases r1 <;> first
        | (simp only [unInt, Option.map_eq_some_iff] at h
           obtain ⟨bs', h1, h2⟩ := h
           rw [← h2, unInt_ok h1 r2]
           rfl)
        | cases h
theorem unStr_ok {K : PySem.W.Frag} {H : Hp} : ∀ {xs : List D} {bs : List Str} {us : List V}, unStr xs = some bs → RDs K H xs us → us = bs.map V.str
  | [], bs, us, h, r => by
    cases r
    cases h
    rfl
  | x :: xs, bs, us, h, r => by
    cases r with
    | cons r1 r2 =>
      cases r1 <;> first
        | (simp only [unStr, Option.map_eq_some_iff] at h
           obtain ⟨bs', h1, h2⟩ := h
           rw [← h2, unStr_ok h1 r2]
           rfl)
        | cases h
theorem strs_rd {K : PySem.W.Frag} {H : Hp} : ∀ ys : List Str, RDs K H (ys.map D.str) (ys.map V.str)
  | [] => .nil
  | y :: ys => .cons (.str y) (strs_rd ys)
/-- the type of a value -/
theorem tyX_of {K : PySem.W.Frag} {H : Hp} {x : D} {v : V} {a : Tn} (h : RB K H x v) (e : tyN x = some a) : TyX K H v (.type a.nm) := by
  rcases h with h | ⟨xs, p, us, e1, e2, e3, r⟩
  · cases h with
    | non => cases e; exact .base .non
    | bl b => cases e; exact .base (.bl b)
    | int i => cases e; exact .base (.int i)
    | str y => cases e; exact .base (.str y)
    | @tup a xs ds hq rs =>
      cases e
      rcases hq with (hq | ⟨o, hq⟩) | hq
      · exact .base (.tup hq)
      · exact .fTuple hq
      · obtain ⟨o, _, _, hk, hc, _⟩ := hq
        exact .kTuple hk hc
    | lst hq rs =>
      cases e
      rcases hq with ⟨o, hq⟩ | ⟨_, _, hk, _⟩
      · exact .base (.frz hq)
      · exact .kList hk rfl
    | dic hq _ _ => cases e; exact .fDict hq
    | _ => cases e
  · subst e1 e2
    cases e
    exact .base (.lst e3)
theorem sub_kit (a b : Tn) : kitB a.nm b.nm = some (subT a b) := by
  cases a <;> cases b <;> decide +kernel
end
end En
namespace En
open PySem L2 PyProof.Rows TL
/-! Xs1: sorted of a tuple of texts. -/
section
variable {prog : Program} {w : World} {A : Around} {E : Value → Shared → Prop} {s : Shared}
theorem coll_tup {a : Addr} {us : List Value} {F : List Value → Shared → Prop} (ht : IsTup s.heap a us.toArray)
    (q : F us { s with heap := (s.heap.push (seqObj "list" #[] 0)).update s.heap.objs.size (Obj.mapSeq (· ++ us.toArray)) }) (hl : us.length ≤ sizeLine) :
    wpAny (model prog w) A (collect (.ref a)) F E s := by
  obtain ⟨ob, h1, h2, m, h3⟩ := id ht
  unfold collect
  refine wpAny_bind (wpAny_runValue (codeAny_builtin entry_proto_collect' ?_))
  show wpAny _ _ (do again (.builtin "list.__iadd__" ⟨[← newList [], .ref a], []⟩)) _ _ s
  refine wpAny_bind (wpAny_newList (wpAny_pure ⟨Code.quiet_builtin _ (by decide +kernel), codeAny_builtin entry_list_iadd' ?_⟩))
  show wpAny _ _ (Builtin.List.listExtendWith (.ref s.heap.objs.size) (.ref a) (.ref s.heap.objs.size)) _ _ { s with heap := s.heap.push (seqObj "list" #[] 0) }
  unfold Builtin.List.listExtendWith
  have h1' : (s.heap.push (seqObj "list" #[] 0)).get? a = some ob := Heap.get?_push_of_some _ h1
  refine wpAny_bind (wpAny_typeOf (T := "tuple") ⟨ob, h1', h2⟩ ?_)
  have et : (Value.type "tuple" == Value.type "tuple") = true := by rfl
  rw [if_pos (by rw [et]; simp)]
  refine wpAny_bind (listItems_at h1' h3 ?_)
  refine wpAny_bind (listItems_at (xs := #[]) (n := 0) (Heap.get?_push_size _ rfl) rfl ?_)
  rw [if_neg (by simp)]
  refine wpAny_bind (listUpdate_at (xs := #[]) (n := 0) (Heap.get?_push_size _ rfl) rfl ?_ (Nat.zero_le _) (by show (#[] ++ us.toArray).size ≤ sizeLine + 1; simp only [Array.size_append, List.size_toArray, List.length_nil]; omega))
  refine wpAny_pure ?_
  show wpAny (model prog w) A (do
      let ob ← load s.heap.objs.size
      match ob.data with
      | .seq ys _ => pure ys.toList
      | _ => unsupported "internal:collect") F E { s with heap := (s.heap.push (seqObj "list" #[] 0)).update s.heap.objs.size (Obj.mapSeq (· ++ us.toArray)) }
  refine wpAny_bind (wpAny_load (get?_update_seq (Heap.get?_push_size _ rfl) _) ?_)
  show wpAny _ _ (pure ((#[] : Array Value) ++ us.toArray).toList) F E _
  rw [show ((#[] : Array Value) ++ us.toArray).toList = us by simp]
  exact wpAny_pure q
theorem sorted_tupS {a : Addr} {us : List Value} {zs : List Str} {F : Value → Shared → Prop} (ht : IsTup s.heap a us.toArray) (hS : StrsAre us zs) (h64 : us.length < 64)
    (q : ∀ (out : Array Value) (ys : List Str), StrsAre out.toList ys → ys.Perm zs → sortedS ys = true → F (.ref (s.heap.objs.size + 1)) { s with heap := sortedAll s.heap us out }) :
    wpAny (model prog w) A (call (.builtin "sorted") [.ref a]) F E s := by
  refine Calls.call_function_entry kind_sorted plain_sorted entry_sorted (args_sorted1 _) ?_
  unfold Builtin.«sorted»
  refine wpAny_bind (m := checkCount "sorted" 1 1 _) (wpAny_pure ?_)
  refine wpAny_bind (coll_tup ht ?_ (by rw [sizeLine_eq]; omega))
  refine wpAny_bind (wpAny_newList ?_)
  have e1 : ((s.heap.push (seqObj "list" #[] 0)).update s.heap.objs.size (Obj.mapSeq (· ++ us.toArray))).objs.size = s.heap.objs.size + 1 := by
    rw [Heap.size_update, size_push']
  have e2 : (((s.heap.push (seqObj "list" #[] 0)).update s.heap.objs.size (Obj.mapSeq (· ++ us.toArray))).push (seqObj "list" us.toArray 0)).get? (s.heap.objs.size + 1) = some (seqObj "list" us.toArray 0) := by
    rw [← e1]; exact Heap.get?_push_size _ rfl
  show wpAny _ _ _ _ _ { s with heap := ((s.heap.push (seqObj "list" #[] 0)).update s.heap.objs.size (Obj.mapSeq (· ++ us.toArray))).push (seqObj "list" us.toArray 0) }
  rw [e1]
  refine wpAny_bind (wpAny_holding (wpAny_call_entry slot_list_sort ⟨_, e2, rfl⟩ entry_list_sort (list_sort_treeK strKind_oneLt e2 hS.keysOf (fun v₁ v₂ rest e => keyKind_strs (by rw [← e]; exact hS)) h64 fun st' b1 b2 => ⟨_, rfl, ?_⟩) (args_list_sort _)))
  obtain ⟨ys, g1, g2, g3⟩ := sorted_out_str hS b1 b2
  exact wpAny_pure ⟨_, rfl, q _ ys g1 g2 g3⟩
end
section
variable {X : Cx}
theorem cr_srtT : CallR X (.builtin "sorted") (fun vs H Q => ∃ (a : Addr) (zs : List Str), vs = [V.ref a] ∧ SqT X.K H a (zs.map V.str) ∧ zs.length < 64 ∧ ∀ (ys : List Str) (p : Addr), ys.Perm zs → sortedS ys = true → H p = none → Q (.ref p) (upd H p (.lst (ys.map V.str)))) := by
  intro pins s σ H vs us Q I r h
  obtain ⟨a, zs, rfl, hs, h64, q⟩ := h
  obtain ⟨its, rv, hl, _⟩ := I.tuple hs
  rw [Vals.ref1 r]
  have e0 := rv.length
  rw [List.length_map] at e0
  refine sorted_tupS hl rv.strs (by rw [← e0]; exact h64) fun out ys h1 h2 h3 => ?_
  obtain ⟨ep, e1⟩ := PyProof.Rows.sortedAll_at s.heap its out
  have e2 : (ys.map V.str).length ≤ sizeLine := by rw [List.length_map, h2.length_eq]; exact small64 h64
  exact ⟨.ref _, upd H (s.heap.objs.size + 1) (.lst (ys.map V.str)), I.laid (t' := s.toks) (fun _ _ => PyProof.Rows.sortedAll_old) (Nat.le_succ _) ⟨e2, out.toList, ep, vals_of_strs h1, e1⟩, rfl, q ys _ h2 h3 (I.hok.fresh (Nat.le_succ _))⟩
end
end En
/-! En18: the built-in functions are as bltW says. -/
namespace En
open PySem L2 PyProof.Rows
def bfV : Bf → Option Value
  | .isi => some (.builtin "isinstance")
  | .len => some (.builtin "len")
  | .all => some (.builtin "all")
  | .any => some (.builtin "any")
  | .tup => some (.type "tuple")
  | .ntup => some (.type "tuple")
  | .lst => some (.type "list")
  | .str => some (.type "str")
  | .int => some (.type "int")
  | .abs => some (.builtin "abs")
  | .min => some (.builtin "min")
  | .max => some (.builtin "max")
  | .sum => some (.builtin "sum")
  | .bool => some (.type "bool")
  | .repr => some (.builtin "repr")
  | .divmod => some (.builtin "divmod")
  | .sorted => some (.builtin "sorted")
  | _ => none
def isOb : List D → Bool
  | .obj _ _ :: _ => true
  | _ => false
/-- what a built-in does, told of values; L: its meaning -/
def rBlt (G : Cfg) (L : List D → (Rv → Prop) → Prop) : List V → Hp → VK → Prop := fun vs H Q => ∃ ds, RBs G.K H ds vs ∧ Tb G H ∧ L ds (fin G H Q)
/-- what is known of own classes -/
structure Own (G : Cfg) (sub : Sub) : Prop where
  cls : ∀ c ∈ sub.own, ∀ a : Tn, PySem.W.kitOne G.K (.type a.nm) (.ref (He.ga G.K c)) = some false
  sub : ∀ c u b, sub.ok c u = some b → SlX.SCls G.K (He.ga G.K c) ∧ SlX.SIsi G.K (He.ga G.K c) ∧ ((∃ n, u = .ty n ∧ PySem.W.kitOne G.K (.ref (He.ga G.K c)) (.type n.nm) = some b) ∨ ∃ c', u = .cls c' ∧ PySem.W.kitOne G.K (.ref (He.ga G.K c)) (.ref (He.ga G.K c')) = some b)
theorem rbs1 {K : PySem.W.Frag} {H : Hp} {x : D} {vs : List V} (h : RBs K H [x] vs) : ∃ v, vs = [v] ∧ RB K H x v := by
  cases h with
  | cons r t =>
    cases t
    exact ⟨_, rfl, r⟩
theorem rbs2 {K : PySem.W.Frag} {H : Hp} {x y : D} {vs : List V} (h : RBs K H [x, y] vs) : ∃ v u, vs = [v, u] ∧ RB K H x v ∧ RB K H y u := by
  cases h with
  | cons r t =>
    cases t with
    | cons r2 t =>
      cases t
      exact ⟨_, _, rfl, r, r2⟩
theorem CallR.imp {X : Cx} {f : Value} {r r' : List V → Hp → VK → Prop} (h : CallR X f r) (w : ∀ vs H Q, r' vs H Q → r vs H Q) : CallR X f r' := fun pins s σ H xs us Q I rv q => h pins s σ H xs us Q I rv (w xs H Q q)
section
variable {X : Cx} {G : Cfg} {sub : Sub} {C : Call}
theorem isi_ok (hK : X.K = G.K) (ow : Own G sub) : CallR X (.builtin "isinstance") (rBlt G fun ds Q => ∃ x u, ds = [x, u] ∧ isiW sub x u fun b => Q (.v (.bl b))) := by
  intro pins s σ H xs us Q I rv ⟨ds, rb, tb, x, u, e, z⟩
  subst e
  obtain ⟨v, w, rfl, rx, ru⟩ := rbs2 rb
  unfold isiW at z
  split at z
  · rename_i c fs _
    obtain ⟨b, e, z⟩ := z
    obtain ⟨h1, h2, h3⟩ := ow.sub _ _ _ e
    have q := fin_same tb z (.bl b)
    cases rx.rd (fun _ z => nomatch z) with
    | obj hs rs =>
      rcases h3 with ⟨n, e, k⟩ | ⟨c', e, k⟩
      · subst e
        cases ru.rd (fun _ z => nomatch z)
        exact SlX.call_isiSl (.type n.nm) pins s σ H _ us Q I rv ⟨_, _, _, _, _, b, rfl, rfl, fun w r => r, hs, by rw [hK]; exact h1, by rw [hK]; exact h2, by rw [hK]; exact k, q⟩
      · subst e
        cases ru.rd (fun _ z => nomatch z)
        exact SlX.call_isiSl (.ref (He.ga G.K c')) pins s σ H _ us Q I rv ⟨_, _, _, _, _, b, rfl, rfl, fun w r => r, hs, by rw [hK]; exact h1, by rw [hK]; exact h2, by rw [hK]; exact k, q⟩
  · rename_i n _
    obtain ⟨a, e, z⟩ := z
    cases ru.rd (fun _ z => nomatch z)
    refine call_isi pins s σ H _ us Q I rv ⟨_, _, _, _, _, rfl, .ty _, by rw [hK]; exact tyX_of rx e, kit_ty (sub_kit a n), fin_same tb z (.bl _)⟩
  · rename_i c _
    obtain ⟨ho, e, z⟩ := z
    obtain ⟨a, e⟩ := Option.isSome_iff_exists.mp e
    cases ru.rd (fun _ z => nomatch z)
    refine call_isi pins s σ H _ us Q I rv ⟨_, _, _, _, _, rfl, .own _, by rw [hK]; exact tyX_of rx e, by rw [hK]; exact ow.cls c ho a, fin_same tb z (.bl _)⟩
  · exact z.elim
theorem len_ok (hK : X.K = G.K) : CallR X (.builtin "len") (rBlt G fun ds Q => ∃ x, ds = [x] ∧ lenW x fun n => Q (.v (.int n))) := by
  refine CallR.imp call_len fun vs H Q ⟨ds, rb, tb, x, e, z⟩ => ?_
  subst e
  obtain ⟨v, rfl, rx⟩ := rbs1 rb
  unfold lenW at z
  split at z
  · obtain ⟨p, us, e, hq, rs⟩ := rx.lst
    subst e
    rw [rs.length] at z
    exact ⟨_, us.length, rfl, .inl ⟨us, by rw [hK]; exact hq, rfl⟩, fin_same tb z (.int _)⟩
  · obtain ⟨p, us, e, hq, rs⟩ := rx.tup
    subst e
    rw [rs.length] at z
    exact ⟨_, us.length, rfl, .inr ⟨us, by rw [hK]; exact hq, rfl⟩, fin_same tb z (.int _)⟩
  · rename_i y
    cases rx.str
    exact ⟨_, y.length, rfl, ⟨z.1, rfl⟩, fin_same tb z.2 (.int _)⟩
  · rcases rx with rx | ⟨_, _, _, e, _⟩
    · cases rx with
      | ntp h _ rs =>
        rw [rs.length] at z
        exact ⟨_, _, rfl, .inr ⟨_, .inl (.inr ⟨_, h⟩), rfl⟩, fin_same tb z (.int _)⟩
    · cases e
  · exact z.elim
theorem all_ok (hK : X.K = G.K) (hc : X.calm = true) : CallR X (.builtin "all") (rBlt G fun ds Q => ∃ xs bs, ds = [.lst xs] ∧ unBl xs = some bs ∧ Q (.v (.bl (bs.all id)))) := by
  refine CallR.imp (cr_all hc) fun vs H Q ⟨ds, rb, tb, xs, bs, e, eb, z⟩ => ?_
  subst e
  obtain ⟨v, rfl, rx⟩ := rbs1 rb
  obtain ⟨p, us, e, hq, rs⟩ := rx.lst
  subst e
  rw [unBl_ok eb rs] at hq
  exact ⟨p, bs, rfl, by rw [hK]; exact hq, fin_same tb z (.bl _)⟩
theorem any_ok (hK : X.K = G.K) (hc : X.calm = true) : CallR X (.builtin "any") (rBlt G fun ds Q => ∃ xs bs, ds = [.lst xs] ∧ unBl xs = some bs ∧ Q (.v (.bl (bs.any id)))) := by
  refine CallR.imp (cr_any hc) fun vs H Q ⟨ds, rb, tb, xs, bs, e, eb, z⟩ => ?_
  subst e
  obtain ⟨v, rfl, rx⟩ := rbs1 rb
  obtain ⟨p, us, e, hq, rs⟩ := rx.lst
  subst e
  rw [unBl_ok eb rs] at hq
  exact ⟨p, bs, rfl, by rw [hK]; exact hq, fin_same tb z (.bl _)⟩
theorem sum_ok (hK : X.K = G.K) (hc : X.calm = true) : CallR X (.builtin "sum") (rBlt G fun ds Q => ∃ xs ns, ds = [.lst xs] ∧ unInt xs = some ns ∧ Q (.v (.int ns.sum))) := by
  refine CallR.imp (cr_sum hc) fun vs H Q ⟨ds, rb, tb, xs, bs, e, eb, z⟩ => ?_
  subst e
  obtain ⟨v, rfl, rx⟩ := rbs1 rb
  obtain ⟨p, us, e, hq, rs⟩ := rx.lst
  subst e
  rw [unInt_ok eb rs] at hq
  exact ⟨p, bs, rfl, by rw [hK]; exact hq, fin_same tb z (.int _)⟩
theorem tup_ok (hK : X.K = G.K) : CallR X (.type "tuple") (rBlt G fun ds Q => ∃ xs, (ds = [.lst xs] ∨ ds = [.tup xs]) ∧ Q (.v (.tup xs))) := by
  refine CallR.imp call_tuple_of fun vs H Q ⟨ds, rb, tb, xs, e, z⟩ => ?_
  rcases e with e | e
  · subst e
    obtain ⟨v, rfl, rx⟩ := rbs1 rb
    obtain ⟨p, us, e, hq, rs⟩ := rx.lst
    subst e
    exact ⟨p, us, rfl, .inl ⟨by rw [hK]; exact hq, fun l hl => fin_tup tb z rs l hl⟩⟩
  · subst e
    obtain ⟨v, rfl, rx⟩ := rbs1 rb
    have rx' := rx.rd (fun _ z => nomatch z)
    obtain ⟨p, us, e, hq, rs⟩ := rx.tup
    subst e
    exact ⟨p, us, rfl, .inr ⟨by rw [hK]; exact hq, fin_same tb z rx'⟩⟩
/-- tuple(xs): a tuple that has nothing of its own -/
theorem call_ntup : CallR X (.type "tuple") (fun xs H Q => ∃ p ys, xs = [.ref p] ∧ SqL X.K H p ys ∧ ∀ l o, H l = none → o.dict = none → Q (.ref l) (upd H l (.frz o (.tup ys)))) := by
  intro pins s σ H xs us Q I r h
  obtain ⟨p, ys, rfl, hq, q⟩ := h
  obtain ⟨u, rfl, rx⟩ := vals1 r
  cases rx
  obtain ⟨its, r', pl, hz⟩ := I.list hq
  have hlen := r'.length
  refine call_tuple_list pl.isList (fun h' kp => ?_) (by simp only [List.size_toArray] <;> omega)
  have I1 : Inv X pins σ H { s with heap := h' } := I.kept (t' := s.toks) kp
  have I2 : Inv X pins σ (upd H h'.objs.size (.frz { cls := .type "tuple", data := .seq its.toArray } (.tup ys))) { s with heap := h'.push { cls := .type "tuple", data := .seq its.toArray } } :=
    I1.laid (t' := s.toks) (fun b o e => Heap.get?_push_of_some _ e) (Nat.le_refl _) (show ObjOk X.prog X.w _ _ _ (.frz _ (.tup ys)) from ⟨Heap.get?_push_size _ rfl, hz, its, r', IsTup.new _ _⟩)
  exact ⟨.ref h'.objs.size, _, I2, rfl, q _ _ (I1.hok.fresh (Nat.le_refl _)) rfl⟩
theorem ntup_ok (hK : X.K = G.K) : CallR X (.type "tuple") (rBlt G fun ds Q => ∃ xs, ds = [.lst xs] ∧ (Q (.v (.ntp xs)) ∨ Q (.v (.tup xs)))) := by
  refine CallR.imp call_ntup fun vs H Q ⟨ds, rb, tb, xs, e, z⟩ => ?_
  subst e
  obtain ⟨v, rfl, rx⟩ := rbs1 rb
  obtain ⟨p, us, e, hq, rs⟩ := rx.lst
  subst e
  refine ⟨p, us, rfl, by rw [hK]; exact hq, fun l o hl ho => ?_⟩
  have x1 : ExN H (upd H l (.frz o (.tup us))) := ExN.new hl
  rcases z with z | z
  · exact z (.ref l) _ (.ntp upd_same ho (rs.stb (ExN.stb x1))) x1 (Tabs.new tb hl)
  · exact z (.ref l) _ (.tup (.inl (.inr ⟨_, upd_same⟩)) (rs.stb (ExN.stb x1))) x1 (Tabs.new tb hl)
theorem lst_ok (hK : X.K = G.K) : CallR X (.type "list") (rBlt G fun ds Q => ∃ xs, (ds = [.lst xs] ∨ ds = [.tup xs]) ∧ Q (.fr xs)) := by
  refine CallR.imp call_list_of fun vs H Q ⟨ds, rb, tb, xs, e, z⟩ => ?_
  rcases e with e | e
  · subst e
    obtain ⟨v, rfl, rx⟩ := rbs1 rb
    obtain ⟨p, us, e, hq, rs⟩ := rx.lst
    subst e
    exact ⟨p, us, rfl, .inl (by rw [hK]; exact hq), fun l hl => fin_fr tb z rs l hl⟩
  · subst e
    obtain ⟨v, rfl, rx⟩ := rbs1 rb
    obtain ⟨p, us, e, hq, rs⟩ := rx.tup
    subst e
    exact ⟨p, us, rfl, .inr (by rw [hK]; exact hq), fun l hl => fin_fr tb z rs l hl⟩
theorem str_ok : CallR X (.type "str") (rBlt G fun ds Q => (∃ i : Int, ds = [.int i] ∧ i.natAbs.log2 < 1920 ∧ Q (.v (.str (toString i)))) ∨ ∃ x, ds = [.str x] ∧ Q (.v (.str x))) := by
  refine CallR.imp (CallR.or call_str_int SkE.call_str_str) fun vs H Q ⟨ds, rb, tb, z⟩ => ?_
  rcases z with ⟨i, e, h, z⟩ | ⟨x, e, z⟩
  · subst e
    obtain ⟨v, rfl, rx⟩ := rbs1 rb
    cases rx.int
    exact .inl ⟨i, rfl, h, fin_same tb z (.str _)⟩
  · subst e
    obtain ⟨v, rfl, rx⟩ := rbs1 rb
    cases rx.str
    exact .inr ⟨x, rfl, fin_same tb z (.str _)⟩
theorem int_ok : CallR X (.type "int") (rBlt G fun ds Q => (∃ i : Int, ds = [.int i] ∧ Q (.v (.int i))) ∨ (∃ b, ds = [.bl b] ∧ Q (.v (.int (if b then 1 else 0)))) ∨ ∃ a n, ds = [.str a] ∧ PySem.intText? a = some n ∧ a.length ≤ 640 ∧ Q (.v (.int n))) := by
  refine CallR.imp (CallR.or call_int1 call_int_str) fun vs H Q ⟨ds, rb, tb, z⟩ => ?_
  rcases z with ⟨i, e, z⟩ | ⟨b, e, z⟩ | ⟨a, n, e, h1, h2, z⟩
  · subst e
    obtain ⟨v, rfl, rx⟩ := rbs1 rb
    cases rx.int
    exact .inl (.inl ⟨i, rfl, fin_same tb z (.int _)⟩)
  · subst e
    obtain ⟨v, rfl, rx⟩ := rbs1 rb
    cases rx.bl
    exact .inl (.inr ⟨b, rfl, fin_same tb z (.int _)⟩)
  · subst e
    obtain ⟨v, rfl, rx⟩ := rbs1 rb
    cases rx.str
    exact .inr ⟨a, n, rfl, h1, h2, fin_same tb z (.int _)⟩
theorem bool_ok : CallR X (.type "bool") (rBlt G fun ds Q => (∃ i : Int, ds = [.int i] ∧ Q (.v (.bl (i != 0)))) ∨ ∃ b, ds = [.bl b] ∧ Q (.v (.bl b))) := by
  refine CallR.imp call_bool1 fun vs H Q ⟨ds, rb, tb, z⟩ => ?_
  rcases z with ⟨i, e, z⟩ | ⟨b, e, z⟩
  · subst e
    obtain ⟨v, rfl, rx⟩ := rbs1 rb
    cases rx.int
    exact .inl ⟨i, rfl, fin_same tb z (.bl _)⟩
  · subst e
    obtain ⟨v, rfl, rx⟩ := rbs1 rb
    cases rx.bl
    exact .inr ⟨b, rfl, fin_same tb z (.bl _)⟩
theorem abs_ok : CallR X (.builtin "abs") (rBlt G fun ds Q => ∃ i : Int, ds = [.int i] ∧ Q (.v (.int (if i < 0 then -i else i)))) := by
  refine CallR.imp call_abs fun vs H Q ⟨ds, rb, tb, i, e, z⟩ => ?_
  subst e
  obtain ⟨v, rfl, rx⟩ := rbs1 rb
  cases rx.int
  exact ⟨i, rfl, fin_same tb z (.int _)⟩
theorem min_ok (hc : X.calm = true) : CallR X (.builtin "min") (rBlt G fun ds Q => ∃ i j : Int, ds = [.int i, .int j] ∧ Q (.v (.int (if j < i then j else i)))) := by
  refine CallR.imp (call_min2 hc) fun vs H Q ⟨ds, rb, tb, i, j, e, z⟩ => ?_
  subst e
  obtain ⟨v, w, rfl, rx, ry⟩ := rbs2 rb
  cases rx.int
  cases ry.int
  exact ⟨i, j, rfl, fin_same tb z (.int _)⟩
theorem max_ok (hc : X.calm = true) : CallR X (.builtin "max") (rBlt G fun ds Q => ∃ i j : Int, ds = [.int i, .int j] ∧ Q (.v (.int (if j > i then j else i)))) := by
  refine CallR.imp (call_max2 hc) fun vs H Q ⟨ds, rb, tb, i, j, e, z⟩ => ?_
  subst e
  obtain ⟨v, w, rfl, rx, ry⟩ := rbs2 rb
  cases rx.int
  cases ry.int
  exact ⟨i, j, rfl, fin_same tb z (.int _)⟩
theorem dvm_ok : CallR X (.builtin "divmod") (rBlt G fun ds Q => ∃ i j : Int, ds = [.int i, .int j] ∧ CDiv i j ∧ Q (.v (.tup [.int (i / j), .int (i % j)]))) := by
  refine CallR.imp call_divmod fun vs H Q ⟨ds, rb, tb, i, j, e, hd, z⟩ => ?_
  subst e
  obtain ⟨v, w, rfl, rx, ry⟩ := rbs2 rb
  cases rx.int
  cases ry.int
  exact ⟨i, j, rfl, hd, fun p hp => fin_tup tb z (.cons (.int _) (.cons (.int _) .nil)) p hp⟩
mutual
theorem toPy_noDict : ∀ d : D, isDat d = true → (toPy d).hasDict = false
  | .non, _ => by simp only [toPy, PyData.hasDict]
  | .bl _, _ => by simp only [toPy, PyData.hasDict]
  | .int _, _ => by simp only [toPy, PyData.hasDict]
  | .str _, _ => by simp only [toPy, PyData.hasDict]
  | .tup xs, h => by
    simp only [toPy, PyData.hasDict]
    unfold isDat at h
    exact toPys_noDict xs h
  | .lst xs, h => by
    simp only [toPy, PyData.hasDict]
    unfold isDat at h
    exact toPys_noDict xs h
theorem toPys_noDict : ∀ d : List D, isDats d = true → PyData.hasDictAll (toPys d) = false
  | [], _ => by simp only [toPys, PyData.hasDictAll]
  | x :: r, h => by
    unfold isDats at h
    have h := Bool.and_eq_true_iff.mp h
    simp only [toPys, PyData.hasDictAll, toPy_noDict x h.1, toPys_noDict r h.2]
    rfl
end
/-- the rows of a dict of flat data are read -/
theorem dic_reads {P : Program} {w : World} {K : PySem.W.Frag} {H : Hp} {h : Heap} : ∀ {es : List DictEntry} {qs : List (Key × Value)} {kvs : List (Key × D)} {xs : List V}, Pairs (mixKind P w) es qs → KV ((kvs.map (·.1)).zip xs) qs → xs.length = kvs.length → RDs K H (kvs.map (·.2)) xs → dicOk kvs = true →
    ReadsAll h (es.map (·.key)) ((kvs.map fun e => (keyPy e.1, flatPy e.2)).map (·.1)) [] ∧ ReadsAll h (es.map (·.val)) ((kvs.map fun e => (keyPy e.1, flatPy e.2)).map (·.2)) []
  | _, _, [], xs, p, kv, l, r, _ => by
    cases r
    cases kv
    cases p
    exact ⟨.nil, .nil⟩
  | _, _, (k, d) :: kvs, xs, p, kv, l, r, ok => by
    cases r with
    | cons r1 r2 =>
      rename_i v vs
      replace kv : KV ((k, v) :: (kvs.map (·.1)).zip vs) _ := kv
      cases kv with
      | cons hq kv2 =>
        rename_i q qs
        cases p with
        | cons p1 p2 p3 =>
          rename_i e es
          have ok2 : dicOk kvs = true := by
            cases d <;> first
              | exact ok
              | cases ok
          obtain ⟨a1, a2⟩ := dic_reads (h := h) p3 kv2 (by simpa using l) r2 ok2
          have hk : Reads h e.key (keyPy k) [] := by
            have p1 : keyIs q.1 e.key = true := p1
            rw [← hq.1] at p1
            rcases keyIs_shape p1 with ⟨i, t, e1, e2⟩ | ⟨x, t, e1, e2⟩
            · have e1 : k = .inl i := e1
              subst e1
              rw [e2]
              exact .int _ _
            · have e1 : k = .inr x := e1
              subst e1
              rw [e2]
              exact .str _ _
          have hv : Reads h e.val (flatPy d) [] := by
            rw [p2]
            have hr : RelV v q.2 := hq.2
            cases d with
            | int i =>
              cases r1
              obtain ⟨t, e⟩ := (show ∃ t, q.2 = Value.int i t from hr)
              rw [e]
              exact .int _ _
            | str i =>
              cases r1
              obtain ⟨t, e⟩ := (show ∃ t, q.2 = Value.str i t from hr)
              rw [e]
              exact .str _ _
            | _ => cases ok
          exact ⟨.cons (as := []) hk a1, .cons (as := []) hv a2⟩
theorem repr_ok (hK : X.K = G.K) (hu : X.A.units + 64 < cLine) (hg : X.A.guards = some []) : CallR X (.builtin "repr") (rBlt G fun ds Q => ∃ x, ds = [x] ∧ isShw x = true ∧ (toPy x).showable = true ∧ (toPy x).depth ≤ 60 ∧ (toPy x).shown.length ≤ sizeLine ∧ Q (.v (.str (toPy x).shown))) := by
  intro pins s σ H xs us Q I rv ⟨ds, rb, tb, x, e, h1, h2, h3, h4, z⟩
  subst e
  obtain ⟨v, rfl, rx⟩ := rbs1 rb
  obtain ⟨u, rfl, ru⟩ := rv.one
  have q := fin_same tb z (.str _)
  have rdo : isDat x = true → ∃ as, Reads s.heap u (toPy x) as := fun h => Dp.reads I (toPy x) v u (by rw [hK]; exact rx.dp h) ru
  have fin : ∀ (h' : Heap) (t tk : Nat), (∀ b o, s.heap.get? b = some o → h'.get? b = some o) → EP X pins σ Q (.str (toPy x).shown t) { s with heap := h', toks := tk } :=
    fun h' t tk hk => ⟨.str _, H, I.kept (t' := tk) fun b o e => hk b o e, ⟨t, rfl⟩, q⟩
  have flat : ∀ {y : Str}, (toPy x).shown = y → ∀ t tk, EP X pins σ Q (.str y t) { s with toks := tk } := fun e t tk => by
    subst e
    exact fin s.heap t tk fun _ _ e => e
  cases x with
  | non =>
    cases rx.rd (fun _ z => nomatch z)
    cases (show u = Value.none from ru)
    exact PySem.P.repr_of_none (flat rfl _ _)
  | bl b =>
    cases rx.bl
    cases (show u = Value.bool b from ru)
    exact PySem.P.repr_of_bool (flat rfl _ _)
  | int i =>
    cases rx.int
    obtain ⟨t, rfl⟩ := (show ∃ t, u = Value.int i t from ru)
    exact PySem.P.repr_of_int (by simpa [toPy, PyData.showable] using h2) (flat rfl _ _)
  | str y =>
    cases rx.str
    obtain ⟨t, rfl⟩ := (show ∃ t, u = Value.str y t from ru)
    exact PySem.P.repr_of_str (flat rfl _ _) h4
  | tup ys =>
    obtain ⟨p, ws, rfl, _, _⟩ := rx.tup
    cases (show u = Value.ref p from ru)
    obtain ⟨as, rd⟩ := rdo h1
    exact repr_of_reads' rd h2 (PyData.noDict_hsm (toPy_noDict _ h1)) hg (by omega) (fun _ _ e => e) (fun h' t tk hk => fin h' t tk hk) h4
  | lst ys =>
    obtain ⟨p, ws, rfl, _, _⟩ := rx.lst
    cases (show u = Value.ref p from ru)
    obtain ⟨as, rd⟩ := rdo h1
    exact repr_of_reads' rd h2 (PyData.noDict_hsm (toPy_noDict _ h1)) hg (by omega) (fun _ _ e => e) (fun h' t tk hk => fin h' t tk hk) h4
  | dic kvs =>
    have r0 := rx.rd (fun _ z => nomatch z)
    cases r0 with
    | dic ha hl hr =>
      cases ru
      obtain ⟨_, _, hm, qs, kv, o', es, ep, e1, e2, e3, _, e4, _⟩ := I.hok _ _ ha
      obtain ⟨a1, a2⟩ := dic_reads (h := s.heap) e4 kv hl hr h1
      have rd : Reads s.heap _ (toPy (.dic kvs)) _ := .dict e1 e2.1 e3 a1 a2
      refine repr_of_reads' rd h2 (fun _ => ?_) hg (by omega) (fun _ _ e => e) (fun h' t tk hk => fin h' t tk hk) h4
      simp only [List.append_nil, List.mem_singleton]
      intro z
      rw [← z] at hm
      simp at hm
  | _ => cases h1
theorem srt_ok (hK : X.K = G.K) : CallR X (.builtin "sorted") (rBlt G fun ds Q => ∃ xs ys, ds = [.tup xs] ∧ unStr xs = some ys ∧ ys.length < 64 ∧ ∀ zs : List Str, zs.Perm ys → sortedS zs = true → Q (.fr (zs.map D.str))) := by
  refine CallR.imp cr_srtT fun vs H Q ⟨ds, rb, tb, xs, ys, e, eb, h64, z⟩ => ?_
  subst e
  obtain ⟨v, rfl, rx⟩ := rbs1 rb
  obtain ⟨p, us, e, hq, rs⟩ := rx.tup
  subst e
  rw [unStr_ok eb rs] at hq
  refine ⟨p, ys, rfl, by rw [hK]; exact hq, h64, fun zs q h1 h2 hn => fin_fr tb (z zs h1 h2) ?_ q hn⟩
  clear z h1 h2
  induction zs with
  | nil => exact .nil
  | cons a r ih => exact .cons (.str a) ih
/-- all of them; ob: the same for own objects -/
theorem blt_ok (hK : X.K = G.K) (hc : X.calm = true) (hu : X.A.units + 64 < cLine) (ow : Own G sub) {b : Bf} (hg : b = .repr → X.A.guards = some []) {f : Value} (hf : bfV b = some f)
    (ob : CallR X f (rBlt G fun ds Q => isOb ds = true ∧ b ≠ .isi ∧ bltW sub C b ds Q)) : CallR X f (rBlt G (bltW sub C b)) := by
  intro pins s σ H vs us Q I rv ⟨ds, rb, tb, z⟩
  cases hob : (isOb ds && decide (b ≠ .isi)) with
  | true =>
    simp only [Bool.and_eq_true, decide_eq_true_eq] at hob
    exact ob pins s σ H vs us Q I rv ⟨ds, rb, tb, hob.1, hob.2, z⟩
  | false =>
    have no : ∀ c fs r, ds = .obj c fs :: r → b = .isi := fun c fs r e => by
      subst e
      cases b <;> first
        | rfl
        | (simp [isOb] at hob)
    unfold bltW at z
    split at z
    case h_1 => cases hf; exact isi_ok hK ow pins s σ H vs us Q I rv ⟨_, rb, tb, _, _, rfl, z⟩
    case h_2 => exact absurd (no _ _ _ rfl) (fun z => nomatch z)
    case h_3 => cases hf; exact len_ok hK pins s σ H vs us Q I rv ⟨_, rb, tb, _, rfl, z⟩
    case h_4 => cases hf; obtain ⟨bs, e, z⟩ := z; exact all_ok hK hc pins s σ H vs us Q I rv ⟨_, rb, tb, _, bs, rfl, e, z⟩
    case h_5 => cases hf; obtain ⟨bs, e, z⟩ := z; exact any_ok hK hc pins s σ H vs us Q I rv ⟨_, rb, tb, _, bs, rfl, e, z⟩
    case h_6 => cases hf; exact tup_ok hK pins s σ H vs us Q I rv ⟨_, rb, tb, _, .inl rfl, z⟩
    case h_7 => cases hf; exact tup_ok hK pins s σ H vs us Q I rv ⟨_, rb, tb, _, .inr rfl, z⟩
    case h_8 => cases hf; exact lst_ok hK pins s σ H vs us Q I rv ⟨_, rb, tb, _, .inl rfl, z⟩
    case h_9 => cases hf; exact lst_ok hK pins s σ H vs us Q I rv ⟨_, rb, tb, _, .inr rfl, z⟩
    case h_10 => exact absurd (no _ _ _ rfl) (fun z => nomatch z)
    case h_11 => cases hf; exact str_ok pins s σ H vs us Q I rv ⟨_, rb, tb, .inl ⟨_, rfl, z.1, z.2⟩⟩
    case h_12 => cases hf; exact str_ok pins s σ H vs us Q I rv ⟨_, rb, tb, .inr ⟨_, rfl, z⟩⟩
    case h_13 => cases hf; exact int_ok pins s σ H vs us Q I rv ⟨_, rb, tb, .inl ⟨_, rfl, z⟩⟩
    case h_14 => cases hf; exact int_ok pins s σ H vs us Q I rv ⟨_, rb, tb, .inr (.inl ⟨_, rfl, z⟩)⟩
    case h_15 => cases hf; obtain ⟨n, h1, h2, z⟩ := z; exact int_ok pins s σ H vs us Q I rv ⟨_, rb, tb, .inr (.inr ⟨_, n, rfl, h1, h2, z⟩)⟩
    case h_16 => cases hf; exact abs_ok pins s σ H vs us Q I rv ⟨_, rb, tb, _, rfl, z⟩
    case h_17 => cases hf; exact min_ok hc pins s σ H vs us Q I rv ⟨_, rb, tb, _, _, rfl, z⟩
    case h_18 => cases hf; exact max_ok hc pins s σ H vs us Q I rv ⟨_, rb, tb, _, _, rfl, z⟩
    case h_19 => cases hf; obtain ⟨ns, e, z⟩ := z; exact sum_ok hK hc pins s σ H vs us Q I rv ⟨_, rb, tb, _, ns, rfl, e, z⟩
    case h_20 => cases hf; exact dvm_ok pins s σ H vs us Q I rv ⟨_, rb, tb, _, _, rfl, z.1, z.2⟩
    case h_21 => cases hf; exact bool_ok pins s σ H vs us Q I rv ⟨_, rb, tb, .inl ⟨_, rfl, z⟩⟩
    case h_22 => cases hf; exact bool_ok pins s σ H vs us Q I rv ⟨_, rb, tb, .inr ⟨_, rfl, z⟩⟩
    case h_23 => exact absurd (no _ _ _ rfl) (fun z => nomatch z)
    case h_24 => exact absurd (no _ _ _ rfl) (fun z => nomatch z)
    case h_25 => cases hf; exact repr_ok hK hu (hg rfl) pins s σ H vs us Q I rv ⟨_, rb, tb, _, rfl, z.1, z.2.1, z.2.2.1, z.2.2.2.1, z.2.2.2.2⟩
    case h_26 => exact absurd hf (fun z => nomatch z)
    case h_27 => cases hf; obtain ⟨ys, e1, e2, z⟩ := z; exact srt_ok hK pins s σ H vs us Q I rv ⟨_, rb, tb, _, ys, rfl, e1, e2, z⟩
    case h_28 => cases hf; exact ntup_ok hK pins s σ H vs us Q I rv ⟨_, rb, tb, _, rfl, z⟩
    case h_29 => exact z.elim
end
end En
/-! En19: calls of built-ins and of methods of built-in types, in the text. -/
namespace En
open PySem L2 PyProof.Rows
section
variable {X : Cx} {G : Cfg} {sub : Sub} {C : Call} {W : WX}
theorem blt_call (hL : G.B = libW sub) (hC : MonoC C) {b : Bf} {bv : Value} {f : Str} {args : List Expr} {is : Exs} {p pos : Pos} (hb : bfV b = some bv) (hv : bootBuiltins f = some bv) (hm : X.mg f = none) (hg : Gl X f) (ho : odd f = false) (hne : args ≠ []) (hst : ∀ e ∈ args, isStar e = false)
    (hc : CallR X bv (rBlt G (bltW sub C b))) (ha : PA X args (rdAS G C W is)) : PE X (.Call (.Name f p) args [] pos) (rdR G C W (.blt b is)) := by
  have hB : G.B.Mono := by rw [hL]; exact libW_mono sub
  obtain ⟨o1, o2, o3⟩ := odd_cases ho
  cases args with
  | nil => exact absurd rfl hne
  | cons e es =>
    have h1 := starEach_cons (env := X.env) (es := es) (hst e List.mem_cons_self)
    have h2 := noStars (env := X.env) (pos := pos) fun x hx => hst x (List.mem_cons_of_mem e hx)
    have key : ∀ σ H Q, rdR G C W (.blt b is) σ H Q → tCB (rBlt G (bltW sub C b)) (rdAS G C W is) σ H Q := fun σ H Q ⟨r, re, tb, z⟩ => by
      refine as_bind hB hC re tb (LamX.ExtN.refl H) z fun ds vs H1 rs x1 t1 f => ⟨ds, rs, t1, ?_⟩
      have f : G.B.blt C b ds (fun x => ∀ v H', RR G.K H H' x v → ExN H H' → Tb G H' → Q v H') (exq G W σ H) := f
      rw [hL] at f
      have f : bltW sub C b ds (fun x => ∀ v H', RR G.K H H' x v → ExN H H' → Tb G H' → Q v H') := f
      have mo := (libW_mono sub).blt C hC b ds _ (fin G H1 Q) E0 E0 (fun x z => fin.ext x1 z) (fun _ _ z => z) f
      exact mo
    cases b <;> first
      | (cases hb; exact PE.imp (pe_callB hc hg hm hv ha o3 o1 h1 h2) key)
      | (cases hb; exact PE.imp (pe_callTy hc hg hm hv ha o3 o1 h1 h2) key)
      | cases hb
/-- a tuple of which it is known that it has nothing of its own -/
def tyNt (x : V) (H : Hp) : Prop := ∃ (p : Addr) (o : Obj) (xs : List V), x = .ref p ∧ H p = some (.frz o (.tup xs)) ∧ o.dict = none
theorem tyNt_is {pins : List (Addr × Obj)} {σ : St} {H : Hp} {s : Shared} {x : V} {v : Value} (I : Inv X pins σ H s) (r : RelV x v) (ty : tyNt x H) :
    s.TypeIs v "tuple" ∧ ∀ a, v = .ref a → ∃ ob, s.heap.get? a = some ob ∧ ob.dict = none := by
  obtain ⟨p, o, xs, rfl, h, e⟩ := ty
  cases r
  obtain ⟨g, _, _, _, it⟩ := I.hok p _ h
  exact ⟨it.typeIs, fun a ea => by cases ea; exact ⟨o, g, e⟩⟩
def tBMn (r : V → List V → Hp → VK → Prop) (to : TE) (t : TA) : TE := fun σ H Q => to σ H fun x H1 => tyNt x H1 ∧ t σ H1 fun xs H2 => r x xs H2 Q
theorem pe_bmN {o e : Expr} {es : List Expr} {to : TE} {t : TA} {name : Str} {apos cpos : Pos} {id : String} {r : V → List V → Hp → VK → Prop} (pa : PlainAttrs "tuple") (slot : PySem.Slot "tuple" name id) (hty : typeOf (.builtin id) = pure (.type "method_descriptor")) (hm : MtR X id r) (ho : PE X o to) (ha : PA X (e :: es) t)
    (hbase : attributeBase o name X.env (eval o X.env) = eval o X.env)
    (hfew : ((backTo cpos (starEach (e :: es) X.env)).all (fun x => !x.1) && (backToKw cpos (keywordEach [] X.env)).all (fun x => x.1.isSome)
      && decide ((e :: es).length + ([] : List Keyword).length + (if ([] : List Keyword).isEmpty then 0 else 1) < 30)) = true)
    (hline : (apos.endLine == cpos.line) = true) (hs : starEach (e :: es) X.env = (false, eval e X.env) :: starEach es X.env) (hplain : (backTo cpos (starEach es X.env)).any (·.1) = false) :
    PE X (.Call (.Attribute o name apos) (e :: es) [] cpos) (tBMn r to t) := by
  refine ⟨fun pins s σ H Q I h => ?_⟩
  refine wpAny_Call_method_late hbase hfew hline rfl (thn (ho.run pins s σ H _ I h) fun v s1 ⟨x, H1, I1, r1, ty, q1⟩ => ?_)
  obtain ⟨h1, h2⟩ := tyNt_is I1 r1 ty
  refine ⟨"tuple", id, pa, slot, hty, h1, h2, ?_⟩
  have hA := ha.run cpos pins s1 σ H1 _ I1 q1
  rw [hs] at hA ⊢
  refine Calls.callWith_builtin (by show (false || (backTo cpos (starEach es X.env)).any (·.1)) = false; rw [hplain] <;> rfl) (Calls.evalArgs_plain ?_)
  exact thn hA fun us s2 ⟨vs, H2, I2, r2, q2⟩ => hm pins s2 σ H2 x vs v us Q I2 r1 r2 q2
def mfS : Mf → Str
  | .join => "join"
  | .split => "split"
  | .count => "count"
  | .idl => "index"
  | .index => "index"
  | _ => ""
theorem mth_call (hL : G.B = libW sub) (hC : MonoC C) (hK : X.K = G.K) {b : Mf} {m : Str} {o : Expr} {io : Ex} {args : List Expr} {is : Exs} {ap cp : Pos} (hm : m = mfS b) (hmb : mfS b ≠ "") (hl : (ap.endLine == cp.line) = true) (hne : args ≠ []) (hst : ∀ e ∈ args, isStar e = false) (hlen : args.length < 20)
    (hpo : PE X o (rdS G C W io)) (ha : PA X args (rdAS G C W is)) (hsup : isSup o = false) : PE X (.Call (.Attribute o m ap) args [] cp) (rdR G C W (.mth b io is)) := by
  have hB : G.B.Mono := by rw [hL]; exact libW_mono sub
  cases args with
  | nil => exact absurd rfl hne
  | cons e es =>
    have h1 := starEach_cons (env := X.env) (es := es) (hst e List.mem_cons_self)
    have h2 := noStars (env := X.env) (pos := cp) fun x hx => hst x (List.mem_cons_of_mem e hx)
    have hfew : ((backTo cp (starEach (e :: es) X.env)).all (fun x => !x.1) && (backToKw cp (keywordEach [] X.env)).all (fun x => x.1.isSome)
      && decide ((e :: es).length + ([] : List Keyword).length + (if ([] : List Keyword).isEmpty then 0 else 1) < 30)) = true := by
      have h3 := noStars (env := X.env) (pos := cp) hst
      have h4 : (backTo cp (starEach (e :: es) X.env)).all (fun x => !x.1) = true := by
        rw [List.all_eq_true]
        intro x hx
        have := List.any_eq_false.mp h3 x hx
        simpa using this
      rw [h4]
      have h5 : (e :: es).length + 0 + 0 < 30 := by omega
      have h6 : decide ((e :: es).length + ([] : List Keyword).length + (if ([] : List Keyword).isEmpty then 0 else 1) < 30) = true := decide_eq_true h5
      rw [h6]
      rfl
    have bind : ∀ {T : String} {r : V → List V → Hp → VK → Prop}, (∀ (x : D) (v : V) (H : Hp), mtyW b x = true → RB G.K H x v → tyV X.K T v H) → (∀ x xs v vs H Q, RB G.K H x v → RBs G.K H xs vs → Tb G H → mthW b x xs (fin G H Q) → r v vs H Q) →
        ∀ σ H Q, rdR G C W (.mth b io is) σ H Q → tBM X.K T r (rdS G C W io) (rdAS G C W is) σ H Q := fun {T r} ht hr σ H Q ⟨r', re, tb, z⟩ => by
      refine s_bind hB hC re tb (LamX.ExtN.refl H) z fun x v H1 rx x1 t1 ⟨zt, z1⟩ => ?_
      rw [hL] at zt
      refine ⟨ht x v H1 zt rx, as_bind hB hC (re.ext x1) t1 x1 z1 fun ds vs H2 rs x2 t2 f => ?_⟩
      have f : G.B.mth b x ds (fun x => ∀ v H', RR G.K H H' x v → ExN H H' → Tb G H' → Q v H') := f
      rw [hL] at f
      have f : mthW b x ds (fun x => ∀ v H', RR G.K H H' x v → ExN H H' → Tb G H' → Q v H') := f
      exact hr x ds v vs H2 Q (rx.ext x2) rs t2 ((libW_mono sub).mth b x ds _ (fin G H2 Q) (fun x z => fin.ext (x1.trans x2) z) f)
    have hbase : attributeBase o m X.env (eval o X.env) = eval o X.env := attrBase_ok hsup
    have tyS : ∀ {x : D} {v : V} {H : Hp} {a : Str}, x = .str a → RB G.K H x v → tyV X.K "str" v H := fun {x v H a} e rx => by
      subst e
      cases rx.str
      rfl
    cases b with
    | join =>
      subst hm
      refine PE.imp (pe_bm PySem.F.plainAttrs_str PySem.F.slot_str_join PySem.F.type_str_join mt_join hpo ha hbase hfew hl h1 h2) (bind (fun x v H ht rx => ?_) fun x xs v vs H Q rx rs tb z => ?_)
      · cases x <;> first
          | exact tyS rfl rx
          | cases ht
      · have z : joinW x xs (fin G H Q) := z
        unfold joinW at z
        split at z
        · obtain ⟨ys, e, hz, z⟩ := z
          cases rx.str
          obtain ⟨v, rfl, r1⟩ := rbs1 rs
          obtain ⟨p, us, e1, hq, rd⟩ := r1.lst
          subst e1
          rw [unStr_ok e rd] at hq
          exact ⟨_, p, ys, rfl, rfl, .inl (by rw [hK]; exact hq), hz, fin_same tb z (.str _)⟩
        · obtain ⟨ys, e, hz, z⟩ := z
          cases rx.str
          obtain ⟨v, rfl, r1⟩ := rbs1 rs
          obtain ⟨p, us, e1, hq, rd⟩ := r1.tup
          subst e1
          rw [unStr_ok e rd] at hq
          exact ⟨_, p, ys, rfl, rfl, .inr (by rw [hK]; exact hq), hz, fin_same tb z (.str _)⟩
        · exact z.elim
    | split =>
      subst hm
      refine PE.imp (pe_bm PySem.F.plainAttrs_str PySem.F.slot_str_split PySem.F.type_str_split mt_split hpo ha hbase hfew hl h1 h2) (bind (fun x v H ht rx => ?_) fun x xs v vs H Q rx rs tb z => ?_)
      · cases x <;> first
          | exact tyS rfl rx
          | cases ht
      · have z : splitW x xs (fin G H Q) := z
        unfold splitW at z
        split at z
        · obtain ⟨h1, h2, z⟩ := z
          cases rx.str
          obtain ⟨v, rfl, r1⟩ := rbs1 rs
          cases r1.str
          exact ⟨_, _, rfl, rfl, h1, h2, fun p hp => fin_fr tb z (strs_rd _) p hp⟩
        · exact z.elim
    | index =>
      subst hm
      refine PE.imp (pe_bmN PySem.F.plainAttrs_tuple PySem.F.slot_tuple_index PySem.F.type_tuple_index mt_tup_index hpo ha hbase hfew hl h1 h2) fun σ H Q ⟨r', re, tb, z⟩ => ?_
      refine s_bind hB hC re tb (LamX.ExtN.refl H) z fun x v H1 rx x1 t1 ⟨zt, z1⟩ => ?_
      rw [hL] at zt
      have ty : tyNt v H1 := by
        cases x with
        | ntp ds =>
          cases rx.rd (fun _ z => nomatch z) with
          | ntp h e _ => exact ⟨_, _, _, rfl, h, e⟩
        | _ => cases zt
      refine ⟨ty, as_bind hB hC (re.ext x1) t1 x1 z1 fun ds vs H2 rs x2 t2 f => ?_⟩
      have f : G.B.mth .index x ds (fun x => ∀ v H', RR G.K H H' x v → ExN H H' → Tb G H' → Q v H') := f
      rw [hL] at f
      have f : mthW .index x ds (fun x => ∀ v H', RR G.K H H' x v → ExN H H' → Tb G H' → Q v H') := f
      have z : tindexW x ds (fin G H2 Q) := (libW_mono sub).mth .index x ds _ (fin G H2 Q) (fun x z => fin.ext (x1.trans x2) z) f
      have rx2 := rx.ext x2
      unfold tindexW at z
      split at z
      · obtain ⟨ys, j, e, e2, e3, z⟩ := z
        obtain ⟨v, rfl, r1⟩ := rbs1 rs
        cases r1.str
        cases rx2.rd (fun _ z => nomatch z) with
        | ntp h _ rd =>
          rw [unStr_ok e rd] at h
          exact ⟨_, ys, _, j, rfl, rfl, .inl (.inr ⟨_, h⟩), e2, e3, fin_same t2 z (.int _)⟩
      · exact z.elim
    | idl =>
      subst hm
      refine PE.imp (pe_bm PySem.F.plainAttrs_list PySem.F.slot_list_index PySem.F.type_list_index mt_index hpo ha hbase hfew hl h1 h2) (bind (fun x v H ht rx => ?_) fun x xs v vs H Q rx rs tb z => ?_)
      · cases x <;> first
          | (obtain ⟨p, us, e1, hq, rd⟩ := rx.lst; subst e1; exact .inl ⟨rfl, us, by rw [hK]; exact hq⟩)
          | cases ht
      · have z : indexW x xs (fin G H Q) := z
        unfold indexW at z
        split at z
        · obtain ⟨ys, j, e, e2, e3, z⟩ := z
          obtain ⟨p, us, e1, hq, rd⟩ := rx.lst
          subst e1
          obtain ⟨v, rfl, r1⟩ := rbs1 rs
          cases r1.str
          rw [unStr_ok e rd] at hq
          refine ⟨p, ys.map V.str, _, j, .str _, rfl, rfl, by rw [hK]; exact hq, rfl, ?_, by rw [List.getElem?_map, e2]; rfl, ?_, fun m z' hm hz' => ?_, fin_same tb z (.int _)⟩
          · rw [List.all_map]
            exact List.all_eq_true.mpr fun _ _ => rfl
          · exact beq_self_eq_true _
          · rw [List.getElem?_map] at hz'
            obtain ⟨y, hy, rfl⟩ := Option.map_eq_some_iff.mp hz'
            refine beq_eq_false_iff_ne.mpr fun e => e3 m hm ?_
            rw [hy, e]
        · exact z.elim
    | count =>
      subst hm
      refine PE.imp (pe_bm PySem.F.plainAttrs_list PySem.F.slot_list_count PySem.F.type_list_count mt_lcount hpo ha hbase hfew hl h1 h2) (bind (fun x v H ht rx => ?_) fun x xs v vs H Q rx rs tb z => ?_)
      · cases x <;> first
          | (obtain ⟨p, us, e1, hq, rd⟩ := rx.lst; subst e1; exact .inl ⟨rfl, us, by rw [hK]; exact hq⟩)
          | cases ht
      · have z : countW x xs (fin G H Q) := z
        unfold countW at z
        split at z
        · obtain ⟨ns, e, z⟩ := z
          obtain ⟨p, us, e1, hq, rd⟩ := rx.lst
          subst e1
          obtain ⟨v, rfl, r1⟩ := rbs1 rs
          cases r1.int
          rw [unInt_ok e rd] at hq
          exact ⟨p, ns, _, rfl, rfl, by rw [hK]; exact hq, fin_same tb z (.int _)⟩
        · exact z.elim
    | _ => exact absurd rfl hmb
end
end En
/-! En20: all defs, level by level; global names; own objects. -/
namespace En
open PySem L2 PyProof.Rows
/-- a def of the text, by where its function object stands; no defaults -/
structure Df where
  ad : PySem.W.Frag → Addr
  name : Str
  qual : Str
  params : Arguments
  body : List Stmt
  scope : Scope
def Df.obs (K : PySem.W.Frag) (d : Df) : He.FnW := match K.lookup (d.ad K) with
  | some ⟨_, _, .func fd, _⟩ => some (fd.name, fd.qualname, fd.params, fd.body, fd.scope, fd.globals, fd.closure, fd.builtins)
  | _ => none
def Df.val (d : Df) : He.FnW := some (d.name, d.qual, d.params, .stmts d.body, d.scope, mainGlobals, [], builtinsNs)
def Df.ok (K : PySem.W.Frag) (d : Df) : Bool := PySem.W.keepIn K (.ref (d.ad K)) && (match K.lookup (d.ad K) with
  | some ⟨_, _, .func fd, _⟩ => PySem.W.codeIn K fd.code d.qual && (He.dflB K fd.defaults [] && He.kwdB K fd.kwdefaults [])
  | _ => false)
abbrev Df.FunD (K : PySem.W.Frag) (d : Df) (fd : FuncData) : Prop := L2.FunD K d.name d.qual d.params d.body d.scope [] [] (d.ad K) fd
theorem Df.funD {K : PySem.W.Frag} {d : Df} (e : d.obs K = d.val) (c : d.ok K = true) : ∃ fd, d.FunD K fd := by
  obtain ⟨kp, c2⟩ := He.ba c
  unfold Df.obs at e
  cases q : K.lookup (d.ad K) with
  | none =>
    rw [q] at c2
    cases c2
  | some o =>
    obtain ⟨oc, od, dt, osl⟩ := o
    rw [q] at c2 e
    cases dt with
    | func fd =>
      obtain ⟨n1, n2, n3, n4, n5, n6, n7, n8, n9, n10, n11, n12, n13, n14, n15⟩ := fd
      have e2 : (some (n1, n2, n3, n4, n5, n6, n7, n15) : He.FnW) = some (d.name, d.qual, d.params, .stmts d.body, d.scope, mainGlobals, [], builtinsNs) := e
      simp only [Option.some.injEq, Prod.mk.injEq] at e2
      obtain ⟨h1, h2, h3, h4, h5, h6, h7, h8⟩ := e2
      subst h1 h2 h3 h4 h5 h6 h7 h8
      have c3 : (PySem.W.codeIn K n13 d.qual && (He.dflB K n8 [] && He.kwdB K n9 [])) = true := c2
      obtain ⟨k1, k2⟩ := He.ba c3
      obtain ⟨k3, k4⟩ := He.ba k2
      exact ⟨_, ⟨oc, od, n8, n9, n10, n11, n12, n13, n14, osl, rfl, q, k1, He.dflB_ok k3, He.kwdB_ok k4⟩, kp⟩
    | _ => cases c2
/-- a def that is compiled -/
structure Fe where
  d : Df
  nm : Str
  ps : List Str
  N : List Str
  mu : List Str
  b : Sms
def Fe.fn (e : Fe) : Fn := ⟨e.ps.length, e.N.length, e.b⟩
structure FeOk (G : Cfg) (g : Gi) (e : Fe) (fd : FuncData) : Prop where
  F : e.d.FunD G.K fd
  S : FnScope e.N e.ps e.d.scope
  c : compSs g e.N e.mu 60 e.d.scope e.d.body = some e.b
section
variable {p : Pg} {G : Cfg} {g : Gi} {fs : List (Str × Fn)} {prim : Call → Call}
theorem callW_prim {k : Nat} {f : Str} {ds : List D} {Q : Rv → Prop} {E : XP} (hf : fs.lookup f = none) (z : callW G.B fs prim k f ds Q E) : ∃ j, k = j + 1 ∧ prim (callW G.B fs prim j) f ds Q E := by
  cases k with
  | zero => exact z.elim
  | succ j =>
    unfold callW at z
    rw [hf] at z
    exact ⟨j, rfl, z⟩
theorem callW_len {k : Nat} {f : Str} {F : Fn} {ds : List D} {Q : Rv → Prop} {E : XP} (hf : fs.lookup f = some F) (z : callW G.B fs prim k f ds Q E) : ds.length = F.ps := by
  cases k with
  | zero => exact z.elim
  | succ j =>
    unfold callW at z
    rw [hf] at z
    exact z.1
/-! ### global names -/
def conOk (p : Pg) (G : Cfg) (x : Str) : D → Prop
  | .int i => ∃ t, p.mg x = some (.int i t)
  | .str z => ∃ t, p.mg x = some (.str z t)
  | .cls c => p.mg x = some (.ref (He.ga G.K c))
  | .ty n => p.mg x = none ∧ bootBuiltins x = some (.type n.nm)
  | _ => False
theorem con_ok {C : Call} {k : Nat} {X : Cx} {W : WX} (ok : OkX p G k X W) {x : Str} {d : D} {pos : Pos} (h : conOk p G x d) (hg : Gl X x) (ho : odd x = false) : PE X (.Name x pos) (rdR G C W (.glo d)) := by
  obtain ⟨o1, o2, o3⟩ := odd_cases ho
  cases d <;> first
    | exact h.elim
    | skip
  · obtain ⟨t, h⟩ := h
    exact p_glo (pe_glob (v := .int _) hg (by rw [ok.mg]; exact h) ⟨t, rfl⟩ o1) fun H => .int _
  · obtain ⟨t, h⟩ := h
    exact p_glo (pe_glob (v := .str _) hg (by rw [ok.mg]; exact h) ⟨t, rfl⟩ o1) fun H => .str _
  · exact p_glo (pe_glob (v := .ref _) hg (by rw [ok.mg]; exact h) rfl o1) fun H => .cls _
  · exact p_glo (pe_bltn (v := .ty _) hg (by rw [ok.mg]; exact h.1) h.2 rfl o3 o1) fun H => .ty _
/-- errors that a call may let out are taken -/
theorem OkX.passes {k : Nat} {X : Cx} {W : WX} (ok : OkX p G k X W) (σ : St) : Passes (L2.CX p.P p.w) X fun cls d H => W cls d σ H := by
  have e := passes_call (E := fun cls d H => W cls d σ H) ok.tk fun cls d σ' H h => ok.ind cls d σ σ' H h
  intro pins σ' H s u s' I c
  refine e pins σ' H s u s' I ?_
  rw [ok.P, ok.w]
  exact c
/-! ### own objects: slots, properties -/
/-- the slots of a class: their names, in their order -/
structure SlotsOf (G : Cfg) (c : Str) (sl : List Str) : Prop where
  cls : SlX.SCls G.K (He.ga G.K c)
  at_ : ∀ (i : Nat) (f : Str), sl[i]? = some f → ∃ q, SlX.Slot1 G.K (He.ga G.K c) f q i
theorem att_slot {C : Call} (hB : G.B.Mono) (hC : MonoC C) {k : Nat} {X : Cx} {W : WX} (ok : OkX p G k X W) {c : Str} {sl : List Str} (S : SlotsOf G c sl) {o : Expr} {io : Ex} {f key : Str} {pos : Pos}
    (hk : ∀ d Q E, C key [d] Q E → ∃ (fs : List D) (i : Nat) (x : D), d = .obj c fs ∧ sl[i]? = some f ∧ fs[i]? = some x ∧ Q (.v x)) (ho : PE X o (rdV G C W io)) (hs : isSup o = false) : PE X (.Attribute o f pos) (rdR G C W (.att io key)) := by
  refine PE.imp (SlX.pe_sl ho (attrBase_ok hs)) fun σ H Q ⟨r, re, tb, z⟩ => ?_
  refine v_bind hB hC re tb (LamX.ExtN.refl H) z fun d v H1 rd x1 t1 z1 => ?_
  obtain ⟨fs, i, x, e, h1, h2, q⟩ := hk _ _ _ z1
  rw [e] at rd
  cases rd with
  | @obj _ a dx vs _ hsl rs =>
    obtain ⟨v, e3, rv⟩ := rs.get h2
    obtain ⟨q', s1⟩ := S.at_ i f h1
    exact ⟨a, _, dx, q', vs.map some, i, v, rfl, hsl, by rw [ok.bs.K]; exact S.cls, by rw [ok.bs.K]; exact s1, by rw [List.getElem?_map, e3]; rfl, q v H1 rv x1 t1⟩
/-- a property of a class, its getter at g -/
structure PropF (G : Cfg) (c f : Str) (q g : Addr) : Prop where
  at_ : PySem.W.findIn G.K (.ref (He.ga G.K c)) f = some (some (.ref q))
  get : PySem.W.specialIn G.K (.ref q) "__get__" = some (some (.builtin "property.__get__"))
  tk : PySem.W.takesIn G.K (.ref q) = some true
  rc : ∃ rest, PySem.W.recIn G.K q "property" = some (.ref g :: rest)
theorem att_prop {C C' : Call} (hB : G.B.Mono) (hC : MonoC C) {k : Nat} {X : Cx} {W : WX} (ok : OkX p G (k + 1) X W) {c : Str} (S : SlX.SCls G.K (He.ga G.K c)) {f key nm : Str} {q gt : Addr} (P : PropF G c f q gt) {fd : FuncData} {ps : List Str} (hf : p.fl = false) (hps : ps.length = 1) (F : FnG p G C' k gt fd ps nm) (hb : Binds G.K fd ps [])
    {o : Expr} {io : Ex} {pos : Pos} (hk : ∀ d Q E, C key [d] Q E → ∃ fs, d = .obj c fs ∧ C' nm [d] Q E0) (hC' : MonoC C') (ho : PE X o (rdV G C W io)) (hs : isSup o = false) : PE X (.Attribute o f pos) (rdR G C W (.att io key)) := by
  have FR := F.run hf hb
  rw [← ok.P, ← ok.w, ← ok.bs.K, ← ok.mg, ← ok.base] at FR
  have hK := ok.bs.K
  refine PE.imp (SlX.pe_propSl (C := He.ga G.K c) (E := fun _ _ _ => False) ho (by rw [hK]; exact S) (by rw [hK]; exact P.at_) (by rw [hK]; exact P.get) (by rw [hK]; exact P.tk) (by rw [hK]; exact P.rc) FR ok.room ?_ (attrBase_ok hs)) fun σ H Q ⟨r, re, tb, z⟩ => ?_
  · intro H s e s' ⟨_, _, _, _, _, _, _, _, _, _, _, _, z⟩
    exact z
  · refine v_bind hB hC re tb (LamX.ExtN.refl H) z fun d v H1 rd x1 t1 z1 => ?_
    obtain ⟨fs, e, q⟩ := hk _ _ _ z1
    have rd' := rd
    rw [e] at rd
    cases rd with
    | @obj _ a dx vs _ hsl rs =>
      refine ⟨a, dx, vs.map some, rfl, hsl, [d.d], .cons rd' .nil, t1, by simp [hps], ?_⟩
      exact hC' _ _ _ _ _ _ (fun x z v H' rr x2 t2 => z v H' (rr.back x1) (x1.trans x2) t2) (fun _ _ z => z.elim) q
end
end En
/-! En21: a class with slots: its __init__, its call. -/
namespace En
open PySem L2 PyProof.Rows
/-! ### statements, a part of them by hand -/
/-! ### an object whose slots are filled -/
mutual
def noE : D → Bool
  | .tup xs => noEs xs
  | .lst xs => noEs xs
  | .ntp xs => noEs xs
  | .dic kvs => noEk kvs
  | .obj _ fs => !fs.isEmpty && noEs fs
  | .exc _ _ _ _ => false
  | .er0 _ => false
  | .er1 _ _ _ => false
  | _ => true
def noEs : List D → Bool
  | [] => true
  | x :: r => noE x && noEs r
def noEk : List (Key × D) → Bool
  | [] => true
  | (_, x) :: r => noE x && noEk r
end
theorem noEk_map : ∀ (kvs : List (Key × D)), noEk kvs = true → noEs (kvs.map (·.2)) = true
  | [], _ => rfl
  | (k, x) :: r, h => by
    simp only [noEk, Bool.and_eq_true] at h
    simp only [List.map_cons, noEs, Bool.and_eq_true]
    exact ⟨h.1, noEk_map r h.2⟩
section
variable {K : PySem.W.Frag} {H : Hp} {a dx Ca : Addr} {ws : List (Option V)} (ha : H a = some (.ins Ca dx [])) (hd : H dx = some (.own a))
include ha hd
theorem slH_at {b : Addr} {o : HO} (e : H b = some o) (n1 : o ≠ .ins Ca dx []) (n2 : o ≠ .own a) : SlX.slH H a Ca dx ws b = some o := by
  have h1 : b ≠ a := fun z => by rw [z, ha] at e; exact n1 (Option.some.inj e).symm
  have h2 : b ≠ dx := fun z => by rw [z, hd] at e; exact n2 (Option.some.inj e).symm
  rw [SlX.slH_ne h1 h2]
  exact e
mutual
theorem RD.slot : ∀ {d : D} {v : V}, RD K H d v → noE d = true → RD K (SlX.slH H a Ca dx ws) d v
  | _, _, .non, _ => .non
  | _, _, .bl b, _ => .bl b
  | _, _, .int i, _ => .int i
  | _, _, .str x, _ => .str x
  | _, _, .cls x, _ => .cls x
  | _, _, .adr x, _ => .adr x
  | _, _, .ty n, _ => .ty n
  | _, _, .tup h r, e => by
    refine .tup ?_ (RDs.slot r (by simpa [noE] using e))
    rcases h with (h | ⟨o, h⟩) | h
    · exact .inl (.inl (slH_at ha hd h (fun z => nomatch z) (fun z => nomatch z)))
    · exact .inl (.inr ⟨o, slH_at ha hd h (fun z => nomatch z) (fun z => nomatch z)⟩)
    · exact .inr h
  | _, _, .lst h r, e => by
    refine .lst ?_ (RDs.slot r (by simpa [noE] using e))
    rcases h with ⟨o, h⟩ | h
    · exact .inl ⟨o, slH_at ha hd h (fun z => nomatch z) (fun z => nomatch z)⟩
    · exact .inr h
  | _, _, .ntp h d r, e => .ntp (slH_at ha hd h (fun z => nomatch z) (fun z => nomatch z)) d (RDs.slot r (by simpa [noE] using e))
  | _, _, .dic h l r, e => .dic (slH_at ha hd h (fun z => nomatch z) (fun z => nomatch z)) l (RDs.slot r (noEk_map _ (by simpa [noE] using e)))
  | _, _, .obj (dx := dy) (vs := vs) h r, e => by
    simp only [noE, Bool.and_eq_true, Bool.not_eq_true'] at e
    refine .obj (dx := dy) ?_ (RDs.slot r e.2)
    rcases h with ⟨h, hv⟩ | ⟨h, hv⟩
    · have : vs = [] := by simpa using hv
      subst this
      cases r
      simp at e
    · exact .inr ⟨slH_at ha hd h (fun z => by unfold SlX.SlO at z; cases z) (fun z => by unfold SlX.SlO at z; cases z), slH_at ha hd hv (fun z => nomatch z) (fun z => nomatch z)⟩
  | _, _, .pail h, _ => .pail (slH_at ha hd h (fun z => by unfold PailO at z; cases z) (fun z => by unfold PailO at z; cases z))
theorem RDs.slot : ∀ {ds : List D} {vs : List V}, RDs K H ds vs → noEs ds = true → RDs K (SlX.slH H a Ca dx ws) ds vs
  | _, _, .nil, _ => .nil
  | _, _, .cons r q, e => by
    simp only [noEs, Bool.and_eq_true] at e
    exact .cons (RD.slot r e.1) (RDs.slot q e.2)
end
theorem Tabs.slot {T : List (Addr × Str)} (t : LamX.Tabs T H) : LamX.Tabs T (SlX.slH H a Ca dx ws) := fun q hq => by
  obtain ⟨ps, h1, h2, h3⟩ := t q hq
  refine ⟨ps, slH_at ha hd h1 (fun z => nomatch z) (fun z => nomatch z), h2, fun pos cv hc => ?_⟩
  obtain ⟨c, e1, e2⟩ := h3 pos cv hc
  exact ⟨c, e1, slH_at ha hd e2 (fun z => by unfold LamX.CodeO at z; cases z) (fun z => by unfold LamX.CodeO at z; cases z)⟩
end
theorem ExN.slot {H1 H : Hp} {a dx Ca : Addr} {ws : List (Option V)} (x : ExN H1 H) (h1 : H1 a = none) (h2 : H1 dx = none) : ExN H1 (SlX.slH H a Ca dx ws) := by
  unfold SlX.slH
  exact ExN.frz (ExN.frz x (Fr.of h2)) (Fr.of h1)
/-! ### __init__ of a class with three slots -/
def startI (x : Addr) (n : Nat) (ds : List D) : Env := some (.val (.adr x)) :: (ds.map (fun d => some (Slot.val d)) ++ List.replicate (n - (ds.length + 1)) none)
/-- the slots stand by their names: the last one ahead -/
def rot3 (ds : List D) : List D := [ds.getD 2 .non, ds.getD 0 .non, ds.getD 1 .non]
/-- the meaning of the class called with three values -/
def initW (B : Lib) (C : Call) (c : Str) (n : Nat) (b : Sms) (ds : List D) (Q : Rv → Prop) (E : XP) : Prop :=
  ds.length = 3 ∧ noEs ds = true ∧ ∀ x : Addr, exSs B C b { nx := fun r => r[0]? = some (some (.val (.adr x))) ∧ r[1]? = some (some (.val (ds.getD 0 .non))) ∧ r[2]? = some (some (.val (ds.getD 1 .non))) ∧ r[3]? = some (some (.val (ds.getD 2 .non))) ∧ Q (.v (.obj c (rot3 ds))), rt := fun _ _ => False } (startI x n ds) E
/-- the promise of __init__ -/
def spIn (G : Cfg) (C : Call) (c : Str) (n : Nat) (b : Sms) : Sp := fun vs H Q E => ∃ x dx ws ds H1 Qv, vs = V.ref x :: ws ∧ H = upd (upd H1 dx (.own x)) x (.ins (He.ga G.K c) dx []) ∧ H1 x = none ∧ H1 dx = none ∧ dx ≠ x ∧ RDs G.K H1 ds ws ∧ Tb G H1 ∧
  (∀ H', Qv (V.ref x) H' → Q .non H') ∧ initW G.B C c n b ds (qS G Qv H1) (eS G E H1)
end En
/-! En22: what is called: defs, classes, methods; by position and by name. -/
namespace En
open PySem L2 PyProof.Rows
theorem evAs_nilR {B : Lib} {C : Call} {r : Env} {Q : List D → Prop} {E : XP} : (evAs B C .nil r).R Q E = Q [] := by
  unfold evAs
  rfl
/-- a value that is called with values -/
def CalP (p : Pg) (G : Cfg) (C : Call) (k : Nat) (u : Value) (nm : Str) : Prop :=
  ∀ (X : Cx) (W : WX) (pins : List (Addr × Obj)) (σ : L2.St) (H : Hp) (s : Shared) (Q : VK) (us : List Value) (vs : List V) (ds : List D), OkX p G k X W → Inv X pins σ H s → Vals vs us → RDs G.K H ds vs → Tb G H → C nm ds (qS G Q H) (exq G W σ H) →
    wpAny (model X.prog X.w) X.A (call u us) (EP X pins σ Q) X.xe s
/-- .. with n values and the keywords ks; pm: where the parameters' values stand -/
def CalK (p : Pg) (G : Cfg) (C : Call) (k : Nat) (u : Value) (nm : Str) (ks : List Str) (n : Nat) (pm : List Nat) : Prop :=
  ∀ (X : Cx) (W : WX) (pins : List (Addr × Obj)) (σ : L2.St) (H : Hp) (s : Shared) (Q : VK) (us ws : List Value) (vs zs : List V) (ds es : List D), OkX p G k X W → Inv X pins σ H s → Vals vs us → Vals zs ws → us.length = n → ws.length = ks.length → RDs G.K H ds vs → RDs G.K H es zs → Tb G H →
    C nm (pm.map fun j => (ds ++ es).getD j .non) (qS G Q H) (exq G W σ H) → wpAny (model X.prog X.w) X.A (call u us (ks.zip ws)) (EP X pins σ Q) X.xe s
/-- how a def's parameters are bound: m values ahead, n values, the keywords ks -/
def KBs (K : PySem.W.Frag) (fd : FuncData) (ps : List Str) (m : Nat) (ks : List Str) (n : Nat) (pm : List Nat) : Prop :=
  ∀ (s : Shared) (first us ws : List Value), K.In s.heap → first.length = m → us.length = n → ws.length = ks.length → BindsTo s fd ⟨first ++ us, ks.zip ws⟩ (ps.zip (first ++ pm.map fun j => (us ++ ws).getD j .none))
theorem FunD.kb {K : PySem.W.Frag} {x qual : Str} {params : Arguments} {body : List Stmt} {scope : Scope} {kws : List (Str × V)} {f : Addr} {fd : FuncData} {ps : List Str} {m n : Nat} {ks : List Str} {pm : List Nat} (F : FunD K x qual params body scope [] kws f fd)
    (h : ∀ (kV doc pm' : Value) (an : Option Addr) (cdv ct : Value) (first us ws : List Value), first.length = m → us.length = n → ws.length = ks.length → bindArgs (PySem.W.fnOf x qual params body scope .none kV doc pm' an cdv ct) ⟨first ++ us, ks.zip ws⟩ = pure (ps.zip (first ++ pm.map fun j => (us ++ ws).getD j .none))) : KBs K fd ps m ks n pm := by
  obtain ⟨oc, od, dV, kV, doc, pm', an, cdv, ct, osl, rfl, lk, hcd, hD, hK⟩ := F.ex
  rcases hD with ⟨_, rfl⟩ | ⟨e, _⟩
  · exact fun s first us ws _ h1 h2 h3 => .of_eq (h kV doc pm' an cdv ct first us ws h1 h2 h3)
  · exact absurd rfl e
theorem RDs.perm {K : PySem.W.Frag} {H : Hp} {ds : List D} {vs : List V} (r : RDs K H ds vs) : ∀ pm : List Nat, RDs K H (pm.map fun j => ds.getD j .non) (pm.map fun j => vs.getD j .non)
  | [] => .nil
  | j :: pm => by
    refine .cons ?_ (RDs.perm r pm)
    show RD K H (ds.getD j D.non) (vs.getD j V.non)
    rcases Nat.lt_or_ge j ds.length with h | h
    · obtain ⟨v, e1, e2⟩ := r.get (List.getElem?_eq_getElem h)
      rw [List.getD_eq_getElem?_getD, List.getD_eq_getElem?_getD, List.getElem?_eq_getElem h, e1]
      exact e2
    · rw [List.getD_eq_getElem?_getD, List.getD_eq_getElem?_getD, List.getElem?_eq_none h, List.getElem?_eq_none (by rw [← r.length]; exact h)]
      exact .non
theorem Vals.get : ∀ {vs : List V} {us : List Value} {j : Nat}, Vals vs us → j < vs.length → ∃ v u, vs[j]? = some v ∧ us[j]? = some u ∧ RelV v u
  | _, _, _, .nil, h => by simp at h
  | _, _, 0, .cons r _, _ => ⟨_, _, rfl, rfl, r⟩
  | _, _, j + 1, .cons _ q, h => by
    obtain ⟨v, u, e1, e2, r⟩ := Vals.get (j := j) q (by simpa using h)
    exact ⟨v, u, by simpa using e1, by simpa using e2, r⟩
theorem Vals.perm {vs : List V} {us : List Value} (r : Vals vs us) : ∀ pm : List Nat, Vals (pm.map fun j => vs.getD j .non) (pm.map fun j => us.getD j .none)
  | [] => .nil
  | j :: pm => by
    refine .cons ?_ (Vals.perm r pm)
    show L2.RelV (vs.getD j V.non) (us.getD j Value.none)
    rcases Nat.lt_or_ge j vs.length with h | h
    · obtain ⟨v, u, e1, e2, e3⟩ := Vals.get r h
      rw [List.getD_eq_getElem?_getD, List.getD_eq_getElem?_getD, e1, e2]
      exact e3
    · rw [List.getD_eq_getElem?_getD, List.getD_eq_getElem?_getD, List.getElem?_eq_none h, List.getElem?_eq_none (by rw [← r.length]; exact h)]
      exact rfl
section
variable {p : Pg} {G : Cfg} {g : Gi} {C : Call} {k : Nat}
/-! ### defs -/
theorem cal_def {f : Addr} {fd : FuncData} {ps : List Str} {nm : Str} (F : FnG p G C k f fd ps nm) (hlen : ∀ ds Q E, C nm ds Q E → ds.length = ps.length) (hb : Binds G.K fd ps []) : CalP p G C k (.ref f) nm := by
  intro X W pins σ H s Q us vs ds ok I r rd tb h
  have hl := hlen _ _ _ h
  have e : us.length = ps.length := by rw [← r.length, ← rd.length]; exact hl
  have kin : G.K.In s.heap := by rw [← ok.bs.K]; exact I.kIn
  have b := hb s us kin (by rw [List.append_nil]; exact e)
  rw [List.append_nil] at b
  exact run_G (args := ⟨us, []⟩) ok F b I r rd tb hl h
theorem cal_defK {f : Addr} {fd : FuncData} {ps : List Str} {nm : Str} {ks : List Str} {n : Nat} {pm : List Nat} (F : FnG p G C k f fd ps nm) (hlen : ∀ ds Q E, C nm ds Q E → ds.length = ps.length) (hb : KBs G.K fd ps 0 ks n pm) : CalK p G C k (.ref f) nm ks n pm := by
  intro X W pins σ H s Q us ws vs zs ds es ok I r rz l1 l2 rd re tb h
  have kin : G.K.In s.heap := by rw [← ok.bs.K]; exact I.kIn
  have b := hb s [] us ws kin rfl l1 l2
  exact run_G (args := ⟨us, ks.zip ws⟩) ok F b I (Vals.perm (r.append rz) pm) ((rd.append re).perm pm) tb (hlen _ _ _ h) h
/-! ### the same of the call's code -/
def CO (X : Cx) (pins : List (Addr × Obj)) (σ : L2.St) (Q : VK) : Result → Shared → Prop := fun r s' => match r with
  | .ok (.ret v) => EP X pins σ Q v s'
  | .ok _ => False
  | .error e => X.xe e s'
theorem run_Gc {X : Cx} {W : WX} (ok : OkX p G k X W) {f : Addr} {fd : FuncData} {ps : List Str} {nm : Str} (F : FnG p G C k f fd ps nm) {pins : List (Addr × Obj)} {σ : L2.St} {H : Hp} {s : Shared} {Q : VK} {args : Args} {us : List Value} {vs : List V} {ds : List D}
    (hb : BindsTo s fd args (ps.zip us)) (I : Inv X pins σ H s) (r : Vals vs us) (rd : RDs G.K H ds vs) (tb : Tb G H) (hl : ds.length = ps.length) (h : C nm ds (qS G Q H) (exq G W σ H)) :
    codeAny (model X.prog X.w) X.A (.call (.ref f) args) (CO X pins σ Q) s := by
  obtain ⟨e1, e2, e3, e4, bs, room, gd, tk, _⟩ := ok
  have e0 := I.env0
  rw [e1, e2, bs.K, e3, e4] at e0
  rw [e1, e2]
  refine codeAny_mono (F X.A X.stack s H args us vs ds Q (fun cls d H' => W cls d σ H') room gd e0 hb r rd tb hl h) fun r s' hq => ?_
  rw [← e1, ← e2] at hq
  cases r with
  | error e => exact tk e s' (XE.of_call I (fun cls d H' h => h) hq)
  | ok fl =>
    cases fl with
    | ret u => exact I.after hq
    | next => exact False.elim hq
    | brk => exact False.elim hq
    | cont => exact False.elim hq
def CalC (p : Pg) (G : Cfg) (C : Call) (k : Nat) (f : Addr) (nm : Str) : Prop :=
  ∀ (X : Cx) (W : WX) (pins : List (Addr × Obj)) (σ : L2.St) (H : Hp) (s : Shared) (Q : VK) (us : List Value) (vs : List V) (ds : List D), OkX p G k X W → Inv X pins σ H s → Vals vs us → RDs G.K H ds vs → Tb G H → C nm ds (qS G Q H) (exq G W σ H) →
    codeAny (model X.prog X.w) X.A (.call (.ref f) ⟨us, []⟩) (CO X pins σ Q) s
/-- a method with keywords: the receiver ahead -/
def CalCK (p : Pg) (G : Cfg) (C : Call) (k : Nat) (f : Addr) (nm : Str) (ks : List Str) (n : Nat) (pm : List Nat) : Prop :=
  ∀ (X : Cx) (W : WX) (pins : List (Addr × Obj)) (σ : L2.St) (H : Hp) (s : Shared) (Q : VK) (u : Value) (us ws : List Value) (v : V) (vs zs : List V) (d : D) (ds es : List D), OkX p G k X W → Inv X pins σ H s → RelV v u → Vals vs us → Vals zs ws → us.length = n → ws.length = ks.length → RD G.K H d v → RDs G.K H ds vs → RDs G.K H es zs → Tb G H →
    C nm (d :: pm.map fun j => (ds ++ es).getD j .non) (qS G Q H) (exq G W σ H) → codeAny (model X.prog X.w) X.A (.call (.ref f) ⟨u :: us, ks.zip ws⟩) (CO X pins σ Q) s
theorem cal_defc {f : Addr} {fd : FuncData} {ps : List Str} {nm : Str} (F : FnG p G C k f fd ps nm) (hlen : ∀ ds Q E, C nm ds Q E → ds.length = ps.length) (hb : Binds G.K fd ps []) : CalC p G C k f nm := by
  intro X W pins σ H s Q us vs ds ok I r rd tb h
  have hl := hlen _ _ _ h
  have e : us.length = ps.length := by rw [← r.length, ← rd.length]; exact hl
  have kin : G.K.In s.heap := by rw [← ok.bs.K]; exact I.kIn
  have b := hb s us kin (by rw [List.append_nil]; exact e)
  rw [List.append_nil] at b
  exact run_Gc (args := ⟨us, []⟩) ok F b I r rd tb hl h
theorem cal_defKc {f : Addr} {fd : FuncData} {ps : List Str} {nm : Str} {ks : List Str} {n : Nat} {pm : List Nat} (F : FnG p G C k f fd ps nm) (hlen : ∀ ds Q E, C nm ds Q E → ds.length = ps.length) (hb : KBs G.K fd ps 1 ks n pm) : CalCK p G C k f nm ks n pm := by
  intro X W pins σ H s Q u us ws v vs zs d ds es ok I ru r rz l1 l2 rd rds re tb h
  have kin : G.K.In s.heap := by rw [← ok.bs.K]; exact I.kIn
  have b := hb s [u] us ws kin rfl l1 l2
  exact run_Gc (args := ⟨u :: us, ks.zip ws⟩) ok F b I (.cons ru (Vals.perm (r.append rz) pm)) (.cons rd ((rds.append re).perm pm)) tb (hlen _ _ _ h) h
/-! ### a class with slots -/
theorem cal_clsK {j : Nat} {f : Addr} {fd : FuncData} {self x0 x1 x2 c nm : Str} {C0 : Call} {nN : Nat} {b : Sms} {ks : List Str} {n : Nat} {pm : List Nat} (M : Mk G.K (He.ga G.K c) f) (F : FnOk p.P p.w G.K p.mg p.base (L2.CX p.P p.w) j f fd [self, x0, x1, x2] (spIn G C0 c nN b)) (hk : k = j + 1)
    (hC : ∀ ds Q E, C nm ds Q E → initW G.B C0 c nN b ds Q E) (hb : KBs G.K fd [self, x0, x1, x2] 1 ks n pm) : CalK p G C k (.ref (He.ga G.K c)) nm ks n pm := by
  intro X W pins σ H s Q us ws vs zs ds es ok I r rz l1 l2 rd re tb h
  subst hk
  have hK := ok.bs.K
  have F' : FnOk X.prog X.w X.K X.mg X.base (L2.CX p.P p.w) j f fd [self, x0, x1, x2] (spIn G C0 c nN b) := by
    rw [ok.P, ok.w, hK, ok.mg, ok.base]
    exact F
  have kb : KBn X.K fd [self, x0, x1, x2] (n + 1) ks (fun us ws => us.take 1 ++ pm.map fun j => (us.drop 1 ++ ws).getD j .none) (fun vs zs => vs.take 1 ++ pm.map fun j => (vs.drop 1 ++ zs).getD j .non) := by
    refine ⟨fun s us ws kin e1 e2 => ?_, fun {vs us zs ws} r1 r2 => ?_⟩
    · rw [hK] at kin
      match us, e1 with
      | u :: us, e1 =>
        have := hb s [u] us ws kin rfl (by simpa using e1) e2
        simpa using this
    · cases r1 with
      | nil => exact .append .nil (Vals.perm (.append .nil r2) pm)
      | cons a b => exact .append (.cons a .nil) (Vals.perm (Vals.append b r2) pm)
  refine run_makeN (n := n) (by rw [hK]; exact M) F' ok.room kb (ok.passes σ) I r rz (by rw [r.length]; exact l1) (by rw [rz.length]; exact l2) fun x dx h1 h2 hne => ?_
  refine ⟨x, dx, _, _, H, Q, rfl, rfl, h1, h2, hne, (rd.append re).perm pm, tb, fun H' q => ⟨rfl, q⟩, ?_⟩
  exact hC _ _ _ h
/-- a class whose things never come to be: __init__ always raises -/
theorem cal_clsR {j : Nat} {f : Addr} {fd : FuncData} {ps : List Str} {c nm nmI : Str} {C0 : Call} (hfl : p.fl = false) (hM : MonoC C0) (M : Mk G.K (He.ga G.K c) f) (F : FnG p G C0 j f fd ps nmI) (hlen : ∀ ds Q E, C0 nmI ds Q E → ds.length = ps.length) (hb : Binds G.K fd ps []) (hk : k = j + 1)
    (hC : ∀ ds Q E, C nm ds Q E → ∀ x : Addr, C0 nmI (.adr x :: ds) (fun _ => False) E) : CalP p G C k (.ref (He.ga G.K c)) nm := by
  intro X W pins σ H s Q us vs ds ok I r rd tb h
  subst hk
  have hK := ok.bs.K
  have F' : FnOk X.prog X.w X.K X.mg X.base (L2.CX p.P p.w) j f fd ps (spG G C0 ps.length nmI) := by
    rw [ok.P, ok.w, hK, ok.mg, ok.base]
    exact F.ok hfl
  refine run_make (dvs := []) (ds := []) (by rw [hK]; exact M) F' ok.room (by rw [hK]; exact hb) .nil (ok.passes σ) I r fun x dx h1 h2 hne => ?_
  have z := hC _ _ _ h x
  have n1 : (upd H dx (.own x)) x = none := by rw [upd_ne (Ne.symm hne)]; exact h1
  have xH : ExN H (upd (upd H dx (.own x)) x (.ins (He.ga G.K c) dx [])) := (ExN.new h2).trans (ExN.new n1)
  refine ⟨.adr x :: ds, ?_, Tabs.new (Tabs.new tb h2) n1, hlen _ _ _ z, ?_⟩
  · rw [List.append_nil]
    exact .cons (.adr x) (rd.stb (ExN.stb xH))
  · exact hM _ _ _ _ _ _ (fun _ z => z.elim) (fun c ds e => fun cls d H' rx x2 t => e cls d H' rx (xH.trans x2) t) z
/-- positions alone -/
theorem CalK.pos {u : Value} {nm : Str} {n : Nat} (F : CalK p G C k u nm [] n (List.range n)) (hlen : ∀ ds Q E, C nm ds Q E → ds.length = n) : CalP p G C k u nm := by
  intro X W pins σ H s Q us vs ds ok I r rd tb h
  have hl := hlen _ _ _ h
  refine F X W pins σ H s Q us [] vs [] ds [] ok I r .nil (by rw [← r.length, ← rd.length]; exact hl) rfl rd .nil tb ?_
  have e : ((List.range n).map fun j => (ds ++ []).getD j .non) = ds := by
    rw [List.append_nil]
    refine List.ext_getElem (by simp [hl]) fun i h1 h2 => ?_
    simp only [List.getElem_map, List.getElem_range]
    rw [List.getD_eq_getElem?_getD, List.getElem?_eq_getElem h2]
    rfl
  rw [e]
  exact h
/-! ### by name -/
theorem kwNames {kws : List Keyword} {ks : List Str} {pos : Pos} {env : PySem.Env} (h : kws.map (fun (k : Keyword) => k.arg) = ks.map some) :
    (backToKw pos (keywordEach kws env)).all (·.1.isSome) = true ∧ (backToKw pos (keywordEach kws env)).filterMap (·.1) = ks ∧ (backToKw pos (keywordEach kws env)).any (·.1.isNone) = false := by
  induction kws generalizing ks with
  | nil =>
    cases ks with
    | nil => exact ⟨rfl, rfl, rfl⟩
    | cons a b => cases h
  | cons x xs ih =>
    obtain ⟨nm, v, pp⟩ := x
    cases ks with
    | nil => cases h
    | cons a b =>
      simp only [List.map_cons, List.cons.injEq] at h
      obtain ⟨h1, h2, h3⟩ := ih (ks := b) h.2
      have e : nm = some a := h.1
      subst e
      refine ⟨?_, ?_, ?_⟩
      · show (true && (backToKw pos (keywordEach xs env)).all (·.1.isSome)) = true
        rw [h1]
        rfl
      · show a :: (backToKw pos (keywordEach xs env)).filterMap (·.1) = a :: b
        rw [h2]
      · show (false || (backToKw pos (keywordEach xs env)).any (·.1.isNone)) = false
        rw [h3]
        rfl
section
variable {X : Cx} {W : WX} (hB : G.B.Mono) (hC : MonoC C) (ok : OkX p G k X W)
include hB hC ok
theorem fn_call {u : Value} {nm f : Str} (F : CalP p G C k u nm) (hm : p.mg f = some u) (hk : PySem.W.keepIn G.K u = true) {args : List Expr} {is : Exs} {pp pos : Pos} (hg : Gl X f) (ho : odd f = false) (hst : ∀ e ∈ args, isStar e = false) (hnil : args = [] → is = .nil)
    (ha : PA X args (rdA G C W is)) (i : Ex) (hi : ∀ r Q E, evR G.B C i r Q E → (evAs G.B C is r).R (fun xs => C nm xs Q E) E) : PE X (.Call (.Name f pp) args [] pos) (rdR G C W i) := by
  obtain ⟨o1, o2, o3⟩ := odd_cases ho
  refine ⟨fun pins s σ H Q I ⟨r, re, tb, z⟩ => ?_⟩
  have z := hi _ _ _ z
  have hA : rdA G C W is σ H (fun vs H1 => ∃ ds, RDs G.K H1 ds vs ∧ Tb G H1 ∧ C nm ds (qS G Q H1) (exq G W σ H1)) :=
    a_bind hB hC re tb (LamX.ExtN.refl H) z fun ds vs H1 rs x1 t1 f => ⟨ds, rs, t1, hC _ _ _ _ _ _ (fun x z v H' rr x2 t => z v H' (rr.back x1) (x1.trans x2) t) (fun c ds z => exq.ext x1 c ds z) f⟩
  refine wpAny_Call_Name_kw (ld_glob I hg (by rw [ok.mg]; exact hm) ?_ o1)
  cases args with
  | nil =>
    have kin : G.K.In s.heap := by rw [← ok.bs.K]; exact I.kIn
    refine PySem.W.callWith_K0 kin hk ?_
    have e := hnil rfl
    subst e
    unfold evAs at z
    exact F X W pins σ H s Q [] [] [] ok I .nil .nil tb z
  | cons e es =>
    refine PySem.W.callWith_K (K := G.K) (h₀ := X.base) (by rw [← ok.bs.K]; exact I.ok.mod.kin) hk (thn (ha.run pos pins s σ H _ I hA) fun us s1 ⟨vs, H1, I1, rv, ds, rd, t1, hc⟩ => ⟨by rw [← ok.bs.K]; exact I1.kIn, ?_⟩) (starEach_cons (hst e List.mem_cons_self)) (noStars fun x hx => hst x (List.mem_cons_of_mem _ hx))
    exact F X W pins σ H1 s1 Q us vs ds ok I1 rv rd t1 hc
theorem kw_call {u : Value} {nm : Str} {first : List Value} {ks : List Str} {n : Nat} {pm : List Nat} {args : List Expr} {kws : List Keyword} {is js : Exs} {pos : Pos} {P : Heap → Prop} (hP : ∀ pins σ H s, Inv X pins σ H s → P s.heap → True)
    (hkeep : ∀ h, P h → ∃ k, (k = Keeper.frame ∨ k = Keeper.machine ∨ k = Keeper.boundFrame) ∧ PySem.W.Looks (model X.prog X.w) h (keeperOf u) k)
    (hst : ∀ e ∈ args, isStar e = false) (hks : kws.map (fun (k : Keyword) => k.arg) = ks.map some) (hnil : args = [] → is = .nil) (hlen : args.length = n) (hne : kws ≠ [])
    (ha : PA X args (rdA G C W is)) (hkw : PK X kws (rdA G C W js)) {pins : List (Addr × Obj)} {σ : L2.St} {H : Hp} {s : Shared} {Q : Value → Shared → Prop} {r : Env} {F : List D → List D → Prop} (I : Inv X pins σ H s) (re : RE G.K H r σ) (tb : Tb G H)
    (z : (evAs G.B C is r).R (fun xs => (evAs G.B C js r).R (fun ys => F xs ys) (exq G W σ H)) (exq G W σ H))
    (cont : ∀ us ws vs zs ds es H2 s2, Inv X pins σ H2 s2 → Vals vs us → Vals zs ws → RDs G.K H2 ds vs → RDs G.K H2 es zs → Tb G H2 → ExN H H2 → F ds es → P s2.heap ∧ wpAny (model X.prog X.w) X.A (call u (first ++ us) (ks.zip ws)) Q X.xe s2) :
    wpAny (model X.prog X.w) X.A (callWith pos u first (backTo pos (starEach args X.env)) (backToKw pos (keywordEach kws X.env))) Q X.xe s := by
  obtain ⟨n1, n2, n3⟩ := kwNames (pos := pos) (env := X.env) hks
  have kwrun : ∀ {us : List Value} {vs : List V} {ds : List D} {H1 : Hp} {s1 : Shared}, Inv X pins σ H1 s1 → Vals vs us → RDs G.K H1 ds vs → Tb G H1 → ExN H H1 → (evAs G.B C js r).R (fun ys => F ds ys) (exq G W σ H) →
      wpAny (model X.prog X.w) X.A (evalAll ((backToKw pos (keywordEach kws X.env)).map (·.2))) (fun ws s2 => P s2.heap ∧ wpAny (model X.prog X.w) X.A (call u (first ++ us) (((backToKw pos (keywordEach kws X.env)).filterMap (·.1)).zip ws)) Q X.xe s2) X.xe s1 := fun {us vs ds H1 s1} I1 rv rd t1 x1 z1 => by
    have hA : rdA G C W js σ H1 (fun zs H2 => ∃ es, RDs G.K H2 es zs ∧ Tb G H2 ∧ ExN H1 H2 ∧ F ds es) := a_bind hB hC (re.ext x1) t1 x1 z1 fun es zs H2 rs x2 t2 f => ⟨es, rs, t2, x2, f⟩
    refine thn (hkw.run pos pins s1 σ H1 _ I1 hA) fun ws s2 ⟨zs, H2, I2, rz, es, res, t2, x2, f⟩ => ?_
    rw [n2]
    exact cont us ws vs zs ds es H2 s2 I2 rv rz (rd.stb (ExN.stb x2)) res t2 (x1.trans x2) f
  cases args with
  | nil =>
    have e := hnil rfl
    subst e
    rw [evAs_nilR] at z
    refine PySem.W.callWith_of (P := P) (by rw [n3]; rfl) hkeep (evalArgs_kw2_nil n1 ?_)
    exact kwrun I .nil .nil tb (LamX.ExtN.refl H) z
  | cons e es =>
    have h1 := starEach_cons (env := X.env) (es := es) (hst e List.mem_cons_self)
    have h2 := noStars (env := X.env) (pos := pos) hst
    refine PySem.W.callWith_of (P := P) (by rw [n3, h2]; rfl) hkeep (evalArgs_kw2 n1 ?_ h1)
    have hA : rdA G C W is σ H (fun vs H1 => ∃ ds, RDs G.K H1 ds vs ∧ Tb G H1 ∧ ExN H H1 ∧ (evAs G.B C js r).R (fun ys => F ds ys) (exq G W σ H)) :=
      a_bind hB hC re tb (LamX.ExtN.refl H) z fun ds vs H1 rs x1 t1 f => ⟨ds, rs, t1, x1, f⟩
    exact thn (ha.run pos pins s σ H _ I hA) fun us s1 ⟨vs, H1, I1, rv, ds, rd, t1, x1, f⟩ => kwrun I1 rv rd t1 x1 f
theorem fnk_call {u : Value} {f : Str} {ks : List Str} {n : Nat} {pm : List Nat} (F : CalK p G C k u f ks n pm) (hm : p.mg f = some u) (hk : PySem.W.keepIn G.K u = true) {args : List Expr} {kws : List Keyword} {is js : Exs} {pp pos : Pos} (hg : Gl X f) (ho : odd f = false)
    (hst : ∀ e ∈ args, isStar e = false) (hks : kws.map (fun (k : Keyword) => k.arg) = ks.map some) (hnil : args = [] → is = .nil) (hlen : args.length = n) (hne : kws ≠ []) (hla : exsN is = some n) (hlk : exsN js = some ks.length)
    (ha : PA X args (rdA G C W is)) (hkw : PK X kws (rdA G C W js)) : PE X (.Call (.Name f pp) args kws pos) (rdR G C W (.fnk f pm is js)) := by
  obtain ⟨o1, o2, o3⟩ := odd_cases ho
  refine ⟨fun pins s σ H Q I ⟨r, re, tb, z⟩ => ?_⟩
  refine wpAny_Call_Name_kw (ld_glob I hg (by rw [ok.mg]; exact hm) ?_ o1)
  have z : (evAs G.B C is r).R (fun xs => (evAs G.B C js r).R (fun ys => C f (pm.map fun j => (xs ++ ys).getD j .non) (fun x => ∀ v H', RR G.K H H' x v → ExN H H' → Tb G H' → Q v H') (exq G W σ H)) (exq G W σ H)) (exq G W σ H) := z
  have z2 := evAs_len hB hC hla ((evAs_mono hB hC is r).R _ _ _ _ (fun xs z => evAs_len hB hC hlk z) (fun _ _ z => z) z)
  have z3 : (evAs G.B C is r).R (fun xs => (evAs G.B C js r).R (fun ys => xs.length = n ∧ ys.length = ks.length ∧ C f (pm.map fun j => (xs ++ ys).getD j .non) (fun x => ∀ v H', RR G.K H H' x v → ExN H H' → Tb G H' → Q v H') (exq G W σ H)) (exq G W σ H)) (exq G W σ H) :=
    (evAs_mono hB hC is r).R _ _ _ _ (fun xs ⟨e, z⟩ => (evAs_mono hB hC js r).R _ _ _ _ (fun ys z => ⟨e, z⟩) (fun _ _ z => z) z) (fun _ _ z => z) z2
  refine kw_call hB hC ok (nm := f) (pm := pm) (P := G.K.In) (fun _ _ _ _ _ _ => trivial) (PySem.W.keeps_K hk) hst hks hnil hlen hne ha hkw I re tb z3 fun us ws vs zs ds es H2 s2 I2 rv rz rd rs t2 x2 ⟨l1, l2, hc⟩ => ⟨by rw [← ok.bs.K]; exact I2.kIn, ?_⟩
  refine F X W pins σ H2 s2 Q us ws vs zs ds es ok I2 rv rz (by rw [← rv.length, ← rd.length]; exact l1) (by rw [← rz.length, ← rs.length]; exact l2) rd rs t2 ?_
  exact hC _ _ _ _ _ _ (fun x z v H' rr x3 t => z v H' (rr.back x2) (x2.trans x3) t) (fun c ds z => exq.ext x2 c ds z) hc
end
end
end En
/-! En23: methods of own classes, of objects with slots; class methods. -/
namespace En
open PySem L2 PyProof.Rows
section
variable {p : Pg} {G : Cfg} {g : Gi} {C : Call} {k : Nat} {X : Cx} {W : WX}
/-- the node of a method's call -/
theorem mnode {M : Model} {A : Around} {E : Value → Shared → Prop} {s : Shared} {o : Expr} {m : Str} {ap cp : Pos} {args : List Expr} {kws : List Keyword} {env : PySem.Env} {Q : Value → Shared → Prop} (hsup : isSup o = false) (hl : (ap.endLine == cp.line) = true)
    (hst : ∀ e ∈ args, isStar e = false) (hkw : (backToKw cp (keywordEach kws env)).all (·.1.isSome) = true) (hlen : args.length + kws.length < 20)
    (h : wpAny M A (eval o env) (fun ov s1 => wpAny M A (getMethod ov m (plainOf o env)) (fun fx s2 => wpAny M A (callWith cp fx.1 fx.2 (backTo cp (starEach args env)) (backToKw cp (keywordEach kws env))) Q E s2) E s1) E s) :
    wpAny M A (eval (.Call (.Attribute o m ap) args kws cp) env) Q E s := by
  have few : methodCallForm (args.length + kws.length) (backTo cp (starEach args env)) (backToKw cp (keywordEach kws env)) = true := by
    unfold methodCallForm
    have h3 := noStars (env := env) (pos := cp) hst
    have h4 : (backTo cp (starEach args env)).all (fun x => !x.1) = true := by
      rw [List.all_eq_true]
      intro x hx
      have := List.any_eq_false.mp h3 x hx
      simpa using this
    have h5 : decide (args.length + kws.length + (if (backToKw cp (keywordEach kws env)).isEmpty then 0 else 1) < 30) = true := by
      refine decide_eq_true ?_
      split <;> omega
    rw [h4, hkw, h5]
    rfl
  refine PySem.W.methodCall_KW (pl := plainOf o env) h ?_
  show (do
    let ov ← attributeBase o m env (eval o env)
    standAt ap.atName
    methodCall o m ap cp env ov (args.length + kws.length) (backTo cp (starEach args env)) (backToKw cp (keywordEach kws env))) = _
  rw [attrBase_ok hsup]
  simp only [mcall_line few hl]
variable (hB : G.B.Mono) (hC : MonoC C) (ok : OkX p G k X W)
include hB hC ok
/-- values alone -/
theorem pos_call {u : Value} {first : List Value} {args : List Expr} {is : Exs} {pos : Pos} {P : Heap → Prop}
    (hkeep : ∀ h, P h → ∃ k, (k = Keeper.frame ∨ k = Keeper.machine ∨ k = Keeper.boundFrame) ∧ PySem.W.Looks (model X.prog X.w) h (keeperOf u) k)
    (hst : ∀ e ∈ args, isStar e = false) (hnil : args = [] → is = .nil)
    (ha : PA X args (rdA G C W is)) {pins : List (Addr × Obj)} {σ : L2.St} {H : Hp} {s : Shared} {Q : Value → Shared → Prop} {r : Env} {F : List D → Prop} {H0 : Hp} (I : Inv X pins σ H s) (re : RE G.K H r σ) (tb : Tb G H) (x0 : ExN H0 H)
    (z : (evAs G.B C is r).R (fun xs => F xs) (exq G W σ H0))
    (cont : ∀ us vs ds H2 s2, Inv X pins σ H2 s2 → Vals vs us → RDs G.K H2 ds vs → Tb G H2 → ExN H H2 → F ds → P s2.heap ∧ wpAny (model X.prog X.w) X.A (call u (first ++ us)) Q X.xe s2) :
    wpAny (model X.prog X.w) X.A (callWith pos u first (backTo pos (starEach args X.env)) []) Q X.xe s := by
  cases args with
  | nil =>
    have e := hnil rfl
    subst e
    rw [evAs_nilR] at z
    refine PySem.W.callWith_of (P := P) rfl hkeep (evalArgs_nil3 ?_)
    exact cont [] [] [] H s I .nil .nil tb (LamX.ExtN.refl H) z
  | cons e es =>
    have h1 := starEach_cons (env := X.env) (es := es) (hst e List.mem_cons_self)
    have h2 := noStars (env := X.env) (pos := pos) hst
    have hA : rdA G C W is σ H (fun vs H1 => ∃ ds, RDs G.K H1 ds vs ∧ Tb G H1 ∧ ExN H H1 ∧ F ds) :=
      a_bind hB hC re tb x0 z fun ds vs H1 rs x1 t1 f => ⟨ds, rs, t1, x1, f⟩
    have run := ha.run pos pins s σ H _ I hA
    rw [h1] at run h2 ⊢
    refine PySem.W.callWith_of (P := P) (by rw [h2]; rfl) hkeep (Calls.evalArgs_plain ?_)
    exact thn run fun us s1 ⟨vs, H1, I1, rv, ds, rd, t1, x1, f⟩ => cont us vs ds H1 s1 I1 rv rd t1 x1 f
/-- values and keywords, behind a receiver -/
theorem kw_call2 {u : Value} {first : List Value} {ks : List Str} {args : List Expr} {kws : List Keyword} {is js : Exs} {pos : Pos} {P : Heap → Prop}
    (hkeep : ∀ h, P h → ∃ k, (k = Keeper.frame ∨ k = Keeper.machine ∨ k = Keeper.boundFrame) ∧ PySem.W.Looks (model X.prog X.w) h (keeperOf u) k)
    (hst : ∀ e ∈ args, isStar e = false) (hks : kws.map (fun (k : Keyword) => k.arg) = ks.map some) (hnil : args = [] → is = .nil)
    (ha : PA X args (rdA G C W is)) (hkw : PK X kws (rdA G C W js)) {pins : List (Addr × Obj)} {σ : L2.St} {H0 H : Hp} {s : Shared} {Q : Value → Shared → Prop} {r : Env} {F : List D → List D → Prop} (I : Inv X pins σ H s) (re : RE G.K H r σ) (tb : Tb G H) (x0 : ExN H0 H)
    (z : (evAs G.B C is r).R (fun xs => (evAs G.B C js r).R (fun ys => F xs ys) (exq G W σ H0)) (exq G W σ H0))
    (cont : ∀ us ws vs zs ds es H2 s2, Inv X pins σ H2 s2 → Vals vs us → Vals zs ws → RDs G.K H2 ds vs → RDs G.K H2 es zs → Tb G H2 → ExN H H2 → F ds es → P s2.heap ∧ wpAny (model X.prog X.w) X.A (call u (first ++ us) (ks.zip ws)) Q X.xe s2) :
    wpAny (model X.prog X.w) X.A (callWith pos u first (backTo pos (starEach args X.env)) (backToKw pos (keywordEach kws X.env))) Q X.xe s := by
  obtain ⟨n1, n2, n3⟩ := kwNames (pos := pos) (env := X.env) hks
  have kwrun : ∀ {us : List Value} {vs : List V} {ds : List D} {H1 : Hp} {s1 : Shared}, Inv X pins σ H1 s1 → Vals vs us → RDs G.K H1 ds vs → Tb G H1 → ExN H H1 → (evAs G.B C js r).R (fun ys => F ds ys) (exq G W σ H0) →
      wpAny (model X.prog X.w) X.A (evalAll ((backToKw pos (keywordEach kws X.env)).map (·.2))) (fun ws s2 => P s2.heap ∧ wpAny (model X.prog X.w) X.A (call u (first ++ us) (((backToKw pos (keywordEach kws X.env)).filterMap (·.1)).zip ws)) Q X.xe s2) X.xe s1 := fun {us vs ds H1 s1} I1 rv rd t1 x1 z1 => by
    have hA : rdA G C W js σ H1 (fun zs H2 => ∃ es, RDs G.K H2 es zs ∧ Tb G H2 ∧ ExN H1 H2 ∧ F ds es) := a_bind hB hC (re.ext x1) t1 (x0.trans x1) z1 fun es zs H2 rs x2 t2 f => ⟨es, rs, t2, x2, f⟩
    refine thn (hkw.run pos pins s1 σ H1 _ I1 hA) fun ws s2 ⟨zs, H2, I2, rz, es, res, t2, x2, f⟩ => ?_
    rw [n2]
    exact cont us ws vs zs ds es H2 s2 I2 rv rz (rd.stb (ExN.stb x2)) res t2 (x1.trans x2) f
  cases args with
  | nil =>
    have e := hnil rfl
    subst e
    rw [evAs_nilR] at z
    refine PySem.W.callWith_of (P := P) (by rw [n3]; rfl) hkeep (evalArgs_kw2_nil n1 ?_)
    exact kwrun I .nil .nil tb (LamX.ExtN.refl H) z
  | cons e es =>
    have h1 := starEach_cons (env := X.env) (es := es) (hst e List.mem_cons_self)
    have h2 := noStars (env := X.env) (pos := pos) hst
    refine PySem.W.callWith_of (P := P) (by rw [n3, h2]; rfl) hkeep (evalArgs_kw2 n1 ?_ h1)
    have hA : rdA G C W is σ H (fun vs H1 => ∃ ds, RDs G.K H1 ds vs ∧ Tb G H1 ∧ ExN H H1 ∧ (evAs G.B C js r).R (fun ys => F ds ys) (exq G W σ H0)) :=
      a_bind hB hC re tb x0 z fun ds vs H1 rs x1 t1 f => ⟨ds, rs, t1, x1, f⟩
    exact thn (ha.run pos pins s σ H _ I hA) fun us s1 ⟨vs, H1, I1, rv, ds, rd, t1, x1, f⟩ => kwrun I1 rv rd t1 x1 f
end
/-- a method: of objects of the class c, or of the class itself -/
inductive MthOk (G : Cfg) (m : Str) (gt : Addr) : D → Prop
  | obj {c : Str} (fs : List D) (sc : SlX.SCls G.K (He.ga G.K c)) (me : Meth G.K (He.ga G.K c) m gt) : MthOk G m gt (.obj c fs)
  | cls {c : Str} {q : Addr} {mc : Value} (r : ClX.CRead G.K (He.ga G.K c) mc) (me : ClX.CMet G.K (He.ga G.K c) mc m q gt) : MthOk G m gt (.cls c)
section
variable {p : Pg} {G : Cfg} {g : Gi} {C : Call} {k : Nat} {X : Cx} {W : WX} (hB : G.B.Mono) (hC : MonoC C) (ok : OkX p G k X W)
include hB hC ok
theorem mcl_call {m key : Str} {gt : Addr} (hmo : ∀ d, G.B.mok key d = true → MthOk G m gt d) (F : CalC p G C k gt key) {o : Expr} {io : Ex} {args : List Expr} {is : Exs} {ap cp : Pos} (hl : (ap.endLine == cp.line) = true) (hlen : args.length < 20) (hst : ∀ e ∈ args, isStar e = false) (hnil : args = [] → is = .nil)
    (ho : PE X o (rdV G C W io)) (ha : PA X args (rdA G C W is)) (hsup : isSup o = false) : PE X (.Call (.Attribute o m ap) args [] cp) (rdR G C W (.mcl key io is)) := by
  refine ⟨fun pins s σ H Q I ⟨r, re, tb, z⟩ => mnode hsup hl hst rfl (by simpa using hlen) ?_⟩
  have z : evR G.B C io r (fun x => G.B.mok key x.d = true ∧ (evAs G.B C is r).R (fun xs => C key (x.d :: xs) (fun x => ∀ v H', RR G.K H H' x v → ExN H H' → Tb G H' → Q v H') (exq G W σ H)) (exq G W σ H)) (exq G W σ H) := z
  have hO : rdV G C W io σ H (fun v H1 => ∃ d, RD G.K H1 d v ∧ Tb G H1 ∧ ExN H H1 ∧ G.B.mok key d = true ∧ (evAs G.B C is r).R (fun xs => C key (d :: xs) (fun x => ∀ v H', RR G.K H H' x v → ExN H H' → Tb G H' → Q v H') (exq G W σ H)) (exq G W σ H)) :=
    v_bind hB hC re tb (LamX.ExtN.refl H) z fun x v H1 rd x1 t1 f => ⟨x.d, rd, t1, x1, f.1, f.2⟩
  refine thn (ho.run pins s σ H _ I hO) fun u s1 ⟨v, H1, I1, rv, d, rd, t1, x1, hm, hz⟩ => ?_
  have hmk := hmo d hm
  cases hmk with
  | obj fs sc me =>
    have rd' := rd
    cases rd with
    | @obj _ a dx vs _ hsl rs =>
      obtain rfl : u = Value.ref a := rv
      refine SlX.getmethsl_ok I1 hsl (by rw [ok.bs.K]; exact sc) (by rw [ok.bs.K]; exact me) ?_
      refine pos_call hB hC ok (P := G.K.In) (PySem.W.keeps_K me.kp) hst hnil ha I1 (re.ext x1) t1 x1 hz fun us vs ds H2 s2 I2 rv2 rd2 t2 x2 f => ⟨by rw [← ok.bs.K]; exact I2.kIn, ?_⟩
      exact wpAny_call (F X W pins σ H2 s2 Q (.ref a :: us) (.ref a :: vs) (_ :: ds) ok I2 (.cons rfl rv2) (.cons (rd'.stb (ExN.stb x2)) rd2) t2 (hC _ _ _ _ _ _ (fun x z v H' rr x3 t => z v H' (rr.back (x1.trans x2)) ((x1.trans x2).trans x3) t) (fun c ds z => exq.ext (x1.trans x2) c ds z) f))
  | @cls c q mc r' me =>
    have rd' := rd
    cases rd with
    | cls =>
      obtain rfl : u = Value.ref (He.ga G.K c) := rv
      refine ClX.getmethcm_ok I1 (by rw [ok.bs.K]; exact r') (by rw [ok.bs.K]; exact me) fun s2 I2 => ?_
      refine thn (pos_call hB hC ok (Q := EP X ((s1.heap.objs.size, PySem.W.methodObj (.ref gt) (.ref (He.ga G.K c))) :: pins) σ Q) (P := PySem.W.MethP G.K s1.heap.objs.size gt (.ref (He.ga G.K c))) (PySem.W.keeps_M me.fi) hst hnil ha I2 (re.ext x1) t1 x1 hz fun us vs ds H2 s3 I3 rv2 rd2 t2 x2 f => ⟨⟨ClX.pin_at I3, by rw [← ok.bs.K]; exact I3.kIn⟩, ?_⟩) fun _ _ y => ClX.unpinE y
      refine wpAny_call (PySem.W.method_call (ClX.pin_at I3) ?_)
      exact F X W _ σ H2 s3 Q (.ref (He.ga G.K c) :: us) (.ref (He.ga G.K c) :: vs) (_ :: ds) ok I3 (.cons rfl rv2) (.cons (rd'.stb (ExN.stb x2)) rd2) t2 (hC _ _ _ _ _ _ (fun x z v H' rr x3 t => z v H' (rr.back (x1.trans x2)) ((x1.trans x2).trans x3) t) (fun c ds z => exq.ext (x1.trans x2) c ds z) f)
theorem mck_call {m key : Str} {gt : Addr} {ks : List Str} {n : Nat} {pm : List Nat} (hmo : ∀ d, G.B.mok key d = true → MthOk G m gt d) (F : CalCK p G C k gt key ks n pm) {o : Expr} {io : Ex} {args : List Expr} {kws : List Keyword} {is js : Exs} {ap cp : Pos} (hl : (ap.endLine == cp.line) = true) (hlen : args.length + kws.length < 20) (hst : ∀ e ∈ args, isStar e = false) (hnil : args = [] → is = .nil)
    (hks : kws.map (fun (k : Keyword) => k.arg) = ks.map some) (hla : exsN is = some n) (hlk : exsN js = some ks.length)
    (ho : PE X o (rdV G C W io)) (ha : PA X args (rdA G C W is)) (hkw : PK X kws (rdA G C W js)) (hsup : isSup o = false) : PE X (.Call (.Attribute o m ap) args kws cp) (rdR G C W (.mck key pm io is js)) := by
  refine ⟨fun pins s σ H Q I ⟨r, re, tb, z⟩ => mnode hsup hl hst (kwNames hks).1 hlen ?_⟩
  have z : evR G.B C io r (fun x => G.B.mok key x.d = true ∧ (evAs G.B C is r).R (fun xs => (evAs G.B C js r).R (fun ys => C key (x.d :: pm.map fun j => (xs ++ ys).getD j .non) (fun x => ∀ v H', RR G.K H H' x v → ExN H H' → Tb G H' → Q v H') (exq G W σ H)) (exq G W σ H)) (exq G W σ H)) (exq G W σ H) := z
  have hO : rdV G C W io σ H (fun v H1 => ∃ d, RD G.K H1 d v ∧ Tb G H1 ∧ ExN H H1 ∧ G.B.mok key d = true ∧ (evAs G.B C is r).R (fun xs => (evAs G.B C js r).R (fun ys => xs.length = n ∧ ys.length = ks.length ∧ C key (d :: pm.map fun j => (xs ++ ys).getD j .non) (fun x => ∀ v H', RR G.K H H' x v → ExN H H' → Tb G H' → Q v H') (exq G W σ H)) (exq G W σ H)) (exq G W σ H)) :=
    v_bind hB hC re tb (LamX.ExtN.refl H) z fun x v H1 rd x1 t1 f => ⟨x.d, rd, t1, x1, f.1, by
      have z2 := evAs_len hB hC hla ((evAs_mono hB hC is r).R _ _ _ _ (fun xs z => evAs_len hB hC hlk z) (fun _ _ z => z) f.2)
      exact (evAs_mono hB hC is r).R _ _ _ _ (fun xs ⟨e, z⟩ => (evAs_mono hB hC js r).R _ _ _ _ (fun ys z => ⟨e, z⟩) (fun _ _ z => z) z) (fun _ _ z => z) z2⟩
  refine thn (ho.run pins s σ H _ I hO) fun u s1 ⟨v, H1, I1, rv, d, rd, t1, x1, hm, hz⟩ => ?_
  have hmk := hmo d hm
  cases hmk with
  | obj fs sc me =>
    have rd' := rd
    cases rd with
    | @obj _ a dx vs _ hsl rs =>
      obtain rfl : u = Value.ref a := rv
      refine SlX.getmethsl_ok I1 hsl (by rw [ok.bs.K]; exact sc) (by rw [ok.bs.K]; exact me) ?_
      refine kw_call2 hB hC ok (P := G.K.In) (PySem.W.keeps_K me.kp) hst hks hnil ha hkw I1 (re.ext x1) t1 x1 hz fun us ws vs zs ds es H2 s2 I2 rv2 rz rd2 re2 t2 x2 ⟨l1, l2, f⟩ => ⟨by rw [← ok.bs.K]; exact I2.kIn, ?_⟩
      exact wpAny_call (F X W pins σ H2 s2 Q (.ref a) us ws (.ref a) vs zs _ ds es ok I2 rfl rv2 rz (by rw [← rv2.length, ← rd2.length]; exact l1) (by rw [← rz.length, ← re2.length]; exact l2) (rd'.stb (ExN.stb x2)) rd2 re2 t2 (hC _ _ _ _ _ _ (fun x z v H' rr x3 t => z v H' (rr.back (x1.trans x2)) ((x1.trans x2).trans x3) t) (fun c ds z => exq.ext (x1.trans x2) c ds z) f))
  | @cls c q mc r' me =>
    have rd' := rd
    cases rd with
    | cls =>
      obtain rfl : u = Value.ref (He.ga G.K c) := rv
      refine ClX.getmethcm_ok I1 (by rw [ok.bs.K]; exact r') (by rw [ok.bs.K]; exact me) fun s2 I2 => ?_
      refine thn (kw_call2 hB hC ok (Q := EP X ((s1.heap.objs.size, PySem.W.methodObj (.ref gt) (.ref (He.ga G.K c))) :: pins) σ Q) (P := PySem.W.MethP G.K s1.heap.objs.size gt (.ref (He.ga G.K c))) (PySem.W.keeps_M me.fi) hst hks hnil ha hkw I2 (re.ext x1) t1 x1 hz fun us ws vs zs ds es H2 s3 I3 rv2 rz rd2 re2 t2 x2 ⟨l1, l2, f⟩ => ⟨⟨ClX.pin_at I3, by rw [← ok.bs.K]; exact I3.kIn⟩, ?_⟩) fun _ _ y => ClX.unpinE y
      refine wpAny_call (PySem.W.method_call (ClX.pin_at I3) ?_)
      exact F X W _ σ H2 s3 Q (.ref (He.ga G.K c)) us ws (.ref (He.ga G.K c)) vs zs _ ds es ok I3 rfl rv2 rz (by rw [← rv2.length, ← rd2.length]; exact l1) (by rw [← rz.length, ← re2.length]; exact l2) (rd'.stb (ExN.stb x2)) rd2 re2 t2 (hC _ _ _ _ _ _ (fun x z v H' rr x3 t => z v H' (rr.back (x1.trans x2)) ((x1.trans x2).trans x3) t) (fun c ds z => exq.ext (x1.trans x2) c ds z) f)
end
end En
/-! En24: ghosts: the pail of draws as a list that changes, and back. -/
namespace En
open PySem L2 PyProof.Rows
section
variable {X : Cx} {G : Cfg}
/-- one thing is told otherwise -/
theorem Inv.ghost {pins : List (Addr × Obj)} {σ : L2.St} {H : Hp} {s : Shared} {p : Addr} {o o' : HO} (I : Inv X pins σ H s) (h : H p = some o) (nt : ∀ xs, o ≠ .tup xs) (nf : ∀ a b, o ≠ .frz a b) (nb : ∀ ps, o ≠ .tbl ps) (no : ∀ a, o ≠ .own a)
    (ok' : ObjOk X.prog X.w (upd H p o') s.heap p o') : Inv X pins σ (upd H p o') s := by
  refine I.un (h' := s.heap) (t' := s.toks) (H' := upd H p o') ⟨fun b o q _ _ _ => q, fun b o q _ _ _ => ⟨o.slots, q⟩, fun b o _ n _ => ?_, fun b o q _ => ⟨o, q⟩, fun b ys q => ?_, fun b o u q => ?_, fun b ps q => ⟨#[], ?_⟩⟩ fun b u q => ?_
  · rw [upd_ne (ne_of_none h n).symm]
    exact n
  · rw [upd_ne (ne_of q h (fun z => nt _ z.symm))]
    exact q
  · rw [upd_ne (ne_of q h (fun z => nf _ _ z.symm))]
    exact q
  · rw [upd_ne (ne_of q h (fun z => nb _ z.symm)), q]
    simp
  · by_cases hb : b = p
    · subst hb
      rw [upd_same] at q
      cases q
      exact ok'
    · rw [upd_ne hb] at q
      refine (I.hok b u q).stay (fun c v _ e => e) (fun c q => ?_) fun c ys q => ?_
      · rw [upd_ne (ne_of q h (fun z => no _ z.symm))]
        exact q
      · rw [upd_ne (ne_of q h (fun z => nt _ z.symm))]
        exact q
/-- three ints become a pail -/
theorem Inv.pail {pins : List (Addr × Obj)} {σ : L2.St} {H : Hp} {s : Shared} {p : Addr} {i j k : Int} (I : Inv X pins σ H s) (h : H p = some (.lst [.int i, .int j, .int k])) {wb : Bool} (h0 : PInv wb i j) : Inv X pins σ (upd H p (PailO wb p)) s := by
  have ok := I.hok p _ h
  refine Inv.ghost I h (fun _ z => nomatch z) (fun _ _ z => nomatch z) (fun _ z => nomatch z) (fun _ z => nomatch z) ?_
  obtain ⟨_, its, n, r, e⟩ := ok
  cases r with
  | cons a r =>
    cases r with
    | cons b r =>
      cases r with
      | cons c r =>
        cases r
        obtain ⟨t, rfl⟩ := (show ∃ t, _ = Value.int i t from a)
        obtain ⟨u, rfl⟩ := (show ∃ t, _ = Value.int j t from b)
        obtain ⟨w, rfl⟩ := (show ∃ t, _ = Value.int k t from c)
        refine ⟨⟨i, j, k, t, u, w, n, e, h0⟩, ⟨_, e⟩, fun a b ⟨i, j, k, t, u, w, n, e, h⟩ st => ⟨i, j, k, t, u, w, n, st _ e, h⟩⟩
/-- a pail becomes three ints -/
theorem Inv.thaw {pins : List (Addr × Obj)} {σ : L2.St} {H : Hp} {s : Shared} {p : Addr} {wb : Bool} (I : Inv X pins σ H s) (h : H p = some (PailO wb p)) : ∃ i j k : Int, PInv wb i j ∧ Inv X pins σ (upd H p (.lst [.int i, .int j, .int k])) s := by
  have ok := I.hok p _ h
  obtain ⟨⟨i, j, k, t, u, w, n, e, h0⟩, _, _⟩ := ok
  refine ⟨i, j, k, h0, Inv.ghost I h (fun _ z => by unfold PailO at z; cases z) (fun _ _ z => by unfold PailO at z; cases z) (fun _ z => by unfold PailO at z; cases z) (fun _ z => by unfold PailO at z; cases z) ?_⟩
  exact ⟨by simp only [sizeLine_eq, List.length_cons, List.length_nil]; omega, [.int i t, .int j u, .int k w], n, .cons ⟨t, rfl⟩ (.cons ⟨u, rfl⟩ (.cons ⟨w, rfl⟩ .nil)), e⟩
theorem Tabs.upd {T : List (Addr × Str)} {H : Hp} {p : Addr} {o o' : HO} (t : LamX.Tabs T H) (h : H p = some o) (nb : ∀ ps, o ≠ .tbl ps) (nc : ∀ q, o ≠ LamX.CodeO p q) : LamX.Tabs T (L2.upd H p o') := fun q hq => by
  obtain ⟨ps, h1, h2, h3⟩ := t q hq
  refine ⟨ps, ?_, h2, fun pos cv hc => ?_⟩
  · rw [upd_ne (ne_of h1 h (fun z => nb _ z.symm))]
    exact h1
  · obtain ⟨c, e1, e2⟩ := h3 pos cv hc
    refine ⟨c, e1, ?_⟩
    have hne : c ≠ p := fun z => by
      subst z
      rw [h] at e2
      exact nc _ (Option.some.inj e2)
    rw [upd_ne hne]
    exact e2
theorem pail_code {pins : List (Addr × Obj)} {σ : L2.St} {H : Hp} {s : Shared} {p : Addr} {wb : Bool} (I : Inv X pins σ H s) (h : H p = some (PailO wb p)) (q : Str) : PailO wb p ≠ LamX.CodeO p q := fun z => by
  have ok := I.hok p _ h
  obtain ⟨⟨i, j, k, t, u, w, n, e, _⟩, _, _⟩ := id ok
  rw [z] at ok
  obtain ⟨⟨oc, vs, t', e', d, _⟩, _, _⟩ := ok
  rw [e] at e'
  cases e'
  cases d
end
/-! ### statements over a pail that is a list meanwhile -/
section
variable {X : Cx} {G : Cfg}
/-- a return that makes a pail of three ints -/
def gR (wb : Bool) (Q : VK) : VK := fun v H => ∃ p i j k, H p = some (.lst [.int i, .int j, .int k]) ∧ PInv wb i j ∧ Q v (upd H p (PailO wb p))
theorem pss_gR {wb : Bool} {sts : List Stmt} {t : TS} (h : PSs X sts t) : PSs X sts fun D σ H => t { D with rt := gR wb D.rt } σ H := by
  refine ⟨fun pins s σ H D I q => thn (h.run pins s σ H _ I q) fun fl s1 z => ?_⟩
  cases fl with
  | next => exact z
  | cont => exact z
  | brk => exact z
  | ret v =>
    obtain ⟨v, σ1, H1, I1, rv, p, i, j, k, e, h0, q⟩ := z
    exact ⟨v, σ1, _, Inv.pail I1 e h0, rv, q⟩
/-- a pail that is thawed ahead -/
theorem pss_gS {wb : Bool} {sts : List Stmt} {t : TS} (h : PSs X sts t) : PSs X sts fun D σ H => ∃ p, H p = some (PailO wb p) ∧ (∀ q, PailO wb p ≠ LamX.CodeO p q → True) ∧ ∀ i j k : Int, PInv wb i j → (∀ q, PailO wb p ≠ LamX.CodeO p q) → t D σ (upd H p (.lst [.int i, .int j, .int k])) := by
  refine ⟨fun pins s σ H D I ⟨p, e, _, q⟩ => ?_⟩
  obtain ⟨i, j, k, h0, I'⟩ := Inv.thaw I e
  exact h.run pins s σ _ D I' (q i j k h0 (pail_code I e))
end
/-! ### the two defs of draws -/
section
variable {p : Pg} {G : Cfg} {g : Gi} {C : Call}
theorem lstCode (xs : List V) (a : Addr) (q : Str) : HO.lst xs ≠ LamX.CodeO a q := fun z => by unfold LamX.CodeO at z; cases z
/-- a def that returns three ints, which become a pail -/
theorem fn_begun {k : Nat} (kn : Kn g G C (OkX p G k)) (er : ErrOk p G g C k) {x qual : Str} {params : Arguments} {body : List Stmt} {scope : Scope} {dvs : List V} {kws : List (Str × V)} {f : Addr} {fd : FuncData} {N ps mu : List Str} {n : Nat} {b : Sms}
    (F : FunD G.K x qual params body scope dvs kws f fd) (S : FnScope N ps scope) (hc : compSs g N mu n scope body = some b) (hlm : LmV p G (qual ++ ".<locals>.") fd.code)
    {wb : Bool} {C' : Call} {nm : Str} (hC' : ∀ ds Q E, C' nm ds Q E → exSs G.B C b { nx := fun _ => False, rt := fun x _ => ∃ i j k : Int, x = .fr [.int i, .int j, .int k] ∧ PInv wb i j ∧ Q (.v (.pal wb)) } (startD N.length ds) E) : FnG p G C' (k + 1) f fd ps nm := by
  obtain ⟨oc, od, dV, kV, doc, pm, an, cdv, ct, osl, rfl, lk, hcd, _, _⟩ := F.ex
  intro A outer s H args us vs ds Q E hr hg e0 hb r rd tb hl h
  refine LamX.run_ofS (N := N) lk hcd S hr e0 hb r (by rw [← rd.length]; exact hl) fun hr2 => ⟨_, pss_gR (wb := wb) (compSs_ok (H0 := H) (E := E) kn S.nd (X := cxOf (L2.CX p.P p.w) p.P p.w G.K p.mg p.base N qual scope f cdv A outer s H E) ?_ rfl rfl n body b hc), ?_⟩
  · have ok : OkX p G k (cxOf (L2.CX p.P p.w) p.P p.w G.K p.mg p.base N qual scope f cdv A outer s H E) (wE E) :=
      ⟨rfl, rfl, rfl, rfl, ⟨rfl, hr2.units, rfl, S.nd⟩, hr2, hg, takes_of rfl rfl rfl rfl, hlm, fun _ _ _ _ _ z => z⟩
    exact ⟨ok, passes_of rfl, takes_of rfl rfl rfl rfl, fun _ => rfl, by show Env.blockKind _ = _; unfold Env.blockKind; rw [show (cxOf (L2.CX p.P p.w) p.P p.w G.K p.mg p.base N qual scope f cdv A outer s H E).env.scope.kind = .function from S.kind]; rfl, S.kind, er _ E ok⟩
  · refine ⟨startD N.length ds, { nx := fun _ => False, rt := fun x _ => ∃ i j k : Int, x = .fr [.int i, .int j, .int k] ∧ PInv wb i j ∧ qS G Q H (.v (.pal wb)) }, ⟨RE.start rd, fun i xs t q e _ => ?_, LamX.ExtN.refl H, tb⟩, ⟨fun r' σ' H' si _ z => z.elim, fun x v r' σ' H' si rr z => ?_, fun _ _ _ _ _ z => z.elim, fun _ _ _ _ _ z => z.elim⟩, hC' _ _ _ h⟩
    · obtain ⟨d, _, e2⟩ := startD_get e
      cases e2
    · obtain ⟨i, j, k, e, h0, q⟩ := z
      subst e
      obtain ⟨a, ws, rfl, fr, e1, rs⟩ := rr
      have e : ws = [V.int i, V.int j, V.int k] := by
        cases rs with
        | cons r1 rs =>
          cases rs with
          | cons r2 rs =>
            cases rs with
            | cons r3 rs =>
              cases rs
              cases r1
              cases r2
              cases r3
              rfl
      subst e
      exact ⟨a, i, j, k, e1, h0, q _ _ (.pail upd_same) (ExN.frz si.ex fr) (Tabs.upd si.tb e1 (fun _ z => nomatch z) (lstCode _ a))⟩
def noA (H : Hp) (a : Addr) : Hp := fun b => if b = a then none else H b
theorem noA_same {H : Hp} {a : Addr} : noA H a a = none := by unfold noA; rw [if_pos rfl]
theorem noA_ne {H : Hp} {a b : Addr} (h : b ≠ a) : noA H a b = H b := by unfold noA; rw [if_neg h]
theorem ints3 {K : PySem.W.Frag} {H : Hp} {i j k : Int} {ws : List V} (rs : RDs K H [.int i, .int j, .int k] ws) : ws = [V.int i, V.int j, V.int k] := by
  cases rs with
  | cons r1 rs =>
    cases rs with
    | cons r2 rs =>
      cases rs with
      | cons r3 rs =>
        cases rs
        cases r1
        cases r2
        cases r3
        rfl
/-- a frame whose first name is such a list -/
def startP (a : Addr) (i j l m : Int) (n : Nat) : Env := some (.own [.int i, .int j, .int l] (some a)) :: some (.val (.int m)) :: List.replicate (n - 2) none
theorem startP_own {a : Addr} {i j l m : Int} {n ix : Nat} {xs : List D} {t : Option Addr} (e : (startP a i j l m n)[ix]? = some (some (.own xs t))) : ix = 0 ∧ xs = [.int i, .int j, .int l] ∧ t = some a := by
  unfold startP at e
  match ix, e with
  | 0, e =>
    simp only [List.getElem?_cons_zero, Option.some.injEq, Slot.own.injEq] at e
    exact ⟨rfl, e.1.symm, e.2.symm⟩
  | 1, e => simp at e
  | ix + 2, e =>
    simp only [List.getElem?_cons_succ] at e
    cases List.eq_of_mem_replicate (List.mem_of_getElem? e)
/-- a def whose first parameter is a pail: a list of three ints within -/
theorem fn_cast {k : Nat} (kn : Kn g G C (OkX p G k)) (er : ErrOk p G g C k) {x qual : Str} {params : Arguments} {body : List Stmt} {scope : Scope} {dvs : List V} {kws : List (Str × V)} {f : Addr} {fd : FuncData} {N mu : List Str} {p0 p1 : Str} {n : Nat} {b : Sms}
    (F : FunD G.K x qual params body scope dvs kws f fd) (S : FnScope N [p0, p1] scope) (hc : compSs g N mu n scope body = some b) (hlm : LmV p G (qual ++ ".<locals>.") fd.code)
    {wb : Bool} {C' : Call} {nm : Str} (hC' : ∀ ds Q E, C' nm ds Q E → ∃ m : Int, ds = [.pal wb, .int m] ∧ ∀ (a : Addr) (i j l : Int), PInv wb i j →
      exSs G.B C b { nx := fun _ => False, rt := fun x r => ∃ i j l m : Int, x = .v (.int m) ∧ r[0]? = some (some (.own [.int i, .int j, .int l] (some a))) ∧ PInv wb i j ∧ Q (.v (.int m)) } (startP a i j l m N.length) E0) : FnG p G C' (k + 1) f fd [p0, p1] nm := by
  obtain ⟨oc, od, dV, kV, doc, pm, an, cdv, ct, osl, rfl, lk, hcd, _, _⟩ := F.ex
  intro A outer s H args us vs ds Q E hr hg e0 hb r rd tb hl h
  obtain ⟨m, e, hz⟩ := hC' _ _ _ h
  subst e
  cases rd with
  | cons rp rd =>
    cases rd with
    | cons rm rd =>
      cases rd
      cases rm
      cases rp with
      | @pail wb2 a hpa =>
        refine LamX.run_ofS (N := N) lk hcd S hr e0 hb r rfl fun hr2 => ⟨_, pss_gS (wb := wb) (pss_gR (wb := wb) (compSs_ok (H0 := noA H a) (E := E) kn S.nd (X := cxOf (L2.CX p.P p.w) p.P p.w G.K p.mg p.base N qual scope f cdv A outer s H E) ?_ rfl rfl n body b hc)), ?_⟩
        · have ok : OkX p G k (cxOf (L2.CX p.P p.w) p.P p.w G.K p.mg p.base N qual scope f cdv A outer s H E) (wE E) :=
            ⟨rfl, rfl, rfl, rfl, ⟨rfl, hr2.units, rfl, S.nd⟩, hr2, hg, takes_of rfl rfl rfl rfl, hlm, fun _ _ _ _ _ z => z⟩
          exact ⟨ok, passes_of rfl, takes_of rfl rfl rfl rfl, fun _ => rfl, by show Env.blockKind _ = _; unfold Env.blockKind; rw [show (cxOf (L2.CX p.P p.w) p.P p.w G.K p.mg p.base N qual scope f cdv A outer s H E).env.scope.kind = .function from S.kind]; rfl, S.kind, er _ E ok⟩
        · refine ⟨a, hpa, fun _ _ => trivial, fun i j l h0 nc => ?_⟩
          have hN : 2 ≤ N.length := by
            have := congrArg List.length S.pre
            simp at this
            omega
          have xH : ExN (noA H a) (upd H a (.lst [.int i, .int j, .int l])) := fun b o e _ => by
            have hb : b ≠ a := fun z => by rw [z, noA_same] at e; cases e
            rw [upd_ne hb]
            rw [noA_ne hb] at e
            exact e
          have tH : Tb G (upd H a (.lst [.int i, .int j, .int l])) := Tabs.upd tb hpa (fun _ z => by unfold PailO at z; cases z) nc
          refine ⟨startP a i j l m N.length, { nx := fun _ => False, rt := fun x r => ∃ i j l m : Int, x = .v (.int m) ∧ r[0]? = some (some (.own [.int i, .int j, .int l] (some a))) ∧ PInv wb i j ∧ qS G Q H (.v (.int m)) }, ⟨⟨fun ix sl e => ?_, fun ix jx xs ys t u v e1 e2 _ _ => ?_, ?_⟩, fun ix xs t q e e2 => ?_, xH, tH⟩, ⟨fun _ _ _ _ _ z => z.elim, fun x v r' σ' H' si rr z => ?_, fun _ _ _ _ _ z => z.elim, fun _ _ _ _ _ z => z.elim⟩, ?_⟩
          · unfold startP at e
            match ix, e with
            | 0, e =>
              simp only [List.getElem?_cons_zero, Option.some.injEq] at e
              subst e
              exact ⟨.ref a, rfl, a, _, rfl, upd_same, .cons (.int _) (.cons (.int _) (.cons (.int _) .nil)), fun b z => Option.some.inj z⟩
            | 1, e =>
              simp at e
              subst e
              exact ⟨.int m, rfl, .int _⟩
            | ix + 2, e =>
              simp only [List.getElem?_cons_succ] at e
              cases List.eq_of_mem_replicate (List.mem_of_getElem? e)
          · rw [(startP_own e1).1, (startP_own e2).1]
          · unfold startP L2.start
            simp
          · obtain ⟨e3, _, _⟩ := startP_own e
            subst e3
            have e2 : some (some (V.ref a)) = some (some (V.ref q)) := e2
            cases e2
            exact Fr.of noA_same
          · obtain ⟨i', j', l', m', e, e0', h0', q⟩ := z
            subst e
            obtain ⟨v0, w0, a0, us0, ev, el, rs, ta⟩ := si.re.at_ 0 _ e0'
            have ea := ta a rfl
            subst ea
            have ew := ints3 rs
            subst ew ev
            refine ⟨a0, i', j', l', el, h0', ?_⟩
            have rr : RD G.K H' (.int m') v := rr
            cases rr
            refine q _ _ (.int m') (fun b o e n => ?_) (Tabs.upd si.tb el (fun _ z => nomatch z) (lstCode _ a0))
            by_cases hb : b = a0
            · subst hb
              rw [hpa] at e
              cases e
              exact upd_same
            · rw [upd_ne hb]
              exact si.ex b o (by rw [noA_ne hb]; exact e) n
          · refine exSs_mono kn.hB kn.hC b _ _ _ E0 _ ⟨fun _ z => z, fun _ _ z => z, fun _ z => z, fun _ z => z⟩ (fun _ _ z => z.elim) (hz a i j l h0)
end
end En
/-! En25: len, str, repr, bool of own objects. -/
namespace En
open PySem L2 PyProof.Rows
/-- a def of the class c that a built-in calls -/
structure Spc (p : Pg) (G : Cfg) (C' : Call) (k : Nat) (c m nm : Str) : Prop where
  ex : ∃ (g : Addr) (fd : FuncData) (ps : List Str), FnG p G C' k g fd ps nm ∧ Binds G.K fd ps [] ∧ ps.length = 1 ∧ PySem.W.findIn G.K (.ref (He.ga G.K c)) m = some (some (.ref g)) ∧ PySem.W.isFn G.K (.ref g) = true
section
variable {p : Pg} {G : Cfg} {C' : Call} {k : Nat} {X : Cx} {W : WX}
/-- it is called -/
theorem spc_run (hfl : p.fl = false) (hC : MonoC C') {j : Nat} (ok : OkX p G j X W) {g : Addr} {fd : FuncData} {ps : List Str} {nm : Str} (F : FnG p G C' k g fd ps nm) (hb : Binds G.K fd ps []) (hps : ps.length = 1) {A : Around} (hr : Room k A)
    {pins : List (Addr × Obj)} {σ : L2.St} {H : Hp} {s : Shared} (e0 : Env0 X.prog X.w X.K X.mg X.base A X.stack s H) (I : Inv X pins σ H s) {d : D} {a : Addr} (rd : RD G.K H d (.ref a)) (tb : Tb G H) {Q : VK} (h : C' nm [d] (qS G Q H) E0) :
    wpAny (model X.prog X.w) A (call (.ref g) [.ref a]) (EP X pins σ Q) X.xe s := by
  have FR := F.run hfl hb
  rw [← ok.P, ← ok.w, ← ok.bs.K, ← ok.mg, ← ok.base] at FR
  refine wpAny_call (SlX.run_at (us := [.ref a]) (ws := [.ref a]) (E := fun _ _ _ => False) FR hr e0 ?_ I (.cons rfl .nil) ?_)
  · intro pins σ H s e s' _ ⟨_, _, _, _, _, _, _, _, _, _, _, _, z⟩
    exact z.elim
  · exact ⟨[d], .cons rd .nil, tb, by simp [hps], hC _ _ _ _ _ _ (fun _ z => z) (fun _ _ z => z.elim) h⟩
theorem ob_len (hfl : p.fl = false) (hC : MonoC C') (ok : OkX p G (k + 1) X W) {nm : Str → Str} : CallR X (.builtin "len") (rBlt G fun ds Q => ∃ c fs, ds = [.obj c fs] ∧ Spc p G C' k c "__len__" (nm c) ∧ C' (nm c) [.obj c fs] (fun r => ∃ n : Int, r = .v (.int n) ∧ 0 ≤ n ∧ n < 1000000 ∧ Q (.v (.int n))) E0) := by
  intro pins s σ H xs us Q I rv ⟨ds, rb, tb, c, fs, e, sp, z⟩
  subst e
  obtain ⟨v, rfl, rx⟩ := rbs1 rb
  have rd := rx.rd (fun _ z => nomatch z)
  have rd' := rd
  cases rd with
  | @obj _ a dx vs _ hsl rs =>
    obtain ⟨u, rfl, ru⟩ := rv.one
    cases (show u = Value.ref a from ru)
    obtain ⟨g, fd, ps, F, hb, hps, hf, hi⟩ := sp.ex
    obtain ⟨sl, od, _, J, _⟩ := SlX.slt_inst I hsl
    obtain ⟨m, hF⟩ := I.fr
    refine PySem.W.len_K hF I.ok.mod.kin J (by rw [ok.bs.K]; exact hf) (by rw [ok.bs.K]; exact hi) ?_
    have z2 : C' (nm c) [.obj c fs] (qS G (fun v H' => ∃ n : Int, v = .int n ∧ 0 ≤ n ∧ n < 1000000 ∧ Q (.int n) H') H) E0 := by
      refine hC _ _ _ _ _ _ ?_ (fun _ _ z => z) z
      intro r hr v H' rr x t
      obtain ⟨n, e, h0, h1, q⟩ := hr
      subst e
      have rr : RD G.K H' (.int n) v := rr
      cases rr
      exact ⟨n, rfl, h0, h1, q _ H' (.int n) x t⟩
    refine thn (spc_run hfl hC ok F hb hps ok.room.in1 I.env0.in1 I rd' tb z2) ?_
    intro w s' hw
    obtain ⟨v, H', I', rv', n, e, h0, h1, q⟩ := hw
    subst e
    obtain ⟨t, rfl⟩ := (show ∃ t, w = Value.int n t from rv')
    exact ⟨⟨h0, by omega⟩, .int n, H', I'.tok _, ⟨_, rfl⟩, q⟩
theorem ob_repr (hfl : p.fl = false) (hC : MonoC C') (ok : OkX p G (k + 1) X W) {nm : Str → Str} : CallR X (.builtin "repr") (rBlt G fun ds Q => ∃ c fs, ds = [.obj c fs] ∧ Spc p G C' k c "__repr__" (nm c) ∧ C' (nm c) [.obj c fs] (fun r => ∃ x, r = .v (.str x) ∧ Q (.v (.str x))) E0) := by
  intro pins s σ H xs us Q I rv ⟨ds, rb, tb, c, fs, e, sp, z⟩
  subst e
  obtain ⟨v, rfl, rx⟩ := rbs1 rb
  have rd := rx.rd (fun _ z => nomatch z)
  have rd' := rd
  cases rd with
  | @obj _ a dx vs _ hsl rs =>
    obtain ⟨u, rfl, ru⟩ := rv.one
    cases (show u = Value.ref a from ru)
    obtain ⟨g, fd, ps, F, hb, hps, hf, hi⟩ := sp.ex
    obtain ⟨sl, od, _, J, _⟩ := SlX.slt_inst I hsl
    obtain ⟨m, hF⟩ := I.fr
    refine PySem.W.repr_K ok.room.in1.units0 hF I.ok.mod.kin J (by rw [ok.bs.K]; exact hf) (by rw [ok.bs.K]; exact hi) ?_
    have z2 : C' (nm c) [.obj c fs] (qS G (fun v H' => ∃ x : Str, v = .str x ∧ Q (.str x) H') H) E0 := by
      refine hC _ _ _ _ _ _ ?_ (fun _ _ z => z) z
      intro r hr v H' rr x t
      obtain ⟨n, e, q⟩ := hr
      subst e
      have rr : RD G.K H' (.str n) v := rr
      cases rr
      exact ⟨n, rfl, q _ H' (.str n) x t⟩
    refine thn (spc_run hfl hC ok F hb hps ok.room.in1 I.env0.in1 I rd' tb z2) ?_
    intro w s' hw
    obtain ⟨v, H', I', rv', n, e, q⟩ := hw
    subst e
    obtain ⟨t, rfl⟩ := (show ∃ t, w = Value.str n t from rv')
    exact ⟨.str n, H', I', ⟨_, rfl⟩, q⟩
theorem ob_str (hfl : p.fl = false) (hC : MonoC C') (ok : OkX p G (k + 2) X W) {nm : Str → Str} : CallR X (.type "str") (rBlt G fun ds Q => ∃ c fs, ds = [.obj c fs] ∧ Spc p G C' k c "__str__" (nm c) ∧ C' (nm c) [.obj c fs] (fun r => ∃ x, r = .v (.str x) ∧ Q (.v (.str x))) E0) := by
  intro pins s σ H xs us Q I rv ⟨ds, rb, tb, c, fs, e, sp, z⟩
  subst e
  obtain ⟨v, rfl, rx⟩ := rbs1 rb
  have rd := rx.rd (fun _ z => nomatch z)
  have rd' := rd
  cases rd with
  | @obj _ a dx vs _ hsl rs =>
    obtain ⟨u, rfl, ru⟩ := rv.one
    cases (show u = Value.ref a from ru)
    obtain ⟨g, fd, ps, F, hb, hps, hf, hi⟩ := sp.ex
    obtain ⟨sl, od, _, J, _⟩ := SlX.slt_inst I hsl
    have hr2 : Room k X.A.in1.in1 := (show Room (k + 1) X.A.in1 from Room.in1 ok.room).in1
    refine PySem.W.kso_call hr2.units0 I.kIn J (by rw [ok.bs.K]; exact hf) (by rw [ok.bs.K]; exact hi) ?_
    have z2 : C' (nm c) [.obj c fs] (qS G (fun v H' => ∃ x : Str, v = .str x ∧ Q (.str x) H') H) E0 := by
      refine hC _ _ _ _ _ _ ?_ (fun _ _ z => z) z
      intro r hr v H' rr x t
      obtain ⟨n, e, q⟩ := hr
      subst e
      have rr : RD G.K H' (.str n) v := rr
      cases rr
      exact ⟨n, rfl, q _ H' (.str n) x t⟩
    refine thn (spc_run hfl hC ok F hb hps hr2 I.env0.in1.in1 I rd' tb z2) ?_
    intro w s' hw
    obtain ⟨v, H', I', rv', n, e, q⟩ := hw
    subst e
    obtain ⟨t, rfl⟩ := (show ∃ t, w = Value.str n t from rv')
    exact ⟨.str n, H', I', ⟨_, rfl⟩, q⟩
end
/-! ### truth of an object with __len__ -/
section
open PySem.W Builtin
variable {prog : Program} {w : World} {A : Around} {E : Value → Shared → Prop} {s : Shared} {K : Frag} {x C f : Addr} {ox : Obj} {od : Option Obj}
theorem len_tree {Q : Value → Shared → Prop} (X : K.In s.heap) (I : InstAt s.heap x ox C od) (hs : findIn K (.ref C) "__len__" = some (some (.ref f))) (hf : isFn K (.ref f) = true)
    (h : wpAny (model prog w) A (call (.ref f) [.ref x]) (PySem.W.LenBack Q) E s) : wpAny (model prog w) A (Builtin.«len» ⟨[.ref x], []⟩) (fun fin s' => ∃ v, fin = .done (.ret v) ∧ Q v s') E s := by
  unfold Builtin.«len»
  refine wpAny_bind (m := oneArg "len" _) (wpAny_pure ?_)
  refine wpAny_bind (m := callSpecial? (.ref x) (Str.ofString "__len__")) (special_fn X I hs (beq_iff_eq.mp hf) (wpAny_mono h (fun r s' hr => ?_) fun _ _ y => y))
  cases r <;> first | exact hr.elim | skip
  rename_i n u
  obtain ⟨⟨h0, h1⟩, hq⟩ := hr
  refine wpAny_bind (wpAny_holding (wpAny_pure ?_))
  refine wpAny_bind (wpAny_letGo ?_)
  show wpAny _ _ (if n < 0 then _ else _) _ _ _
  rw [if_neg (by omega)]
  show wpAny _ _ (if n ≥ 2 ^ 63 then _ else _) _ _ _
  rw [if_neg (by omega)]
  exact wpAny_bind (wpAny_mkInt (wpAny_pure ⟨_, rfl, hq⟩))
def TruBack (Q : Bool → Shared → Prop) (v : Value) (s' : Shared) : Prop := match v with
  | .int n _ => (0 ≤ n ∧ n < 2 ^ 63) ∧ ∀ t, Q (n != 0) { s' with toks := t }
  | _ => False
theorem truthy_len {Q : Bool → Shared → Prop} (X : K.In s.heap) (I : InstAt s.heap x ox C od) (hb : findIn K (.ref C) "__bool__" = some none) (hs : findIn K (.ref C) "__len__" = some (some (.ref f))) (hf : isFn K (.ref f) = true)
    (h : wpAny (model prog w) A.in1 (call (.ref f) [.ref x]) (TruBack Q) E s) : wpAny (model prog w) A (truthy (.ref x)) Q E s := by
  unfold truthy
  refine wpAny_bind (m := callSpecial? (.ref x) (Str.ofString "__bool__")) (wpAny_bind (wpAny_bind (I.type.here ((looks_findIn X hb).here (wpAny_pure ?_)))))
  refine wpAny_bind (wpAny_bind (I.type.here ((looks_findIn X hs).here ?_)))
  show wpAny _ _ (if (some (Value.ref f)).isNone = true then _ else _) _ _ _
  rw [if_neg (by simp)]
  refine wpAny_bind (wpAny_runValue (codeAny_builtin entry_len ?_))
  rw [Around.under_plainId plain_len _]
  refine wpAny_mono (len_tree (Q := fun v s' => ∃ n t, v = .int n t ∧ Q (n != 0) s') X I hs hf (wpAny_mono h (fun v s' hv => ?_) fun _ _ y => y)) (fun fin s' hv => ?_) fun _ _ y => y
  · cases v <;> first | exact hv.elim | skip
    exact ⟨hv.1, _, _, rfl, hv.2 _⟩
  · obtain ⟨v, rfl, n, t, rfl, q⟩ := hv
    exact wpAny_pure q
theorem bool_own {Q : Value → Shared → Prop} (X : K.In s.heap) (I : InstAt s.heap x ox C od) (hb : findIn K (.ref C) "__bool__" = some none) (hs : findIn K (.ref C) "__len__" = some (some (.ref f))) (hf : isFn K (.ref f) = true)
    (h : wpAny (model prog w) A.in1.in1.in1 (call (.ref f) [.ref x]) (TruBack fun b s' => Q (.bool b) s') E s) : wpAny (model prog w) A (call (.type "bool") [.ref x]) Q E s := by
  refine callType_codes (T := "bool") (Bi := Builtin.«object.__init__») (Q₁ := fun r s₁ => ∃ y, r = .bool y ∧ Q r s₁) PySem.F.called_bool (PySem.F.typeCall_bool_1 _) PySem.F.entry_object_init ?_ ?_
  · refine codeAny_of_tree ?_
    show wpAny _ A.in1.in1 (do checkBuiltinCall "bool.__new__" ⟨[.type "bool", .ref x], []⟩; again (.builtin "bool.__new__" ⟨[.type "bool", .ref x], []⟩)) _ _ s
    refine wpAny_bind (wpAny_of_eq (PySem.F.newCall_bool_1 _) (wpAny_pure ⟨plainId_quiet (by decide +kernel) _, codeAny_builtin PySem.F.entry_bool_new ?_⟩))
    rw [Around.under_plainId (by decide +kernel) _]
    unfold Builtin.«bool.__new__»
    refine wpAny_bind (wpAny_pure ?_)
    refine wpAny_bind (wpAny_of_eq PySem.F.conv_sub_bool ?_)
    refine wpAny_bind (m := someArgs "bool" 0 1 _) (wpAny_pure ?_)
    refine wpAny_bind (wpAny_mono (truthy_len (Q := fun b s' => Q (.bool b) s') X I hb hs hf h) (fun b s' hq => ?_) fun _ _ y => y)
    exact wpAny_pure ⟨_, rfl, hq⟩
  · rintro obj s₁ ⟨y, rfl, hq⟩
    exact ⟨PySem.typeIs_bool _ _, PySem.F.args_object_init_2 _ _, object_init_meets PySem.F.called_bool.init.lookup PySem.F.called_bool.made (by decide) prog w A.in1 _ s₁ ⟨PySem.typeIs_bool _ _, rfl, hq⟩⟩
end
end En
namespace En
open PySem L2 PyProof.Rows TL
/-! Eq1: == and != of own objects, by the class's __eq__. -/
section
variable {M : Model} {prog : Program} {w : World} {A : Around} {E : Value → Shared → Prop} {s : Shared} {K : PySem.W.Frag} {x C f : Addr} {ox : Obj} {od : Option Obj}
open PySem.SeqAt
theorem ifBound_objNe {args : List Value} {Q : Option Value → Shared → Prop} (X : K.In s.heap) (I : PySem.W.InstAt s.heap x ox C od) (hs : PySem.W.findIn K (.ref C) "__ne__" = some (some (.builtin "object.__ne__")))
    (h : wpAny M A (call (.builtin "object.__ne__") (.ref x :: args)) (fun v => Q (some v)) E s) : wpAny M A (callSpecialIfBound? (.ref x) "__ne__" args) Q E s := by
  simp only [callSpecialIfBound?, bindSpecialIfBound?]
  refine wpAny_holding (wpAny_bind (wpAny_bind (wpAny_bind (I.type.here ((PySem.W.looks_findIn X hs).here ?_)))))
  refine wpAny_bind (wpAny_askSetting (wpAny_ite ?_))
  have done_ : wpAny M A (call (.builtin "object.__ne__") ([.ref x] ++ args) >>= fun v => pure (some v)) Q E s := wpAny_bind (wpAny_mono h (fun v s' h' => wpAny_pure h') fun _ _ h' => h')
  split
  · exact wpAny_bind (wpAny_of_eq (F.cmp_object.ne.bind _) (wpAny_pure (by exact done_)))
  · exact wpAny_tryCatch (wpAny_bind (wpAny_of_eq (F.cmp_object.ne.bind _) (wpAny_pure (by exact done_))))
theorem entry_objNe {Q : PySem.Fin → Shared → Prop} {b : Value} (hu : A.units < cLine) (X : K.In s.heap) (I : PySem.W.InstAt s.heap x ox C od) (hs : PySem.W.findIn K (.ref C) "__eq__" = some (some (.ref f))) (hf : PySem.W.isFn K (.ref f) = true)
    (h : wpAny (model prog w) A (call (.ref f) [.ref x, b]) (fun v s' => ∃ t, v = .bool t ∧ Q (.done (.ret (.bool (!t)))) s') E s) : wpAny (model prog w) A (Builtin.«object.__ne__» ⟨[.ref x, b], []⟩) Q E s := by
  unfold Builtin.«object.__ne__»
  repeat (first
    | with_reducible refine wpAny_cRoomFor hu ?_
    | (refine wpAny_bind (m := callSpecialIfBound? (.ref x) (Str.ofString "__eq__") [b])
        (PySem.W.ifBound_K X I hs hf (wpAny_mono h (fun r s' hr => by
          obtain ⟨t, rfl, hq⟩ := hr
          repeat (first | exact hq | exact wpAny_pure hq | exact wpAny_truthy_bool hq | (refine wpAny_bind (m := truthy (.bool _)) (wpAny_truthy_bool ?_)) | wp_step)) fun _ _ e => e)))
    | wp_step)
theorem call_objNe {Q : Value → Shared → Prop} {b : Value} (hu : A.units + 1 < cLine) (X : K.In s.heap) (I : PySem.W.InstAt s.heap x ox C od) (hm : PySem.W.mroIn K C (.type "object") = some true) (hs : PySem.W.findIn K (.ref C) "__eq__" = some (some (.ref f))) (hf : PySem.W.isFn K (.ref f) = true)
    (h : wpAny (model prog w) A.in1 (call (.ref f) [.ref x, b]) (fun v s' => ∃ t, v = .bool t ∧ Q (.bool (!t)) s') E s) : wpAny (model prog w) A (call (.builtin "object.__ne__") [.ref x, b]) Q E s :=
  wpAny_call (codeAny_call_builtin F.cmp_object.ne.plain F.cmpEntry_ne (PySem.W.check_slot F.cmpKind_ne F.cmpSplit_ne (I.type.andThen (PySem.W.looks_mroIn X hm)) (F.cmpArgs_ne _ _) (entry_objNe (A := A.in1) hu X I hs hf (wpAny_mono h (fun v s' hv => by
    obtain ⟨t, rfl, hq⟩ := hv
    first | exact ⟨t, rfl, hq⟩ | exact ⟨t, rfl, wpAny_pure hq⟩) fun _ _ e => e))))
theorem ne_K {b tb : Value} {Q : Value → Shared → Prop} (hu : A.units + 1 < cLine) (X : K.In s.heap) (I : PySem.W.InstAt s.heap x ox C od) (hb : PySem.W.Looks (model prog w) s.heap (typeOf b) tb) (hn : PySem.W.notFirst K C tb = true) (hm : PySem.W.mroIn K C (.type "object") = some true)
    (hN : PySem.W.findIn K (.ref C) "__ne__" = some (some (.builtin "object.__ne__"))) (hs : PySem.W.findIn K (.ref C) "__eq__" = some (some (.ref f))) (hf : PySem.W.isFn K (.ref f) = true)
    (h : wpAny (model prog w) A.in1 (call (.ref f) [.ref x, b]) (fun v s' => ∃ t, v = .bool t ∧ Q (.bool (!t)) s') E s) : wpAny (model prog w) A (richCompare .NotEq (.ref x) b) Q E s := by
  have one : wpAny (model prog w) A (tryCompare (.ref x) (cmpInfo .NotEq).2.1 b) (fun r s' => ∃ v, r = some v ∧ Q v s') E s := by
    unfold tryCompare
    refine wpAny_bind (ifBound_objNe X I hN (call_objNe hu X I hm hs hf (wpAny_mono h (fun v s' hv => ?_) fun _ _ e => e)))
    obtain ⟨t, rfl, hq⟩ := hv
    exact ⟨t, rfl, wpAny_pure ⟨_, rfl, hq⟩⟩
  unfold richCompare
  simp only [oneThing_ref]
  refine wpAny_holding (wpAny_bind (wpAny_cRoomFor (Nat.lt_of_succ_lt hu) ?_))
  refine wpAny_bind (I.type.here (wpAny_bind (hb.here ?_)))
  split
  · rename_i q
    have e : PySem.W.subIn K tb (.ref C) = some false := by
      rcases Bool.or_eq_true_iff.mp hn with e | e
      · rw [beq_iff_eq.mp e] at q; simp at q
      · exact beq_iff_eq.mp e
    refine wpAny_bind ((PySem.W.looks_subIn X e).here ?_)
    simp only [Bool.false_eq_true, if_false]
    refine wpAny_bind (wpAny_mono one (fun r s' z => ?_) fun _ _ e => e)
    obtain ⟨v, rfl, hq⟩ := z
    exact wpAny_pure hq
  · refine wpAny_bind (wpAny_pure ?_)
    simp only [Bool.false_eq_true, if_false]
    refine wpAny_bind (wpAny_mono one (fun r s' z => ?_) fun _ _ e => e)
    obtain ⟨v, rfl, hq⟩ := z
    exact wpAny_pure hq
end
end En
namespace En
open PySem L2 PyProof.Rows TL
/-! Eo1: == and != of a thing of a kind of the language with an own object on the right. -/
open PySem.SeqAt MeetsSeq MeetsSeq2 MeetsSeq3
section
variable {prog : Program} {w : World} {A : Around} {E : Value → Shared → Prop} {s : Shared} {K : PySem.W.Frag} {y C f : Addr} {oy : Obj} {od : Option Obj}
theorem eq_KR {a : Value} {Ta ida : String} {Q : Value → Shared → Prop} (hu : A.units < cLine) (X : K.In s.heap) (ha : s.TypeIs a Ta) (I : PySem.W.InstAt s.heap y oy C od) (hsub : PySem.W.mroIn K C (.type Ta) = some false)
    (h1 : PySem.Slot Ta (cmpInfo .Eq).2.1 ida) (hc1 : ∀ Q' : Value → Shared → Prop, Q' .notImplemented s → wpAny (model prog w) A (call (.builtin ida) [a, .ref y]) Q' E s)
    (hs : PySem.W.findIn K (.ref C) "__eq__" = some (some (.ref f))) (hf : PySem.W.isFn K (.ref f) = true)
    (h : wpAny (model prog w) A (call (.ref f) [.ref y, a]) (PySem.W.CmpBack Q) E s) : wpAny (model prog w) A (richCompare .Eq a (.ref y)) Q E s := by
  have one : wpAny (model prog w) A (tryCompare (.ref y) (cmpInfo .Eq).2.2 a) (fun r s' => ∃ v, r = some v ∧ Q v s') E s := by
    unfold tryCompare
    refine wpAny_bind (PySem.W.ifBound_K X I hs hf (wpAny_mono h (fun v s' hv => ?_) fun _ _ e => e))
    cases v <;> first | exact hv.elim | exact wpAny_pure ⟨_, rfl, hv⟩
  rcases hi : cmpInfo CmpOp.Eq with ⟨sym, f', r⟩
  rw [hi] at h1 one
  simp only [richCompare, hi, ha.oneThing_none]
  try with_reducible refine wpAny_holding ?_
  refine wpAny_bind (wpAny_cRoomFor hu ?_)
  refine wpAny_bind (wpAny_typeOf ha (wpAny_bind (I.type.here ?_)))
  simp only [show (Value.type Ta != Value.ref C) = true from rfl, if_true]
  refine wpAny_bind ((PySem.W.looks_mroIn X hsub).here ?_)
  simp only [Bool.false_eq_true, if_false, Bool.not_false, if_true]
  refine wpAny_bind (m := tryCompare a _ (.ref y)) (wpAny_tryCompare_declines ha h1 (hc1 _ ⟨rfl, ?_⟩))
  refine wpAny_bind (m := tryCompare (.ref y) _ a) (wpAny_mono one (fun r s' z => ?_) fun _ _ e => e)
  obtain ⟨v, rfl, hq⟩ := z
  exact wpAny_pure hq
theorem ne_KR {a : Value} {Ta ida : String} {Q : Value → Shared → Prop} (hu : A.units + 1 < cLine) (X : K.In s.heap) (ha : s.TypeIs a Ta) (I : PySem.W.InstAt s.heap y oy C od) (hsub : PySem.W.mroIn K C (.type Ta) = some false)
    (h1 : PySem.Slot Ta (cmpInfo .NotEq).2.1 ida) (hc1 : ∀ Q' : Value → Shared → Prop, Q' .notImplemented s → wpAny (model prog w) A (call (.builtin ida) [a, .ref y]) Q' E s) (hm : PySem.W.mroIn K C (.type "object") = some true)
    (hN : PySem.W.findIn K (.ref C) "__ne__" = some (some (.builtin "object.__ne__"))) (hs : PySem.W.findIn K (.ref C) "__eq__" = some (some (.ref f))) (hf : PySem.W.isFn K (.ref f) = true)
    (h : wpAny (model prog w) A.in1 (call (.ref f) [.ref y, a]) (fun v s' => ∃ t, v = .bool t ∧ Q (.bool (!t)) s') E s) : wpAny (model prog w) A (richCompare .NotEq a (.ref y)) Q E s := by
  have one : wpAny (model prog w) A (tryCompare (.ref y) (cmpInfo .NotEq).2.2 a) (fun r s' => ∃ v, r = some v ∧ Q v s') E s := by
    unfold tryCompare
    refine wpAny_bind (ifBound_objNe X I hN (call_objNe hu X I hm hs hf (wpAny_mono h (fun v s' hv => ?_) fun _ _ e => e)))
    obtain ⟨t, rfl, hq⟩ := hv
    exact ⟨t, rfl, wpAny_pure ⟨_, rfl, hq⟩⟩
  rcases hi : cmpInfo CmpOp.NotEq with ⟨sym, f', r⟩
  rw [hi] at h1 one
  simp only [richCompare, hi, ha.oneThing_none]
  try with_reducible refine wpAny_holding ?_
  refine wpAny_bind (wpAny_cRoomFor (Nat.lt_of_succ_lt hu) ?_)
  refine wpAny_bind (wpAny_typeOf ha (wpAny_bind (I.type.here ?_)))
  simp only [show (Value.type Ta != Value.ref C) = true from rfl, if_true]
  refine wpAny_bind ((PySem.W.looks_mroIn X hsub).here ?_)
  simp only [Bool.false_eq_true, if_false, Bool.not_false, if_true]
  refine wpAny_bind (m := tryCompare a _ (.ref y)) (wpAny_tryCompare_declines ha h1 (hc1 _ ⟨rfl, ?_⟩))
  refine wpAny_bind (m := tryCompare (.ref y) _ a) (wpAny_mono one (fun r s' z => ?_) fun _ _ e => e)
  obtain ⟨v, rfl, hq⟩ := z
  exact wpAny_pure hq
end
open AutoSeq1 (wpAny_loadPart')
theorem int_eq_dec (b : Int) (u : Tok) (l : Addr) (c : Value) (dd : Option Addr) (sl : Array (Option Value)) :
    Meets (Builtin.«int.__eq__» ⟨[.int b u, .ref l], []⟩) (fun _ R s => s.heap.get? l = some { cls := c, dict := dd, data := .plain, slots := sl } ∧ R (.ok (.ret .notImplemented)) s) :=
  .of_wp fun prog w A R s h => by obtain ⟨hp, g, d, tk, os⟩ := s; obtain ⟨hl, h⟩ := h; wp_walk using wpAny_loadPart' hl, wpAny_load hl; exact ⟨_, rfl, h⟩
theorem bool_eq_dec (b : Bool) (l : Addr) (c : Value) (dd : Option Addr) (sl : Array (Option Value)) :
    Meets (Builtin.«int.__eq__» ⟨[.bool b, .ref l], []⟩) (fun _ R s => s.heap.get? l = some { cls := c, dict := dd, data := .plain, slots := sl } ∧ R (.ok (.ret .notImplemented)) s) :=
  .of_wp fun prog w A R s h => by obtain ⟨hp, g, d, tk, os⟩ := s; obtain ⟨hl, h⟩ := h; wp_walk using wpAny_loadPart' hl, wpAny_load hl; exact ⟨_, rfl, h⟩
theorem str_eq_dec (b : Str) (u : Tok) (l : Addr) (c : Value) (dd : Option Addr) (sl : Array (Option Value)) :
    Meets (Builtin.«str.__eq__» ⟨[.str b u, .ref l], []⟩) (fun _ R s => s.heap.get? l = some { cls := c, dict := dd, data := .plain, slots := sl } ∧ R (.ok (.ret .notImplemented)) s) :=
  .of_wp fun prog w A R s h => by obtain ⟨hp, g, d, tk, os⟩ := s; obtain ⟨hl, h⟩ := h; wp_walk using wpAny_loadPart' hl, wpAny_load hl; exact ⟨_, rfl, h⟩
theorem int_ne_dec (b : Int) (u : Tok) (l : Addr) (c : Value) (dd : Option Addr) (sl : Array (Option Value)) :
    Meets (Builtin.«int.__ne__» ⟨[.int b u, .ref l], []⟩) (fun _ R s => s.heap.get? l = some { cls := c, dict := dd, data := .plain, slots := sl } ∧ R (.ok (.ret .notImplemented)) s) :=
  .of_wp fun prog w A R s h => by obtain ⟨hp, g, d, tk, os⟩ := s; obtain ⟨hl, h⟩ := h; wp_walk using wpAny_loadPart' hl, wpAny_load hl; exact ⟨_, rfl, h⟩
theorem bool_ne_dec (b : Bool) (l : Addr) (c : Value) (dd : Option Addr) (sl : Array (Option Value)) :
    Meets (Builtin.«int.__ne__» ⟨[.bool b, .ref l], []⟩) (fun _ R s => s.heap.get? l = some { cls := c, dict := dd, data := .plain, slots := sl } ∧ R (.ok (.ret .notImplemented)) s) :=
  .of_wp fun prog w A R s h => by obtain ⟨hp, g, d, tk, os⟩ := s; obtain ⟨hl, h⟩ := h; wp_walk using wpAny_loadPart' hl, wpAny_load hl; exact ⟨_, rfl, h⟩
theorem str_ne_dec (b : Str) (u : Tok) (l : Addr) (c : Value) (dd : Option Addr) (sl : Array (Option Value)) :
    Meets (Builtin.«str.__ne__» ⟨[.str b u, .ref l], []⟩) (fun _ R s => s.heap.get? l = some { cls := c, dict := dd, data := .plain, slots := sl } ∧ R (.ok (.ret .notImplemented)) s) :=
  .of_wp fun prog w A R s h => by obtain ⟨hp, g, d, tk, os⟩ := s; obtain ⟨hl, h⟩ := h; wp_walk using wpAny_loadPart' hl, wpAny_load hl; exact ⟨_, rfl, h⟩
section
variable {prog : Program} {w : World} {A : Around} {E : Value → Shared → Prop} {s : Shared} {K : PySem.W.Frag} {y C : Addr} {oy : Obj} {od : Option Obj} {Q : PySem.Fin → Shared → Prop}
theorem list_eq_dec (l : Addr) (X : K.In s.heap) (I : PySem.W.InstAt s.heap y oy C od) (hm : PySem.W.mroIn K C (.type "list") = some false) (h : Q (.done (.ret .notImplemented)) s) :
    wpAny (model prog w) A (Builtin.«list.__eq__» ⟨[.ref l, .ref y], []⟩) Q E s := by
  have hi : PySem.W.Looks (model prog w) s.heap (isInstance (.ref y) (.type "list")) false := I.type.andThen (PySem.W.looks_mroIn X hm)
  unfold Builtin.«list.__eq__»
  repeat (first
    | exact h
    | with_reducible refine wpAny_bind (m := isInstance (.ref y) (.type "list")) (hi.here ?_)
    | wp_step)
theorem list_ne_dec (l : Addr) (X : K.In s.heap) (I : PySem.W.InstAt s.heap y oy C od) (hm : PySem.W.mroIn K C (.type "list") = some false) (h : Q (.done (.ret .notImplemented)) s) :
    wpAny (model prog w) A (Builtin.«list.__ne__» ⟨[.ref l, .ref y], []⟩) Q E s := by
  have hi : PySem.W.Looks (model prog w) s.heap (isInstance (.ref y) (.type "list")) false := I.type.andThen (PySem.W.looks_mroIn X hm)
  unfold Builtin.«list.__ne__»
  repeat (first
    | exact h
    | with_reducible refine wpAny_bind (m := isInstance (.ref y) (.type "list")) (hi.here ?_)
    | wp_step)
theorem tuple_eq_dec (l : Addr) (X : K.In s.heap) (I : PySem.W.InstAt s.heap y oy C od) (hm : PySem.W.mroIn K C (.type "tuple") = some false) (h : Q (.done (.ret .notImplemented)) s) :
    wpAny (model prog w) A (Builtin.«tuple.__eq__» ⟨[.ref l, .ref y], []⟩) Q E s := by
  have hi : PySem.W.Looks (model prog w) s.heap (isInstance (.ref y) (.type "tuple")) false := I.type.andThen (PySem.W.looks_mroIn X hm)
  unfold Builtin.«tuple.__eq__»
  repeat (first
    | exact h
    | with_reducible refine wpAny_bind (m := isInstance (.ref y) (.type "tuple")) (hi.here ?_)
    | wp_step)
theorem tuple_ne_dec (l : Addr) (X : K.In s.heap) (I : PySem.W.InstAt s.heap y oy C od) (hm : PySem.W.mroIn K C (.type "tuple") = some false) (h : Q (.done (.ret .notImplemented)) s) :
    wpAny (model prog w) A (Builtin.«tuple.__ne__» ⟨[.ref l, .ref y], []⟩) Q E s := by
  have hi : PySem.W.Looks (model prog w) s.heap (isInstance (.ref y) (.type "tuple")) false := I.type.andThen (PySem.W.looks_mroIn X hm)
  unfold Builtin.«tuple.__ne__»
  repeat (first
    | exact h
    | with_reducible refine wpAny_bind (m := isInstance (.ref y) (.type "tuple")) (hi.here ?_)
    | wp_step)
theorem dict_eq_dec (l : Addr) (X : K.In s.heap) (I : PySem.W.InstAt s.heap y oy C od) (hm : PySem.W.mroIn K C (.type "dict") = some false) (h : Q (.done (.ret .notImplemented)) s) :
    wpAny (model prog w) A (Builtin.«dict.__eq__» ⟨[.ref l, .ref y], []⟩) Q E s := by
  have hi : PySem.W.Looks (model prog w) s.heap (isInstance (.ref y) (.type "dict")) false := I.type.andThen (PySem.W.looks_mroIn X hm)
  unfold Builtin.«dict.__eq__»
  repeat (first
    | exact h
    | with_reducible refine wpAny_bind (m := isInstance (.ref y) (.type "dict")) (hi.here ?_)
    | wp_step)
theorem dict_ne_dec (l : Addr) (X : K.In s.heap) (I : PySem.W.InstAt s.heap y oy C od) (hm : PySem.W.mroIn K C (.type "dict") = some false) (h : Q (.done (.ret .notImplemented)) s) :
    wpAny (model prog w) A (Builtin.«dict.__ne__» ⟨[.ref l, .ref y], []⟩) Q E s := by
  have hi : PySem.W.Looks (model prog w) s.heap (isInstance (.ref y) (.type "dict")) false := I.type.andThen (PySem.W.looks_mroIn X hm)
  unfold Builtin.«dict.__ne__»
  repeat (first
    | exact h
    | with_reducible refine wpAny_bind (m := isInstance (.ref y) (.type "dict")) (hi.here ?_)
    | wp_step)
end
end En
namespace En
open PySem L2 PyProof.Rows TL
/-! Eo2: a thing of a kind of the language beside an own object. -/
section
variable {X : Cx} {pins : List (Addr × Obj)} {σ : L2.St} {H : Hp} {s : Shared}
open PySem.SeqAt
/-- such a value, as it lies in the machine -/
inductive Knd (s : Shared) : Tn → Value → Prop
  | non : Knd s .none .none
  | bl (b : Bool) : Knd s .bool (.bool b)
  | int (i : Int) (t : Tok) : Knd s .int (.int i t)
  | str (x : Str) (t : Tok) : Knd s .str (.str x t)
  | lst {a : Addr} {o : Obj} : s.heap.get? a = some o → o.cls = .type "list" → Knd s .list (.ref a)
  | tup {a : Addr} {o : Obj} : s.heap.get? a = some o → o.cls = .type "tuple" → Knd s .tuple (.ref a)
  | dic {a : Addr} {o : Obj} : s.heap.get? a = some o → o.cls = .type "dict" → Knd s .dict (.ref a)
theorem Knd.ti {n : Tn} {u : Value} (k : Knd s n u) : s.TypeIs u n.nm := by
  cases k with
  | non => rfl
  | bl b => rfl
  | int i t => exact typeIs_int s i t
  | str x t => exact typeIs_str s x t
  | lst h c => exact ⟨_, h, c⟩
  | tup h c => exact ⟨_, h, c⟩
  | dic h c => exact ⟨_, h, c⟩
theorem knd_of {x : V} {u : Value} {n : Tn} (I : Inv X pins σ H s) (rx : RelV x u) {t : Value} (ty : TyX X.K H x t) (e : t = .type n.nm) : Knd s n u ∧ PySem.W.Looks (model X.prog X.w) s.heap (typeOf u) t := by
  obtain ⟨P, kx, hp, _⟩ := kit_of I rx ty
  refine ⟨?_, kx.ty _ _ I.kIn hp⟩
  have inj : ∀ {m : String}, Value.type m = .type n.nm → m = n.nm := fun {m} h => by injection h
  cases ty with
  | base b =>
    cases b with
    | non => cases (show u = Value.none from rx); cases n <;> first | exact .non | exact absurd (inj e) (by decide)
    | bl y => cases (show u = Value.bool y from rx); cases n <;> first | exact .bl y | exact absurd (inj e) (by decide)
    | int i => obtain ⟨t, q⟩ := (show ∃ t, u = Value.int i t from rx); cases q; cases n <;> first | exact .int i t | exact absurd (inj e) (by decide)
    | str y => obtain ⟨t, q⟩ := (show ∃ t, u = Value.str y t from rx); cases q; cases n <;> first | exact .str y t | exact absurd (inj e) (by decide)
    | flt y => cases n <;> exact absurd (inj e) (by decide)
    | @lst a xs ea =>
      cases (show u = Value.ref a from rx)
      obtain ⟨_, _, n', _, h1⟩ := (show ObjOk X.prog X.w H s.heap a (.lst xs) from I.hok a _ ea)
      cases n <;> first | exact .lst h1 rfl | exact absurd (inj e) (by decide)
    | @frz a ob xs ea =>
      cases (show u = Value.ref a from rx)
      obtain ⟨_, _, _, n', _, h1⟩ := (show ObjOk X.prog X.w H s.heap a (.frz ob (.lst xs)) from I.hok a _ ea)
      cases n <;> first | exact .lst h1 rfl | exact absurd (inj e) (by decide)
    | @tup a xs ea =>
      cases (show u = Value.ref a from rx)
      obtain ⟨_, _, _, o, h1, h2, _⟩ := (show ObjOk X.prog X.w H s.heap a (.tup xs) from I.hok a _ ea)
      cases n <;> first | exact .tup h1 h2 | exact absurd (inj e) (by decide)
    | @dK a kvs ea =>
      cases (show u = Value.ref a from rx)
      obtain ⟨_, _, vs, _, o, es, ep, h1, h2, _⟩ := (show ObjOk X.prog X.w H s.heap a (.dK kvs) from I.hok a _ ea)
      cases n <;> first | exact .dic h1 h2.1 | exact absurd (inj e) (by decide)
    | @dT a kvs ea =>
      cases (show u = Value.ref a from rx)
      obtain ⟨_, _, xs, _, o, es, ep, h1, h2, _⟩ := (show ObjOk X.prog X.w H s.heap a (.dT kvs) from I.hok a _ ea)
      cases n <;> first | exact .dic h1 h2.1 | exact absurd (inj e) (by decide)
    | @ins a C dx fs ea cl ha hn htk hm => cases e
  | byt y => cases n <;> exact absurd (inj e) (by decide)
  | @set a S n' ea => cases n <;> exact absurd (inj e) (by decide)
  | @kList a o ea c =>
    cases (show u = Value.ref a from rx)
    cases n <;> first | exact .lst (I.kIn a o ea) c | exact absurd (inj e) (by decide)
  | @kTuple a o ea c =>
    cases (show u = Value.ref a from rx)
    cases n <;> first | exact .tup (I.kIn a o ea) c | exact absurd (inj e) (by decide)
  | @kDict a o ea c =>
    cases (show u = Value.ref a from rx)
    cases n <;> first | exact .dic (I.kIn a o ea) c | exact absurd (inj e) (by decide)
  | @fTuple a ob xs ea =>
    cases (show u = Value.ref a from rx)
    obtain ⟨_, _, _, _, o, h1, h2, _⟩ := (show ObjOk X.prog X.w H s.heap a (.frz ob (.tup xs)) from I.hok a _ ea)
    cases n <;> first | exact .tup h1 h2 | exact absurd (inj e) (by decide)
  | @fDict a ob kvs ea =>
    cases (show u = Value.ref a from rx)
    obtain ⟨_, _, _, vs, _, o, es, ep, h1, h2, _⟩ := (show ObjOk X.prog X.w H s.heap a (.frz ob (.dK kvs)) from I.hok a _ ea)
    cases n <;> first | exact .dic h1 h2.1 | exact absurd (inj e) (by decide)
end
section
variable {prog : Program} {w : World} {A : Around} {E : Value → Shared → Prop} {s : Shared} {K : PySem.W.Frag} {y C dx f : Addr} {sl : Array (Option Value)} {od : Option Obj} {Q : Value → Shared → Prop} {n : Tn} {u : Value}
open PySem.SeqAt
theorem Knd.eqR (k : Knd s n u) (hu : A.units < cLine) (Xk : K.In s.heap) (J : PySem.W.InstAt s.heap y { PySem.W.instObj C dx with slots := sl } C od) (hm : PySem.W.mroIn K C (.type n.nm) = some false)
    (hs : PySem.W.findIn K (.ref C) "__eq__" = some (some (.ref f))) (hf : PySem.W.isFn K (.ref f) = true)
    (h : wpAny (model prog w) A (call (.ref f) [.ref y, u]) (PySem.W.CmpBack Q) E s) : wpAny (model prog w) A (richCompare .Eq u (.ref y)) Q E s := by
  cases k with
  | non => exact eq_KR hu Xk Knd.non.ti J hm F.slot_NoneType_eq (fun _ hq => call_gives F.slot_NoneType_eq rfl F.entry_NoneType_eq (F.args_NoneType_eq_2 _ _) (NoneType___eq___none_ref_0 _) hq) hs hf h
  | bl b => exact eq_KR hu Xk (Knd.bl b).ti J hm F.slot_bool_eq (fun _ hq => call_meets F.slot_bool_eq rfl F.entry_int_eq (F.args_int_eq_2 _ _) (bool_eq_dec b _ _ _ _) ⟨J.at_, hq⟩) hs hf h
  | int i t => exact eq_KR hu Xk (Knd.int i t).ti J hm F.slot_int_eq (fun _ hq => call_meets F.slot_int_eq (typeIs_int s i t) F.entry_int_eq (F.args_int_eq_2 _ _) (int_eq_dec i t _ _ _ _) ⟨J.at_, hq⟩) hs hf h
  | str x t => exact eq_KR hu Xk (Knd.str x t).ti J hm F.slot_str_eq (fun _ hq => call_meets F.slot_str_eq (typeIs_str s x t) F.entry_str_eq (F.args_str_eq_2 _ _) (str_eq_dec x t _ _ _ _) ⟨J.at_, hq⟩) hs hf h
  | lst ha hc => exact eq_KR hu Xk ⟨_, ha, hc⟩ J hm F.slot_list_eq (fun _ hq => wpAny_call (codeAny_call_builtin F.slot_list_eq.plain F.entry_list_eq (F.slot_list_eq.check _ _ _ _ _ _ _ _ ⟨_, ha, hc⟩ (F.args_list_eq_2 _ _) (list_eq_dec _ Xk J hm hq)))) hs hf h
  | tup ha hc => exact eq_KR hu Xk ⟨_, ha, hc⟩ J hm F.slot_tuple_eq (fun _ hq => wpAny_call (codeAny_call_builtin F.slot_tuple_eq.plain F.entry_tuple_eq (F.slot_tuple_eq.check _ _ _ _ _ _ _ _ ⟨_, ha, hc⟩ (F.args_tuple_eq_2 _ _) (tuple_eq_dec _ Xk J hm hq)))) hs hf h
  | dic ha hc => exact eq_KR hu Xk ⟨_, ha, hc⟩ J hm F.slot_dict_eq (fun _ hq => wpAny_call (codeAny_call_builtin F.slot_dict_eq.plain F.entry_dict_eq (F.slot_dict_eq.check _ _ _ _ _ _ _ _ ⟨_, ha, hc⟩ (F.args_dict_eq_2 _ _) (dict_eq_dec _ Xk J hm hq)))) hs hf h
theorem Knd.neR (k : Knd s n u) (hu : A.units + 1 < cLine) (Xk : K.In s.heap) (J : PySem.W.InstAt s.heap y { PySem.W.instObj C dx with slots := sl } C od) (hm : PySem.W.mroIn K C (.type n.nm) = some false) (hM : PySem.W.mroIn K C (.type "object") = some true)
    (hN : PySem.W.findIn K (.ref C) "__ne__" = some (some (.builtin "object.__ne__"))) (hs : PySem.W.findIn K (.ref C) "__eq__" = some (some (.ref f))) (hf : PySem.W.isFn K (.ref f) = true)
    (h : wpAny (model prog w) A.in1 (call (.ref f) [.ref y, u]) (fun v s' => ∃ t, v = .bool t ∧ Q (.bool (!t)) s') E s) : wpAny (model prog w) A (richCompare .NotEq u (.ref y)) Q E s := by
  cases k with
  | non => exact ne_KR hu Xk Knd.non.ti J hm F.slot_NoneType_ne (fun _ hq => call_gives F.slot_NoneType_ne rfl F.entry_NoneType_ne (F.args_NoneType_ne_2 _ _) (NoneType___ne___none_ref_0 _) hq) hM hN hs hf h
  | bl b => exact ne_KR hu Xk (Knd.bl b).ti J hm F.slot_bool_ne (fun _ hq => call_meets F.slot_bool_ne rfl F.entry_int_ne (F.args_int_ne_2 _ _) (bool_ne_dec b _ _ _ _) ⟨J.at_, hq⟩) hM hN hs hf h
  | int i t => exact ne_KR hu Xk (Knd.int i t).ti J hm F.slot_int_ne (fun _ hq => call_meets F.slot_int_ne (typeIs_int s i t) F.entry_int_ne (F.args_int_ne_2 _ _) (int_ne_dec i t _ _ _ _) ⟨J.at_, hq⟩) hM hN hs hf h
  | str x t => exact ne_KR hu Xk (Knd.str x t).ti J hm F.slot_str_ne (fun _ hq => call_meets F.slot_str_ne (typeIs_str s x t) F.entry_str_ne (F.args_str_ne_2 _ _) (str_ne_dec x t _ _ _ _) ⟨J.at_, hq⟩) hM hN hs hf h
  | lst ha hc => exact ne_KR hu Xk ⟨_, ha, hc⟩ J hm F.slot_list_ne (fun _ hq => wpAny_call (codeAny_call_builtin F.slot_list_ne.plain F.entry_list_ne (F.slot_list_ne.check _ _ _ _ _ _ _ _ ⟨_, ha, hc⟩ (F.args_list_ne_2 _ _) (list_ne_dec _ Xk J hm hq)))) hM hN hs hf h
  | tup ha hc => exact ne_KR hu Xk ⟨_, ha, hc⟩ J hm F.slot_tuple_ne (fun _ hq => wpAny_call (codeAny_call_builtin F.slot_tuple_ne.plain F.entry_tuple_ne (F.slot_tuple_ne.check _ _ _ _ _ _ _ _ ⟨_, ha, hc⟩ (F.args_tuple_ne_2 _ _) (tuple_ne_dec _ Xk J hm hq)))) hM hN hs hf h
  | dic ha hc => exact ne_KR hu Xk ⟨_, ha, hc⟩ J hm F.slot_dict_ne (fun _ hq => wpAny_call (codeAny_call_builtin F.slot_dict_ne.plain F.entry_dict_ne (F.slot_dict_ne.check _ _ _ _ _ _ _ _ ⟨_, ha, hc⟩ (F.args_dict_ne_2 _ _) (dict_ne_dec _ Xk J hm hq)))) hM hN hs hf h
end
end En
namespace En
open PySem L2 PyProof.Rows TL
/-! Eo3: x in a list, each thing asked by ==, where == may run own code. -/
open PySem.SeqAt MeetsSeq MeetsSeq2 MeetsSeq3
open AutoSeq1 (wpAny_loadPart')
section
variable {prog : Program} {w : World} {A : Around} {R : Result → Shared → Prop}
abbrev FinO (prog : Program) (w : World) (A : Around) (R : Result → Shared → Prop) : PySem.Fin → Shared → Prop := fun fin s' => match fin with
  | .done f => R (.ok f) s'
  | .again c' => c'.quiet = true ∧ codeAny (model prog w) A c' R s'
/-- at each turn the list is read anew -/
def LstI (prog : Program) (w : World) (A : Around) (E : Value → Shared → Prop) (l : Addr) (N : Nat) (x : Value) (I : Nat → Shared → Prop) (T : Shared → Prop) : Prop :=
  ∀ i s, I i s → ∃ (items : Array Value) (n : Nat) (dd : Option Addr) (sl : Array (Option Value)), s.heap.get? l = some { cls := .type "list", dict := dd, data := .seq items n, slots := sl } ∧ items.size = N ∧
    ∀ h : i < items.size, wpAny (model prog w) A.in1 (eqBool items[i] x) (fun r s' => (r = true → T s') ∧ (r = false → I (i + 1) s')) E s
theorem contains_loopO (l : Addr) (N : Nat) (x : Value) (I : Nat → Shared → Prop) (hl : LstI prog w A (fun e s' => R (.error e) s') l N x I (R (.ok (.ret (.bool true)))))
    (fin : ∀ s, I N s → R (.ok (.ret (.bool false))) s) (k : Nat) :
    ∀ i : Nat, N - i = k → i ≤ N → ∀ s, I i s →
      wpAny (model prog w) A.in1 (Builtin.«list.__contains__.loop» ⟨[.ref l, x, rawInt i], []⟩) (FinO prog w A R) (fun e s' => R (.error e) s') s := by
  induction k with
  | zero =>
    intro i hk hi s h
    obtain ⟨items, n, dd, sl, hl1, hN, _⟩ := hl _ _ h
    have hi' : i = N := by omega
    have hR := fin s (hi' ▸ h)
    obtain ⟨hp, g, d, tk, os⟩ := s
    wp_walk using wpAny_loadPart' hl1
    have hi1 : items[((i : Nat) : Int).toNat]? = none := by simp; omega
    rw [hi1]
    wp_walk
    exact hR
  | succ k ih =>
    intro i hk hi s h
    obtain ⟨items, n, dd, sl, hl1, hN, turn⟩ := hl _ _ h
    have hlt : i < items.size := by omega
    have ht := turn hlt
    obtain ⟨hp, g, d, tk, os⟩ := s
    wp_walk using wpAny_loadPart' hl1
    have hi1 : items[((i : Nat) : Int).toNat]? = some items[i] := by simp [hlt]
    have hc : ((i : Int) + 1) = ((i + 1 : Nat) : Int) := by omega
    rw [hi1]
    refine wpAny_bind (wpAny_mono ht (fun r s2 h2 => ?_) fun _ _ x => x)
    cases r with
    | true =>
      have h2 := h2.1 rfl
      wp_walk
      exact h2
    | false =>
      have hrec := ih (i + 1) (by omega) (by omega) s2 (h2.2 rfl)
      obtain ⟨hp2, g2, d2, tk2, os2⟩ := s2
      wp_walk
      rw [hc]
      exact ⟨plainId_quiet plain_contains_loop _, codeAny_builtin entry_contains_loop (by
        rw [Around.under_plainId plain_contains_loop _]
        exact hrec)⟩
theorem list_containsO (l : Addr) (N : Nat) (x : Value) (I : Nat → Shared → Prop) (hl : LstI prog w A (fun e s' => R (.error e) s') l N x I (R (.ok (.ret (.bool true)))))
    (fin : ∀ s, I N s → R (.ok (.ret (.bool false))) s) {s : Shared} (h : I 0 s) :
    wpAny (model prog w) A.in1 (Builtin.«list.__contains__» ⟨[.ref l, x], []⟩) (FinO prog w A R) (fun e s' => R (.error e) s') s := by
  have hrec := contains_loopO (A := A) (R := R) l N x I hl fin _ 0 rfl (Nat.zero_le _) s h
  obtain ⟨items, n, dd, sl, hl1, _⟩ := hl _ _ h
  obtain ⟨hp, g, d, tk, os⟩ := s
  wp_walk using wpAny_loadPart' hl1
  exact ⟨plainId_quiet plain_contains_loop _, codeAny_builtin entry_contains_loop (by
    rw [Around.under_plainId plain_contains_loop _]
    exact hrec)⟩
end
section
variable {prog : Program} {w : World} {A : Around} {E : Value → Shared → Prop} {s : Shared}
theorem contains_O {l : Addr} {N : Nat} {x : Value} {Q : Bool → Shared → Prop} (I : Nat → Shared → Prop) (hl : LstI prog w A E l N x I (Q true))
    (fin : ∀ s, I N s → Q false s) (h : I 0 s) : wpAny (model prog w) A (contains (.ref l) x) Q E s := by
  obtain ⟨items, n, dd, sl, hl1, _⟩ := hl _ _ h
  refine wpAny_contains_slot ⟨_, hl1, rfl⟩ F.slot_list_contains ?_
  refine wpAny_mono (Q := fun v s' => ∃ b, v = .bool b ∧ Q b s') (wpAny_call (codeAny_call_builtin F.slot_list_contains.plain F.entry_list_contains (F.slot_list_contains.check _ _ _ _ _ _ _ _ ⟨_, hl1, rfl⟩ (F.args_list_contains_2 _ _) ?_))) (fun v s' hv => ?_) fun _ _ e => e
  · refine list_containsO (A := A) (R := wants (fun v s' => ∃ b, v = .bool b ∧ Q b s') E) l N x I (fun i s' q => ?_) (fun s' q => ⟨false, rfl, fin s' q⟩) h
    obtain ⟨items, n, dd, sl, e1, e2, t⟩ := hl i s' q
    exact ⟨items, n, dd, sl, e1, e2, fun hi => wpAny_mono (t hi) (fun r s2 h2 => ⟨fun e => ⟨true, rfl, h2.1 e⟩, h2.2⟩) fun _ _ e => e⟩
  · obtain ⟨b, rfl, hq⟩ := hv
    exact wpAny_truthy_bool hq
theorem eqBool_O {a : Value} {y : Addr} {Q : Bool → Shared → Prop} (hs : a = .ref y → Q true s) (h : wpAny (model prog w) A (richCompare .Eq a (.ref y)) (fun v s' => ∃ r, v = .bool r ∧ Q r s') E s) : wpAny (model prog w) A (eqBool a (.ref y)) Q E s := by
  unfold eqBool
  refine wpAny_holding ?_
  refine wpAny_ite_split (fun hab => ?_) (fun _ => ?_)
  · have e : a = .ref y := eq_of_beq hab
    exact wpAny_bind (wpAny_rule (wpAny_pure (hs e)))
  · have last : ∀ v s', (∃ r, v = .bool r ∧ Q r s') → wpAny (model prog w) A (truthOfDropped v) Q E s' := fun v s' ⟨r, e, q⟩ => by
      subst e
      exact wpAny_truthy_bool q
    clear hs
    cases a <;> exact wpAny_bind (wpAny_mono h (fun v s' hv => last v s' hv) fun _ _ x => x)
end
end En
namespace En
open PySem L2 PyProof.Rows TL
/-! Eq2: == and != of own objects, told of data. -/
structure Spe (p : Pg) (G : Cfg) (C' : Call) (k : Nat) (c nm : Str) : Prop where
  ex : ∃ (g : Addr) (fd : FuncData) (ps : List Str), FnG p G C' k g fd ps nm ∧ Binds G.K fd ps [] ∧ ps.length = 2 ∧ PySem.W.findIn G.K (.ref (He.ga G.K c)) "__eq__" = some (some (.ref g)) ∧ PySem.W.isFn G.K (.ref g) = true
  ne : PySem.W.findIn G.K (.ref (He.ga G.K c)) "__ne__" = some (some (.builtin "object.__ne__"))
  mro : PySem.W.mroIn G.K (He.ga G.K c) (.type "object") = some true
  kt : ∀ n : Tn, PySem.W.mroIn G.K (He.ga G.K c) (.type n.nm) = some false
structure ObE (p : Pg) (G : Cfg) (C : Nat → Call) (n : Nat) : Prop where
  eq : ∀ dx dy Q E, C n "__eq__" [dx, dy] Q E → ∃ k nm c fs, n = k + 1 ∧ dx = .obj c fs ∧ samO c dy = true ∧ Spe p G (C k) k c nm ∧ C k nm [dx, dy] Q E
theorem kndD_ty {d : D} (h : kndD d = true) : ∃ n, tyN d = some n := by
  cases d <;> first
    | exact ⟨_, rfl⟩
    | cases h
theorem notFst (K : PySem.W.Frag) (C : Addr) (n : Tn) : PySem.W.notFirst K C (.type n.nm) = true := by
  cases n <;> kernel_rfl
section
variable {p : Pg} {G : Cfg} {C' : Call} {k : Nat} {X : Cx} {W : WX}
theorem spe_run (hfl : p.fl = false) (hC : MonoC C') {j : Nat} (ok : OkX p G j X W) {g : Addr} {fd : FuncData} {ps : List Str} {nm : Str} (F : FnG p G C' k g fd ps nm) (hb : Binds G.K fd ps []) (hps : ps.length = 2) {A : Around} (hr : Room k A)
    {pins : List (Addr × Obj)} {σ : L2.St} {H : Hp} {s : Shared} (e0 : Env0 X.prog X.w X.K X.mg X.base A X.stack s H) (I : Inv X pins σ H s) {d e : D} {a : Addr} {y : V} {u : Value} (ru : RelV y u) (rd : RD G.K H d (.ref a)) (re : RD G.K H e y) (tb : Tb G H) {Q : VK} (h : C' nm [d, e] (qS G Q H) E0) :
    wpAny (model X.prog X.w) A (call (.ref g) [.ref a, u]) (EP X pins σ Q) X.xe s := by
  have FR := F.run hfl hb
  rw [← ok.P, ← ok.w, ← ok.bs.K, ← ok.mg, ← ok.base] at FR
  refine wpAny_call (SlX.run_at (us := [.ref a, u]) (ws := [.ref a, y]) (E := fun _ _ _ => False) FR hr e0 ?_ I (.cons rfl (.cons ru .nil)) ?_)
  · intro pins σ H s e s' _ ⟨_, _, _, _, _, _, _, _, _, _, _, _, z⟩
    exact z.elim
  · exact ⟨[d, e], .cons rd (.cons re .nil), tb, by simp [hps], hC _ _ _ _ _ _ (fun _ z => z) (fun _ _ z => z.elim) h⟩
theorem eq_z {C' : Call} (hC : MonoC C') {nm : Str} {ds : List D} {H : Hp} {F : Bool → Hp → Prop} (z : C' nm ds (fun r => ∃ b, r = .v (.bl b) ∧ ∀ H', ExN H H' → Tb G H' → F b H') E0) : C' nm ds (qS G (fun v H' => ∃ b, v = .bl b ∧ F b H' ∧ ExN H H' ∧ Tb G H') H) E0 := by
  refine hC _ _ _ _ _ _ ?_ (fun _ _ z => z) z
  intro r hr v H' rr x t
  obtain ⟨b, e, q⟩ := hr
  subst e
  have rr : RD G.K H' (.bl b) v := rr
  cases rr
  exact ⟨b, rfl, q H' x t, x, t⟩
/-- what comes back: a truth value, in a grown heap -/
abbrev BkO (X : Cx) (G : Cfg) (pins : List (Addr × Obj)) (σ : L2.St) (H : Hp) (F : Bool → Hp → Prop) : Bool → Shared → Prop := fun b s' => ∃ H', Inv X pins σ H' s' ∧ F b H' ∧ ExN H H' ∧ Tb G H'
section
variable (hfl : p.fl = false) (hC : MonoC C') {j : Nat} (ok : OkX p G j X W) {c nm : Str} (sp : Spe p G C' k c nm) {A : Around} {pins : List (Addr × Obj)} {σ : L2.St} {H : Hp} {s : Shared} {fs : List D} {a : Addr} {e : D} {y : V} {u : Value} {F : Bool → Hp → Prop}
include hfl hC ok sp
theorem own_eq (hr : Room k A) (e0 : Env0 X.prog X.w X.K X.mg X.base A X.stack s H) (I : Inv X pins σ H s) (rd : RD G.K H (.obj c fs) (.ref a)) (ru : RelV y u) (re : RD G.K H e y) (hs : samO c e = true) (tb : Tb G H)
    (zz : C' nm [.obj c fs, e] (fun r => ∃ b, r = .v (.bl b) ∧ ∀ H', ExN H H' → Tb G H' → F b H') E0) : wpAny (model X.prog X.w) A (richCompare .Eq (.ref a) u) (fun v s' => ∃ b, v = .bool b ∧ BkO X G pins σ H F b s') X.xe s := by
  obtain ⟨g, fd, ps, Fg, hb, hps, hf, hi⟩ := sp.ex
  have rd' := rd
  cases rd with
  | @obj _ _ dx vs _ hsl rs =>
    obtain ⟨sl, od, _, J, _⟩ := SlX.slt_inst I hsl
    obtain ⟨m, hF⟩ := I.fr
    have go : ∀ tb', PySem.W.Looks (model X.prog X.w) s.heap (typeOf u) tb' → PySem.W.notFirst X.K (He.ga G.K c) tb' = true → wpAny (model X.prog X.w) A (richCompare .Eq (.ref a) u) (fun v s' => ∃ b, v = .bool b ∧ BkO X G pins σ H F b s') X.xe s := fun tb' hl hn => by
      refine PySem.W.cmp_K (op := .Eq) (tb := tb') hr.units0 hF I.ok.mod.kin J hl hn (by rw [ok.bs.K]; exact hf) (by rw [ok.bs.K]; exact hi) ?_
      refine thn (spe_run hfl hC ok Fg hb hps hr e0 I ru rd' re tb (eq_z hC zz)) ?_
      intro w s' hw
      obtain ⟨v, H', I', rv', bb, e, q, x, t⟩ := hw
      subst e
      cases (show w = Value.bool bb from rv')
      exact ⟨bb, rfl, H', I', q, x, t⟩
    by_cases ho : kndD e = true
    · obtain ⟨n, hn⟩ := kndD_ty ho
      obtain ⟨_, hl⟩ := knd_of I ru (n := n) (by rw [ok.bs.K]; exact tyX_of (.inl re) hn) rfl
      exact go _ hl (notFst _ _ _)
    · cases re with
      | @obj c' b dy ws _ hsl2 rs2 =>
        have ec : c' = c := of_decide_eq_true hs
        subst ec
        cases (show u = Value.ref b from ru)
        obtain ⟨sl', od', _, J', _⟩ := SlX.slt_inst I hsl2
        exact go _ J'.type (by unfold PySem.W.notFirst; simp)
      | _ => exact absurd hs ho
theorem own_eqR (hr : Room k A) (e0 : Env0 X.prog X.w X.K X.mg X.base A X.stack s H) (I : Inv X pins σ H s) (rd : RD G.K H (.obj c fs) (.ref a)) (ru : RelV y u) (re : RD G.K H e y) (hk : kndD e = true) (tb : Tb G H)
    (zz : C' nm [.obj c fs, e] (fun r => ∃ b, r = .v (.bl b) ∧ ∀ H', ExN H H' → Tb G H' → F b H') E0) : wpAny (model X.prog X.w) A (richCompare .Eq u (.ref a)) (fun v s' => ∃ b, v = .bool b ∧ BkO X G pins σ H F b s') X.xe s := by
  obtain ⟨g, fd, ps, Fg, hb, hps, hf, hi⟩ := sp.ex
  have rd' := rd
  cases rd with
  | @obj _ _ dx vs _ hsl rs =>
    obtain ⟨sl, od, _, J, _⟩ := SlX.slt_inst I hsl
    obtain ⟨n, hn⟩ := kndD_ty hk
    obtain ⟨kd, _⟩ := knd_of I ru (n := n) (by rw [ok.bs.K]; exact tyX_of (.inl re) hn) rfl
    refine kd.eqR hr.units0 I.kIn J (by rw [ok.bs.K]; exact sp.kt n) (by rw [ok.bs.K]; exact hf) (by rw [ok.bs.K]; exact hi) ?_
    refine thn (spe_run hfl hC ok Fg hb hps hr e0 I ru rd' re tb (eq_z hC zz)) ?_
    intro w s' hw
    obtain ⟨v, H', I', rv', bb, e, q, x, t⟩ := hw
    subst e
    cases (show w = Value.bool bb from rv')
    exact ⟨bb, rfl, H', I', q, x, t⟩
theorem own_ne (hu : A.units + 1 < cLine) (hr : Room k A.in1) (e0 : Env0 X.prog X.w X.K X.mg X.base A.in1 X.stack s H) (I : Inv X pins σ H s) (rd : RD G.K H (.obj c fs) (.ref a)) (ru : RelV y u) (re : RD G.K H e y) (hs : samO c e = true) (tb : Tb G H)
    (zz : C' nm [.obj c fs, e] (fun r => ∃ b, r = .v (.bl b) ∧ ∀ H', ExN H H' → Tb G H' → F b H') E0) : wpAny (model X.prog X.w) A (richCompare .NotEq (.ref a) u) (fun v s' => ∃ b, v = .bool (!b) ∧ BkO X G pins σ H F b s') X.xe s := by
  obtain ⟨g, fd, ps, Fg, hb, hps, hf, hi⟩ := sp.ex
  have rd' := rd
  cases rd with
  | @obj _ _ dx vs _ hsl rs =>
    obtain ⟨sl, od, _, J, _⟩ := SlX.slt_inst I hsl
    have go : ∀ tb', PySem.W.Looks (model X.prog X.w) s.heap (typeOf u) tb' → PySem.W.notFirst X.K (He.ga G.K c) tb' = true → wpAny (model X.prog X.w) A (richCompare .NotEq (.ref a) u) (fun v s' => ∃ b, v = .bool (!b) ∧ BkO X G pins σ H F b s') X.xe s := fun tb' hl hn => by
      refine ne_K (tb := tb') hu I.kIn J hl hn (by rw [ok.bs.K]; exact sp.mro) (by rw [ok.bs.K]; exact sp.ne) (by rw [ok.bs.K]; exact hf) (by rw [ok.bs.K]; exact hi) ?_
      refine thn (spe_run hfl hC ok Fg hb hps hr e0 I ru rd' re tb (eq_z hC zz)) ?_
      intro w s' hw
      obtain ⟨v, H', I', rv', bb, e, q, x, t⟩ := hw
      subst e
      cases (show w = Value.bool bb from rv')
      exact ⟨bb, rfl, bb, rfl, H', I', q, x, t⟩
    by_cases ho : kndD e = true
    · obtain ⟨n, hn⟩ := kndD_ty ho
      obtain ⟨_, hl⟩ := knd_of I ru (n := n) (by rw [ok.bs.K]; exact tyX_of (.inl re) hn) rfl
      exact go _ hl (notFst _ _ _)
    · cases re with
      | @obj c' b dy ws _ hsl2 rs2 =>
        have ec : c' = c := of_decide_eq_true hs
        subst ec
        cases (show u = Value.ref b from ru)
        obtain ⟨sl', od', _, J', _⟩ := SlX.slt_inst I hsl2
        exact go _ J'.type (by unfold PySem.W.notFirst; simp)
      | _ => exact absurd hs ho
theorem own_neR (hu : A.units + 1 < cLine) (hr : Room k A.in1) (e0 : Env0 X.prog X.w X.K X.mg X.base A.in1 X.stack s H) (I : Inv X pins σ H s) (rd : RD G.K H (.obj c fs) (.ref a)) (ru : RelV y u) (re : RD G.K H e y) (hk : kndD e = true) (tb : Tb G H)
    (zz : C' nm [.obj c fs, e] (fun r => ∃ b, r = .v (.bl b) ∧ ∀ H', ExN H H' → Tb G H' → F b H') E0) : wpAny (model X.prog X.w) A (richCompare .NotEq u (.ref a)) (fun v s' => ∃ b, v = .bool (!b) ∧ BkO X G pins σ H F b s') X.xe s := by
  obtain ⟨g, fd, ps, Fg, hb, hps, hf, hi⟩ := sp.ex
  have rd' := rd
  cases rd with
  | @obj _ _ dx vs _ hsl rs =>
    obtain ⟨sl, od, _, J, _⟩ := SlX.slt_inst I hsl
    obtain ⟨n, hn⟩ := kndD_ty hk
    obtain ⟨kd, _⟩ := knd_of I ru (n := n) (by rw [ok.bs.K]; exact tyX_of (.inl re) hn) rfl
    refine kd.neR hu I.kIn J (by rw [ok.bs.K]; exact sp.kt n) (by rw [ok.bs.K]; exact sp.mro) (by rw [ok.bs.K]; exact sp.ne) (by rw [ok.bs.K]; exact hf) (by rw [ok.bs.K]; exact hi) ?_
    refine thn (spe_run hfl hC ok Fg hb hps hr e0 I ru rd' re tb (eq_z hC zz)) ?_
    intro w s' hw
    obtain ⟨v, H', I', rv', bb, e, q, x, t⟩ := hw
    subst e
    cases (show w = Value.bool bb from rv')
    exact ⟨bb, rfl, bb, rfl, H', I', q, x, t⟩
end
end
/-- which of two is the own object -/
theorem oSw_is (x y : D) : (isObj x = true ∧ oSw x y = (x, y)) ∨ (isObj x = false ∧ oSw x y = (y, x)) := by
  cases x <;> first
    | exact .inl ⟨rfl, rfl⟩
    | exact .inr ⟨rfl, rfl⟩
theorem sam_knd {c : Str} {d : D} (h : samO c d = true) (e : isObj d = false) : kndD d = true := by
  cases d <;> first
    | exact h
    | cases e
section
variable {p : Pg} {G : Cfg} {C : Nat → Call} {n : Nat} {X : Cx} {W : WX} (hfl : p.fl = false) (hC : ∀ k, MonoC (C k)) (ox : ObE p G C n) (ok : OkX p G n X W)
include hfl hC ox ok
/-- == of two things, one of them an own object -/
theorem ob_rc {A : Around} (hr : ∀ k, n = k + 1 → Room k A) {pins : List (Addr × Obj)} {σ : L2.St} {H : Hp} {s : Shared} (e0 : Env0 X.prog X.w X.K X.mg X.base A X.stack s H) (I : Inv X pins σ H s) {dx dy : D} {x y : V} {v u : Value} (rx : RelV x v) (ry : RelV y u) (hx : RD G.K H dx x) (hy : RD G.K H dy y) (t : Tb G H) {F : Bool → Hp → Prop}
    (z : eqOb (C n) dx dy fun b => ∀ H', ExN H H' → Tb G H' → F b H') : wpAny (model X.prog X.w) A (richCompare .Eq v u) (fun v s' => ∃ b, v = .bool b ∧ BkO X G pins σ H F b s') X.xe s := by
  obtain ⟨h1, z⟩ := z
  rcases oSw_is dx dy with ⟨h2, e⟩ | ⟨h2, e⟩
  · rw [e] at h1 z
    obtain ⟨k, nm, c, fs, e', e1, hs, sp, zz⟩ := ox.eq _ _ _ _ z
    subst e1
    have rd := hx
    cases rd with
    | @obj _ a _ vs _ hsl rs =>
      cases (show v = Value.ref a from rx)
      exact own_eq hfl (hC k) ok sp (hr k e') e0 I hx ry hy hs t zz
  · rw [e] at h1 z
    obtain ⟨k, nm, c, fs, e', e1, hs, sp, zz⟩ := ox.eq _ _ _ _ z
    subst e1
    have rd := hy
    cases rd with
    | @obj _ a _ vs _ hsl rs =>
      cases (show u = Value.ref a from ry)
      exact own_eqR hfl (hC k) ok sp (hr k e') e0 I hy rx hx (sam_knd hs h2) t zz
theorem ob_rn {pins : List (Addr × Obj)} {σ : L2.St} {H : Hp} {s : Shared} (I : Inv X pins σ H s) {dx dy : D} {x y : V} {v u : Value} (rx : RelV x v) (ry : RelV y u) (hx : RD G.K H dx x) (hy : RD G.K H dy y) (t : Tb G H) {F : Bool → Hp → Prop}
    (z : eqOb (C n) dx dy fun b => ∀ H', ExN H H' → Tb G H' → F b H') : wpAny (model X.prog X.w) X.A (richCompare .NotEq v u) (fun v s' => ∃ b, v = .bool (!b) ∧ BkO X G pins σ H F b s') X.xe s := by
  have hu : X.A.units + 1 < cLine := by have := ok.bs.un; omega
  obtain ⟨h1, z⟩ := z
  rcases oSw_is dx dy with ⟨h2, e⟩ | ⟨h2, e⟩
  · rw [e] at h1 z
    obtain ⟨k, nm, c, fs, e', e1, hs, sp, zz⟩ := ox.eq _ _ _ _ z
    subst e' e1
    have rd := hx
    cases rd with
    | @obj _ a _ vs _ hsl rs =>
      cases (show v = Value.ref a from rx)
      exact own_ne hfl (hC k) ok sp hu ok.room.in1 I.env0.in1 I hx ry hy hs t zz
  · rw [e] at h1 z
    obtain ⟨k, nm, c, fs, e', e1, hs, sp, zz⟩ := ox.eq _ _ _ _ z
    subst e' e1
    have rd := hy
    cases rd with
    | @obj _ a _ vs _ hsl rs =>
      cases (show u = Value.ref a from ry)
      exact own_neR hfl (hC k) ok sp hu ok.room.in1 I.env0.in1 I hy rx hx (sam_knd hs h2) t zz
theorem ob_oeq (b : Bool) : OpR X (compareOp (opE b)) (fun x y H Q => ∃ dx dy, RD G.K H dx x ∧ RD G.K H dy y ∧ Tb G H ∧ eqOb (C n) dx dy fun k => finB G H Q (flp b k)) := by
  intro pins s σ H x y v u Q I rx ry ⟨dx, dy, hx, hy, t, z⟩
  cases b with
  | false =>
    show wpAny _ _ (richCompare .Eq v u) _ _ _
    refine wpAny_mono (ob_rc hfl hC ox ok (A := X.A) (fun k e => by subst e; exact Room.mono ok.room (Nat.le_succ k)) I.env0 I rx ry hx hy t (F := fun b H' => Q (.bl b) H') z) (fun r s' hv => ?_) fun _ _ e => e
    obtain ⟨b, rfl, H', I', q, _, _⟩ := hv
    exact ⟨.bl b, H', I', rfl, q⟩
  | true =>
    show wpAny _ _ (richCompare .NotEq v u) _ _ _
    refine wpAny_mono (ob_rn hfl hC ox ok I rx ry hx hy t (F := fun b H' => Q (.bl (!b)) H') z) (fun r s' hv => ?_) fun _ _ e => e
    obtain ⟨b, rfl, H', I', q, _, _⟩ := hv
    exact ⟨.bl (!b), H', I', rfl, q⟩
end
section
variable {p : Pg} {G : Cfg} {C : Nat → Call} {n : Nat} {X : Cx} {W : WX} (hfl : p.fl = false) (hC : ∀ k, MonoC (C k)) (ox : ObE p G C n) (ok : OkX p G n X W)
include hfl hC ox ok
/-- an own object in a list -/
theorem ob_in {pins : List (Addr × Obj)} {σ : L2.St} {H : Hp} {s : Shared} (I : Inv X pins σ H s) {dx : D} {ys : List D} {x y : V} {v u : Value} (rx : RelV x v) (ry : RelV y u) (hx : RD G.K H dx x) (hy : RB G.K H (.lst ys) y) (t : Tb G H) (hne : ys ≠ []) (ho : isObj dx = true) {F : Bool → Hp → Prop}
    (z : inG (C n) dx ys fun b => ∀ H', ExN H H' → Tb G H' → F b H') : wpAny (model X.prog X.w) X.A (contains u v) (fun b s' => ∃ H', Inv X pins σ H' s' ∧ F b H') X.xe s := by
  obtain ⟨q, us, e, sq, rs⟩ := hy.lst
  subst e
  cases (show u = Value.ref q from ry)
  have hn1 : ∃ k, n = k + 1 := by
    cases ys with
    | nil => exact absurd rfl hne
    | cons a r =>
      obtain ⟨k, _, _, _, e, _⟩ := ox.eq _ _ _ _ z.2.2
      exact ⟨k, e⟩
  refine contains_O (N := ys.length) (fun i s' => ∃ H', Inv X pins σ H' s' ∧ ExN H H' ∧ Tb G H' ∧ inG (C n) dx (ys.drop i) fun b => ∀ H', ExN H H' → Tb G H' → F b H') (fun i s' ⟨H', I', x', t', z'⟩ => ?_) (fun s' ⟨H', I', x', t', z'⟩ => ?_) ⟨H, I, LamX.ExtN.refl H, t, z⟩
  · have hy' := hy.ext x'
    obtain ⟨q', us', e, sq', rs'⟩ := hy'.lst
    cases e
    obtain ⟨its, r, pl, hz⟩ := I'.list (by rw [ok.bs.K]; exact sq')
    obtain ⟨⟨cls, dd, data, sl⟩, ho', hc, n', hd⟩ := id pl.isList
    simp only at hc hd
    subst hc hd
    have hsz : its.length = ys.length := by
      have h1 := rs'.length
      have h2 := L2.Vals.length r
      omega
    refine ⟨its.toArray, n', dd, sl, ho', by simpa using hsz, fun hi => ?_⟩
    have hi' : i < its.length := by simpa using hi
    have hiy : i < ys.length := by omega
    rw [List.drop_eq_getElem_cons hiy] at z'
    obtain ⟨z1, z2⟩ := z'
    obtain ⟨ay, ru, rdy⟩ : ∃ ay, RelV ay its[i] ∧ RD G.K H' ys[i] ay := by
      obtain ⟨w, e1, e2⟩ := rs'.get (List.getElem?_eq_getElem hiy)
      obtain ⟨w2, e3, e4⟩ := L2.Vals.get r e1
      rw [List.getElem?_eq_getElem hi'] at e3
      cases e3
      exact ⟨w, e4, e2⟩
    have hx' := hx.stb (ExN.stb x')
    have rdx := hx'
    cases rdx with
    | @obj c a _ vs _ hsl rs =>
      cases (show v = Value.ref a from rx)
      have ei : its.toArray[i] = its[i] := by simp
      rw [ei]
      refine eqBool_O (fun e => ⟨fun _ => ?_, fun z => nomatch z⟩) ?_
      · have hob : kndD ys[i] = false := by
          cases hk : kndD ys[i] with
          | false => rfl
          | true =>
            obtain ⟨m, hm⟩ := kndD_ty hk
            obtain ⟨kd, _⟩ := knd_of I' ru (n := m) (by rw [ok.bs.K]; exact tyX_of (.inl rdy) hm) rfl
            obtain ⟨sl2, od, _, J, _⟩ := SlX.slt_inst I' hsl
            rw [e] at kd
            cases kd with
            | lst h c => rw [J.at_] at h; cases h; cases c
            | tup h c => rw [J.at_] at h; cases h; cases c
            | dic h c => rw [J.at_] at h; cases h; cases c
        exact ⟨H', I', z1 hob H' x' t'⟩
      · refine wpAny_mono (ob_rc hfl hC ox ok (A := X.A.in1) (fun k e => by subst e; exact ok.room.in1) I'.env0.in1 I' ru (show RelV (.ref a) (Value.ref a) from rfl) rdy hx' t' (F := fun b H2 => (b = true → ∀ H3, ExN H2 H3 → Tb G H3 → F true H3) ∧ (b = false → inG (C n) _ (ys.drop (i + 1)) fun b => ∀ H', ExN H H' → Tb G H' → F b H')) (eqOb_mono (hC n) (fun b q H2 x2 t2 => ⟨fun e H3 x3 t3 => q.1 e H3 ((x'.trans x2).trans x3) t3, q.2⟩) z2)) (fun r s2 hv => ?_) fun _ _ e => e
        obtain ⟨b, rfl, H2, I2, q, x2, t2⟩ := hv
        exact ⟨b, rfl, fun e => ⟨H2, I2, q.1 e H2 (LamX.ExtN.refl H2) t2⟩, fun e => ⟨H2, I2, x'.trans x2, t2, q.2 e⟩⟩
    | _ => cases ho
  · rw [List.drop_length] at z'
    exact ⟨H', I', z' H' x' t'⟩
theorem ob_oin (b : Bool) : OpR X (compareOp (opI b)) (fun x y H Q => ∃ dx dy, RD G.K H dx x ∧ RB G.K H dy y ∧ Tb G H ∧ inO (C n) dx dy fun k => finB G H Q (flp b k)) := by
  intro pins s σ H x y v u Q I rx ry ⟨dx, dy, hx, hy, t, ys, e, hne, ho, z⟩
  subst e
  cases b with
  | false =>
    show wpAny (model X.prog X.w) X.A (do return Value.bool (← contains u v)) (EP X pins σ Q) X.xe s
    refine wpAny_bind (wpAny_mono (ob_in hfl hC ox ok I rx ry hx hy t hne ho (F := fun b H' => Q (.bl b) H') z) (fun r s' hv => ?_) fun _ _ e => e)
    obtain ⟨H', I', q⟩ := hv
    exact wpAny_pure ⟨.bl r, H', I', rfl, q⟩
  | true =>
    show wpAny (model X.prog X.w) X.A (do return Value.bool (!(← contains u v))) (EP X pins σ Q) X.xe s
    refine wpAny_bind (wpAny_mono (ob_in hfl hC ox ok I rx ry hx hy t hne ho (F := fun b H' => Q (.bl (!b)) H') z) (fun r s' hv => ?_) fun _ _ e => e)
    obtain ⟨H', I', q⟩ := hv
    exact wpAny_pure ⟨.bl (!r), H', I', rfl, q⟩
theorem ob_eqo : EqoOk X G (C n) where
  eq := by
    intro pins s σ H x y v u Q I rx ry ⟨dx, dy, hx, hy, t, h1, h2, z⟩
    have rd := hx.rd (fun _ z => by subst z; cases h1)
    have re := hy.rd (fun _ z => by subst z; cases h2)
    refine ob_oeq hfl hC ox ok false pins s σ H x y v u Q I rx ry ⟨dx, dy, rd, re, t, ?_⟩
    cases dx <;> first
      | exact ⟨rfl, z⟩
      | cases h1
  ne := by
    intro pins s σ H x y v u Q I rx ry ⟨dx, dy, hx, hy, t, h1, h2, z⟩
    have rd := hx.rd (fun _ z => by subst z; cases h1)
    have re := hy.rd (fun _ z => by subst z; cases h2)
    refine ob_oeq hfl hC ox ok true pins s σ H x y v u Q I rx ry ⟨dx, dy, rd, re, t, ?_⟩
    cases dx <;> first
      | exact ⟨rfl, z⟩
      | cases h1
  oeq := ob_oeq hfl hC ox ok
  oin := ob_oin hfl hC ox ok
end
end En
/-! En26: all built-ins of own objects; the built-ins' row of what is known. -/
namespace En
open PySem L2 PyProof.Rows
section
variable {p : Pg} {G : Cfg} {C' : Call} {k : Nat} {X : Cx} {W : WX}
theorem ob_bool (hfl : p.fl = false) (hC : MonoC C') (ok : OkX p G (k + 3) X W) {nm : Str → Str} : CallR X (.type "bool") (rBlt G fun ds Q => ∃ c fs, ds = [.obj c fs] ∧ PySem.W.findIn G.K (.ref (He.ga G.K c)) "__bool__" = some none ∧ Spc p G C' k c "__len__" (nm c) ∧ C' (nm c) [.obj c fs] (fun r => ∃ n : Int, r = .v (.int n) ∧ 0 ≤ n ∧ n < 1000000 ∧ Q (.v (.bl (n != 0)))) E0) := by
  intro pins s σ H xs us Q I rv ⟨ds, rb, tb, c, fs, e, hbo, sp, z⟩
  subst e
  obtain ⟨v, rfl, rx⟩ := rbs1 rb
  have rd := rx.rd (fun _ z => nomatch z)
  have rd' := rd
  cases rd with
  | @obj _ a dx vs _ hsl rs =>
    obtain ⟨u, rfl, ru⟩ := rv.one
    cases (show u = Value.ref a from ru)
    obtain ⟨g, fd, ps, F, hb, hps, hf, hi⟩ := sp.ex
    obtain ⟨sl, od, _, J, _⟩ := SlX.slt_inst I hsl
    have hr3 : Room k X.A.in1.in1.in1 := (show Room (k + 1) X.A.in1.in1 from (show Room (k + 2) X.A.in1 from Room.in1 ok.room).in1).in1
    refine bool_own I.kIn J (by rw [ok.bs.K]; exact hbo) (by rw [ok.bs.K]; exact hf) (by rw [ok.bs.K]; exact hi) ?_
    have z2 : C' (nm c) [.obj c fs] (qS G (fun v H' => ∃ n : Int, v = .int n ∧ 0 ≤ n ∧ n < 1000000 ∧ Q (.bl (n != 0)) H') H) E0 := by
      refine hC _ _ _ _ _ _ ?_ (fun _ _ z => z) z
      intro r hr v H' rr x t
      obtain ⟨n, e, h0, h1, q⟩ := hr
      subst e
      have rr : RD G.K H' (.int n) v := rr
      cases rr
      exact ⟨n, rfl, h0, h1, q _ H' (.bl _) x t⟩
    refine thn (spc_run hfl hC ok F hb hps hr3 I.env0.in1.in1.in1 I rd' tb z2) ?_
    intro w s' hw
    obtain ⟨v, H', I', rv', n, e, h0, h1, q⟩ := hw
    subst e
    obtain ⟨t, rfl⟩ := (show ∃ t, w = Value.int n t from rv')
    exact ⟨⟨h0, by omega⟩, fun t => ⟨.bl _, H', I'.tok _, rfl, q⟩⟩
end
/-- what the built-ins ask of own classes; C by levels -/
structure ObX (p : Pg) (G : Cfg) (C : Nat → Call) (n : Nat) : Prop where
  len : ∀ c fs Q E, C n "__len__" [.obj c fs] Q E → ∃ k nm, n = k + 1 ∧ Spc p G (C k) k c "__len__" nm ∧ C k nm [.obj c fs] Q E
  repr : ∀ c fs Q E, C n "__repr__" [.obj c fs] Q E → ∃ k nm, n = k + 1 ∧ Spc p G (C k) k c "__repr__" nm ∧ C k nm [.obj c fs] Q E
  str : ∀ c fs Q E, C n "__str__" [.obj c fs] Q E → ∃ k nm, n = k + 2 ∧ Spc p G (C k) k c "__str__" nm ∧ C k nm [.obj c fs] Q E
  bool : ∀ c fs Q E, C n "__bool__" [.obj c fs] Q E → ∃ k nm, n = k + 3 ∧ PySem.W.findIn G.K (.ref (He.ga G.K c)) "__bool__" = some none ∧ Spc p G (C k) k c "__len__" nm ∧ C k nm [.obj c fs] Q E
section
variable {p : Pg} {G : Cfg} {sub : Sub} {C : Nat → Call} {n : Nat} {X : Cx} {W : WX}
theorem ob_all (hfl : p.fl = false) (hC : ∀ k, MonoC (C k)) (ox : ObX p G C n) (ok : OkX p G n X W) {b : Bf} {f : Value} (hf : bfV b = some f) : CallR X f (rBlt G fun ds Q => isOb ds = true ∧ b ≠ .isi ∧ bltW sub (C n) b ds Q) := by
  intro pins s σ H vs us Q I rv ⟨ds, rb, tb, ho, hb, z⟩
  unfold bltW at z
  split at z
  case h_1 => exact absurd rfl hb
  case h_2 =>
    cases hf
    obtain ⟨k, nm, e, sp, z2⟩ := ox.len _ _ _ _ z
    subst e
    exact ob_len (nm := fun _ => nm) hfl (hC k) ok pins s σ H vs us Q I rv ⟨_, rb, tb, _, _, rfl, sp, z2⟩
  case h_10 =>
    cases hf
    obtain ⟨k, nm, e, sp, z2⟩ := ox.str _ _ _ _ z
    subst e
    exact ob_str (nm := fun _ => nm) hfl (hC k) ok pins s σ H vs us Q I rv ⟨_, rb, tb, _, _, rfl, sp, z2⟩
  case h_23 =>
    cases hf
    obtain ⟨k, nm, e, hbo, sp, z2⟩ := ox.bool _ _ _ _ z
    subst e
    exact ob_bool (nm := fun _ => nm) hfl (hC k) ok pins s σ H vs us Q I rv ⟨_, rb, tb, _, _, rfl, hbo, sp, z2⟩
  case h_24 =>
    cases hf
    obtain ⟨k, nm, e, sp, z2⟩ := ox.repr _ _ _ _ z
    subst e
    exact ob_repr (nm := fun _ => nm) hfl (hC k) ok pins s σ H vs us Q I rv ⟨_, rb, tb, _, _, rfl, sp, z2⟩
  all_goals first
    | (cases ho; done)
    | exact z.elim
    | (rename_i x _ _; cases x <;> first | (cases ho; done) | exact absurd rfl (‹∀ c fs, _› _ _) | (exact z.elim) | (cases z.1))
    | (rename_i x _; cases x <;> first | (cases ho; done) | exact absurd rfl (‹∀ c fs, _› _ _) | (exact z.elim) | (cases z.1))
end
end En
/-! En27: the def that puts lines into parts, each a list that grows. -/
namespace En
open PySem L2 PyProof.Rows
/-! ### plain -/
def bpOne (acc : List (List Str)) (l : Str) : Option (List (List Str)) :=
  if cutS l none (some 7) = "branch " then some (acc ++ [[l]])
  else match acc.getLast? with
    | none => none
    | some g => match g.getLast? with
      | none => none
      | some q => if cutS q none (some 5) = "then " then none else some (acc.dropLast ++ [g ++ [l]])
def bpGo : List (List Str) → List Str → Option (List (List Str))
  | acc, [] => some acc
  | acc, l :: ls => (bpOne acc l).bind fun a => bpGo a ls
/-! ### lists of lists in the heap -/
structure NL (G : Cfg) (H0 H : Hp) (F : Addr) (ps : List Addr) (pss : List (List Str)) : Prop where
  out : H F = some (.lst (ps.map V.ref))
  len : ps.length = pss.length
  inn : ∀ (i : Nat) (p : Addr) (ls : List Str), ps[i]? = some p → pss[i]? = some ls → H p = some (.lst (ls.map V.str))
  nd : ps.Nodup
  no : F ∉ ps
  frF : Fr H0 F
  fr : ∀ p ∈ ps, Fr H0 p
  ex : ExN H0 H
  tb : Tb G H
  ne : ∀ ls ∈ pss, ls ≠ []
def frzW : List Addr → (Hp → Prop) → Hp → Prop
  | [], P, H => P H
  | a :: as, P, H => ∃ us, H a = some (.lst us) ∧ ∀ o, frzW as P (upd H a (.frz o (.lst us)))
theorem frzW.run {X : Cx} {pins : List (Addr × Obj)} {σ : L2.St} {s : Shared} : ∀ {as : List Addr} {P : Hp → Prop} {H : Hp}, Inv X pins σ H s → frzW as P H → ∃ H', Inv X pins σ H' s ∧ P H'
  | [], P, H, I, h => ⟨H, I, h⟩
  | a :: as, P, H, I, ⟨us, e, h⟩ => by
    obtain ⟨o, I'⟩ := Inv.freeze I e
    exact frzW.run I' (h o)
/-! ### the steps of the loop -/
section
variable {G : Cfg} {H0 H : Hp} {F : Addr} {ps : List Addr} {pss : List (List Str)}
theorem NL.ext (n : NL G H0 H F ps pss) {H' : Hp} (x : ExN H H') (t : Tb G H') : NL G H0 H' F ps pss :=
  ⟨x _ _ n.out (fun _ z => nomatch z), n.len, fun i p ls h1 h2 => x _ _ (n.inn i p ls h1 h2) (fun _ z => nomatch z), n.nd, n.no, n.frF, n.fr, n.ex.trans x, t, n.ne⟩
/-- a new part -/
theorem NL.push (n : NL G H0 H F ps pss) {q : Addr} {l : Str} (hq : H q = none) : NL G H0 (upd (upd H q (.lst [.str l])) F (.lst (ps.map V.ref ++ [.ref q]))) F (ps ++ [q]) (pss ++ [[l]]) := by
  have hFq : F ≠ q := ne_of_none n.out hq
  have nq : q ∉ ps := fun z => by
    obtain ⟨i, hi⟩ := List.getElem?_of_mem z
    have hlt : i < pss.length := by
      rw [← n.len]
      rcases Nat.lt_or_ge i ps.length with z | z
      · exact z
      · rw [List.getElem?_eq_none z] at hi; cases hi
    have := n.inn i q _ hi (List.getElem?_eq_getElem hlt)
    rw [hq] at this
    cases this
  have x1 : ExN H (upd H q (.lst [.str l])) := ExN.new hq
  have fq : Fr H0 q := Fr.back n.ex (Fr.of hq)
  have hF2 : (upd H q (.lst [.str l])) F = some (.lst (ps.map V.ref)) := by rw [upd_ne hFq]; exact n.out
  refine ⟨by rw [upd_same]; simp, by simp [n.len], fun i p ls h1 h2 => ?_, ?_, ?_, n.frF, fun p hp => ?_, ExN.frz (n.ex.trans x1) n.frF, Tabs.upd (Tabs.new n.tb hq) hF2 (fun _ z => nomatch z) (lstCode _ F), fun ls hl => ?_⟩
  · rcases Nat.lt_trichotomy i ps.length with hi | hi | hi
    · rw [List.getElem?_append_left hi] at h1
      rw [List.getElem?_append_left (by rw [← n.len]; exact hi)] at h2
      have hp : p ∈ ps := List.mem_of_getElem? h1
      rw [upd_ne (fun e => n.no (by rw [← e]; exact hp)), upd_ne (fun e => nq (by rw [← e]; exact hp))]
      exact n.inn i p ls h1 h2
    · subst hi
      rw [List.getElem?_append_right (Nat.le_refl _)] at h1
      rw [List.getElem?_append_right (by rw [n.len]; exact Nat.le_refl _), n.len] at h2
      simp at h1 h2
      subst h1 h2
      rw [upd_ne hFq.symm, upd_same]
      rfl
    · rw [List.getElem?_append_right (Nat.le_of_lt hi)] at h1
      have := List.getElem?_eq_none (l := [q]) (i := i - ps.length) (by simp; omega)
      rw [this] at h1
      cases h1
  · rw [List.nodup_append]
    exact ⟨n.nd, by simp, fun a ha b hb e => by simp at hb; subst hb; subst e; exact nq ha⟩
  · simp only [List.mem_append, List.mem_singleton, not_or]
    exact ⟨n.no, hFq⟩
  · rcases List.mem_append.mp hp with z | z
    · exact n.fr p z
    · simp at z
      subst z
      exact fq
  · rcases List.mem_append.mp hl with z | z
    · exact n.ne ls z
    · simp at z
      subst z
      simp
end
theorem ift {A B : Prop} (h : A) : if (true = true) then A else B := by rw [if_pos rfl]; exact h
theorem iff_ {A B : Prop} (h : B) : if (false = true) then A else B := by rw [if_neg (by decide)]; exact h
/-! ### the def -/
section
variable {p : Pg} {G : Cfg} {C : Call}
/-- its meaning -/
def bpW (ds : List D) (Q : Rv → Prop) : Prop := ∃ ls : List Str, ds = [.lst (ls.map D.str)] ∧ ls.length < sizeLine ∧ (∀ l ∈ ls, l.length ≤ sizeLine) ∧ match bpGo [] ls with
  | none => Q (.v .non)
  | some pss => Q (.v (.lst (pss.map fun ls => .lst (ls.map D.str))))
end
end En
namespace En
open PySem L2 PyProof.Rows TL
/-! Xr1: t[::-1] of a tuple. -/
open PySem.Spec HT
section
variable {prog : Program} {w : World} {A : Around} {E : Value → Shared → Prop} {s : Shared}
theorem sliceBack {sl : Addr} {vl vu vs : Value} {n : Nat} {Q : Int × Int × Nat → Shared → Prop} (hs : s.heap.IsSliceOf sl vl vu vs) (pl : IsPart vl none) (pu : IsPart vu none) (ps : IsPart vs (some (-1)))
    (h : Q ((n : Int) - 1, -1, n) s) : wpAny (model prog w) A (Builtin.Slice.sliceApplied (.ref sl) (pure (n : Int))) Q E s := by
  obtain ⟨os, hos, hcs, hds⟩ := id hs
  unfold Builtin.Slice.sliceApplied Builtin.Slice.sliceFields
  refine wpAny_bind (wpAny_bind (wpAny_field hos hds (x := vl) rfl (wpAny_bind (wpAny_field hos hds (x := vu) rfl (wpAny_bind (wpAny_field hos hds (x := vs) rfl (wpAny_pure ?_)))))))
  refine wpAny_bind (slicePart_ ps ?_)
  show wpAny _ _ (if ((-1 : Int) == 0) = true then _ else _) _ _ s
  rw [if_neg (by decide)]
  refine wpAny_bind (slicePart_ pl (wpAny_bind (slicePart_ pu (wpAny_bind (wpAny_pure ?_)))))
  show wpAny _ _ (match Builtin.Slice.sliceAdjust none none (-1) (n : Int) with | (lo, hi) => pure (lo, (-1 : Int), Builtin.Slice.slicePlaces lo hi (-1))) _ _ s
  have e1 : Builtin.Slice.sliceAdjust none none (-1) (n : Int) = ((n : Int) - 1, -1) := by
    unfold Builtin.Slice.sliceAdjust
    simp
  have e2 : Builtin.Slice.slicePlaces ((n : Int) - 1) (-1) (-1) = n := by
    unfold Builtin.Slice.slicePlaces
    rw [if_neg (by decide)]
    split
    · rw [Int.neg_neg, Int.ediv_one]
      omega
    · omega
  rw [e1]
  show wpAny _ _ (pure (((n : Int) - 1), (-1 : Int), Builtin.Slice.slicePlaces ((n : Int) - 1) (-1) (-1))) _ _ s
  rw [e2]
  exact wpAny_pure h
theorem fm_congr {α β : Type} {f g : α → Option β} : ∀ (l : List α), (∀ x ∈ l, f x = g x) → l.filterMap f = l.filterMap g
  | [], _ => rfl
  | x :: l, h => by
    rw [List.filterMap_cons, List.filterMap_cons, h x List.mem_cons_self, fm_congr l fun y hy => h y (List.mem_cons_of_mem _ hy)]
theorem pick_back (xs : Array Value) : ((List.range xs.size).filterMap fun (m : Nat) => xs[(((xs.size : Nat) : Int) - 1 + (m : Int) * (-1)).toNat]?).toArray = xs.toList.reverse.toArray := by
  congr 1
  have e : ∀ m ∈ List.range xs.size, xs[(((xs.size : Nat) : Int) - 1 + (m : Int) * (-1)).toNat]? = (some ∘ fun m => xs.toList.reverse.getD m .none) m := by
    intro m hm
    have hm := List.mem_range.mp hm
    have e1 : (((xs.size : Nat) : Int) - 1 + (m : Int) * (-1)).toNat = xs.size - 1 - m := by omega
    have hl : m < xs.toList.reverse.length := by simp; omega
    rw [e1]
    show _ = some (xs.toList.reverse.getD m .none)
    rw [List.getD_eq_getElem?_getD, List.getElem?_eq_getElem hl, Option.getD_some, List.getElem_reverse]
    have h2 : xs.size - 1 - m < xs.size := by omega
    rw [Array.getElem?_eq_getElem h2]
    simp
  rw [fm_congr _ e, List.filterMap_eq_map]
  refine List.ext_getElem (by simp) fun i h1 h2 => ?_
  rw [List.getElem_map, List.getElem_range, List.getD_eq_getElem?_getD, List.getElem?_eq_getElem h2, Option.getD_some]
theorem getItem_back {t sl : Addr} {items : Array Value} {vl vu vs : Value} {Q : Value → Shared → Prop} (ht : IsTup s.heap t items) (hs : s.heap.IsSliceOf sl vl vu vs) (pl : IsPart vl none) (pu : IsPart vu none) (ps : IsPart vs (some (-1)))
    (h : Q (.ref s.heap.objs.size) { s with heap := s.heap.push { cls := .type "tuple", data := .seq items.toList.reverse.toArray } }) (hsz : items.size ≤ sizeLine) : wpAny (model prog w) A (getItem (.ref t) (.ref sl)) Q E s := by
  have fits : sizeOk (.seq items.toList.reverse.toArray) := by
    show items.toList.reverse.toArray.size ≤ sizeLine
    rw [List.size_toArray, List.length_reverse, Array.length_toList]
    exact hsz
  obtain ⟨os, hos, hcs, hds⟩ := id hs
  have hTs : s.TypeIs (.ref sl) "slice" := ⟨os, hos, hcs⟩
  unfold getItem
  try with_reducible refine wpAny_holding ?_
  first | refine wpAny_bind (wpAny_pure ?_) | skip
  refine wpAny_bind (wpAny_sequenceKey ht.typeIs (by decide) ?_)
  refine wpAny_bind (wpAny_callSpecial?_slot (name := Str.ofString "__getitem__") ht.typeIs PyProof.Rows.slot_tuple_getitem (wpAny_call_entry PyProof.Rows.slot_tuple_getitem ht.typeIs entry_tuple_getitem ?_ (args_tuple_getitem _ _)))
  show wpAny _ _ (Builtin.Tuple.tupleItemsOf (.ref t) >>= _) _ _ s
  refine wpAny_bind (tupleItemsOf_ ht (wpAny_bind (wpAny_typeOf hTs ?_)))
  rw [if_pos (by decide)]
  refine wpAny_bind (sliceBack hs pl pu ps ?_)
  have no : ¬ ((((items.size : Nat) : Int) - 1 == 0 && (-1 : Int) == 1 && items.size == items.size) = true) := by
    rw [show ((-1 : Int) == 1) = false from rfl, Bool.and_false, Bool.false_and]
    exact Bool.false_ne_true
  show wpAny _ _ (if (((items.size : Nat) : Int) - 1 == 0 && (-1 : Int) == 1 && items.size == items.size) = true then _ else _) _ _ s
  rw [if_neg no, pick_back]
  first
    | exact wpAny_bind (m := Builtin.Tuple.tupleExact _) (wpAny_newObj_type (wpAny_pure ⟨_, rfl, wpAny_pure h⟩) fits)
    | exact wpAny_bind (m := Builtin.Tuple.tupleExact _) (wpAny_newObj_type (wpAny_bind (wpAny_pure (wpAny_pure ⟨_, rfl, wpAny_pure h⟩))) fits)
    | exact wpAny_bind (wpAny_bind (m := Builtin.Tuple.tupleExact _) (wpAny_newObj_type (wpAny_pure (wpAny_pure ⟨_, rfl, wpAny_pure h⟩)) fits))
    | exact wpAny_bind (wpAny_bind (m := Builtin.Tuple.tupleExact _) (wpAny_newObj_type (wpAny_pure ⟨_, rfl, wpAny_pure h⟩) fits))
end
section
variable {X : Cx}
/-- a tuple turned about, or a list -/
def tRevT (K : PySem.W.Frag) (te : TE) : TE := fun σ H Q => te σ H fun x H1 => (∃ a xs, x = .ref a ∧ SqT K H1 a xs ∧ ∀ p, H1 p = none → Q (.ref p) (upd H1 p (.tup xs.reverse))) ∨ ∃ a xs, x = .ref a ∧ SqL K H1 a xs ∧ ∀ p, H1 p = none → Q (.ref p) (upd H1 p (.lst xs.reverse))
theorem pe_revT {e : Expr} {te : TE} {k : Nat} {p1 p2 p3 pos : Pos} (he : PE X e te) : PE X (.Subscript e (.Slice none none (some (.UnaryOp .USub (.Constant (.int 1) k p1) p2)) p3) pos) (tRevT X.K te) := by
  refine ⟨fun pins s σ H Q I h => ?_⟩
  refine Subscript_ (thn (he.run pins s σ H _ I h) fun v s1 ⟨x, H1, I1, r1, q1⟩ => ?_)
  have er : ∃ a, x = .ref a := q1.elim (fun ⟨a, _, e, _⟩ => ⟨a, e⟩) fun ⟨a, _, e, _⟩ => ⟨a, e⟩
  obtain ⟨a, ex⟩ := er
  subst ex
  cases r1
  have hst : PO X (some (.UnaryOp .USub (.Constant (.int 1) k p1) p2)) (tPart (tUn (rU fun i => .int (-i)) (tC (.int 1)))) := po_some (pe_un un_neg pe_int)
  refine wpAny_Slice (thn (po_none.run pins s1 σ H1 (fun o H2 => o = none ∧ H2 = H1) I1 ⟨rfl, rfl⟩) fun vl s2 ⟨l, H2, I2, pl, el, e2⟩ => ?_)
  subst el e2
  refine thn (po_none.run pins s2 σ H2 (fun o H3 => o = none ∧ H3 = H2) I2 ⟨rfl, rfl⟩) fun vu s3 ⟨u, H3, I3, pu, eu, e3⟩ => ?_
  subst eu e3
  refine thn (hst.run pins s3 σ H3 (fun o H4 => o = some (-1) ∧ H4 = H3) I3 ⟨1, rfl, -1, rfl, rfl, rfl⟩) fun vs s4 ⟨o, H4, I4, ps, eo, e4⟩ => ?_
  subst eo e4
  have j5 : Inv X pins σ H4 { s4 with heap := s4.heap.push { cls := .type "slice", data := .fields #[vl, vu, vs] } } := I4.kept (t' := s4.toks) fun b ob q => Heap.get?_push_of_some _ q
  rcases q1 with ⟨a', xs, ea, hx, q⟩ | ⟨a', xs, ea, hx, q⟩
  · cases ea
    obtain ⟨its, r, ht, hz⟩ := j5.tuple hx
    have hlen := r.length
    show wpAny (model X.prog X.w) X.A (subscriptTail e (.Slice none none (some (.UnaryOp .USub (.Constant (.int 1) k p1) p2)) p3) (.ref a) (.ref s4.heap.objs.size)) (EP X pins σ Q) X.xe { s4 with heap := s4.heap.push { cls := .type "slice", data := .fields #[vl, vu, vs] } }
    refine tail_any (ops := [.ref a, .ref s4.heap.objs.size]) ht.typeIs PyProof.Rows.slot_tuple_getitem.lookup ?_ (by with_unfolding_all rfl)
    refine getItem_back ht (Heap.IsSliceOf.new _ vl vu vs) pl pu ps ?_ (by rw [List.size_toArray]; omega)
    refine ⟨.ref _, _, j5.laid (t' := s4.toks) (o := .tup xs.reverse) (fun b ob q => Heap.get?_push_of_some _ q) (Nat.le_refl _) ?_, rfl, q _ (j5.hok.fresh (Nat.le_refl _))⟩
    exact ⟨by rw [List.length_reverse]; exact hz, _, r.reverse, IsTup.new _ _⟩
  · cases ea
    obtain ⟨its, rv, hl, hz⟩ := j5.list hx
    have hlen := rv.length
    show wpAny (model X.prog X.w) X.A (subscriptTail e (.Slice none none (some (.UnaryOp .USub (.Constant (.int 1) k p1) p2)) p3) (.ref a) (.ref s4.heap.objs.size)) (EP X pins σ Q) X.xe { s4 with heap := s4.heap.push { cls := .type "slice", data := .fields #[vl, vu, vs] } }
    refine tail_any (ops := [.ref a, .ref s4.heap.objs.size]) (id hl.isList).typeIs PySem.slot_list_getitem.lookup ?_ (by with_unfolding_all rfl)
    refine wpAny_getItem_list_slice (id hl.isList) (Heap.IsSliceOf.new _ vl vu vs) pl pu ps (by decide) ?_ (by rw [List.size_toArray]; omega)
    rw [PySem.W.krv_pick]
    exact ⟨.ref _, _, j5.laid (t' := s4.toks) (o := .lst xs.reverse) (fun b ob q => Heap.get?_push_of_some _ q) (Nat.le_refl _) ⟨by rw [List.length_reverse]; exact hz, _, 0, rv.reverse, Heap.get?_push_size _ rfl⟩, rfl, q _ (j5.hok.fresh (Nat.le_refl _))⟩
variable {G : Cfg} {C : Call} {W : WX} (hB : G.B.Mono) (hC : MonoC C)
include hB hC
theorem p_rev (hK : X.K = G.K) {o s : Expr} {io : Ex} {q pos : Pos} (hm : minus1 s = true) (ho : PE X o (rdS G C W io)) : PE X (.Subscript o (.Slice none none (some s) q) pos) (rdR G C W (.rev io)) := by
  unfold minus1 at hm
  split at hm
  · refine PE.imp (pe_revT ho) fun σ H Q ⟨r, re, tb, z⟩ => ?_
    refine s_bind hB hC re tb (LamX.ExtN.refl H) z fun d v H1 rx x1 t1 z1 => ?_
    rcases z1 with ⟨xs, e, z1⟩ | ⟨xs, e, z1⟩
    · subst e
      obtain ⟨p, us, e1, hq, rs⟩ := rx.tup
      subst e1
      refine .inl ⟨p, us, rfl, by rw [hK]; exact hq, fun p1 hp1 => ?_⟩
      exact fin_tup t1 (fin.ext (G := G) (H := H) (Q := Q) x1 z1) rs.reverse p1 hp1
    · subst e
      obtain ⟨p, us, e1, hq, rs⟩ := rx.lst
      subst e1
      refine .inr ⟨p, us, rfl, by rw [hK]; exact hq, fun p1 hp1 => ?_⟩
      exact fin_fr t1 (fin.ext (G := G) (H := H) (Q := Q) x1 z1) rs.reverse p1 hp1
  · cases hm
end
end En
namespace En
open PySem L2 PyProof.Rows TL
/-! Xl1: list(range(a)). -/
section
variable {X : Cx} {G : Cfg} {C : Call} {W : WX} {sub : Sub}
theorem rds_rg {K : PySem.W.Frag} {H : Hp} (l : List Nat) : RDs K H (l.map fun i => D.int (i : Nat)) (l.map fun k => V.int (0 + (k : Nat))) := by
  induction l with
  | nil => exact .nil
  | cons a r ih =>
    refine .cons ?_ ih
    show RD K H (.int (a : Nat)) (.int (0 + (a : Nat)))
    rw [Int.zero_add]
    exact .int _
theorem p_lrg (hL : G.B = libW sub) (hC : MonoC C) {a : Expr} {ia : Ex} {p p2 q pos : Pos} (hc : X.calm = true) (hg : Gl X "list") (hg2 : Gl X "range") (hm : X.mg "list" = none) (hm2 : X.mg "range" = none) (hst : isStar a = false) (ha : PE X a (rdS G C W ia)) :
    PE X (.Call (.Name "list" p) [.Call (.Name "range" p2) [a] [] q] [] pos) (rdR G C W (.blt .lrg (.cons ia .nil))) := by
  have hB : G.B.Mono := by rw [hL]; exact libW_mono sub
  refine PE.imp (pe_listRg hc hg hm (prg_1 hg2 hm2 ha (starEach_cons hst))) fun σ H Q ⟨r, re, tb, z⟩ => ?_
  have z : (evP G.B C ia r).S (fun d => G.B.blt C .lrg [d] (fin G H Q) (exq G W σ H)) (exq G W σ H) := z
  refine s_bind hB hC re tb (LamX.ExtN.refl H) z fun d v H1 rx x1 t1 z1 => ?_
  rw [hL] at z1
  have z1 : bltW sub C .lrg [d] (fin G H Q) := z1
  cases d with
  | int j =>
    obtain ⟨hj, z1⟩ : (0 ≤ j ∧ j ≤ 1000000) ∧ fin G H Q (.fr ((List.range j.toNat).map fun i => D.int (i : Nat))) := z1
    have ev := rx.int
    subst ev
    refine ⟨j, rfl, RgOk.of_le (by omega) (by omega) (by omega) (by omega), fun q hq => ?_⟩
    have rs : RDs G.K H1 ((List.range j.toNat).map fun i => D.int (i : Nat)) (rgV 0 j) := by
      unfold rgV
      rw [Int.sub_zero]
      exact rds_rg _
    exact fin_fr t1 (fin.ext (G := G) (H := H) (Q := Q) x1 z1) rs q hq
  | _ => exact z1.elim
end
end En
/-! Io2: defs that change lists of the caller. -/
namespace En
open PySem L2 PyProof.Rows
/-- what such a def starts with; what its lists hold in the end -/
def startA (a : Nat → Addr) : Nat → List Bool → List D → Env
  | k, true :: fl, .lst xs :: ds => some (.own xs (some (a k))) :: startA a (k + 1) fl ds
  | k, false :: fl, d :: ds => some (.val d) :: startA a k fl ds
  | _, _, _ => []
def outA (a : Nat → Addr) : Nat → List Bool → Env → Option (List D)
  | k, true :: fl, some (.own ys (some q)) :: r => if q = a k then (outA a (k + 1) fl r).map (.lst ys :: ·) else none
  | k, false :: fl, _ :: r => outA a k fl r
  | _, [], _ => some []
  | _, _, _ => none
def nxA (a : Nat → Addr) (fl : List Bool) (Q : Rv → Prop) : Nd := { nx := fun r => ∃ ys, outA a 0 fl r = some ys ∧ Q (.v (.tup (.non :: ys))), rt := fun x r => ∃ d ys, x = .v d ∧ outA a 0 fl r = some ys ∧ Q (.v (.tup (d :: ys))) }
def envA (a : Nat → Addr) (fl : List Bool) (n : Nat) (ds : List D) : Env := startA a 0 fl ds ++ List.replicate (n - ds.length) none
theorem startA_len {K : PySem.W.Frag} {H : Hp} {a : Nat → Addr} {fl : List Bool} {qs : List Addr} {ds : List D} {vs : List V} (h : IoR K H fl qs ds vs) : ∀ k, (startA a k fl ds).length = vs.length ∧ ds.length = vs.length := by
  induction h with
  | nil => exact fun k => ⟨rfl, rfl⟩
  | own _ _ _ ih => exact fun k => ⟨congrArg (· + 1) (ih (k + 1)).1, congrArg (· + 1) (ih (k + 1)).2⟩
  | flat _ _ ih => exact fun k => ⟨congrArg (· + 1) (ih k).1, congrArg (· + 1) (ih k).2⟩
theorem startA_at {K : PySem.W.Frag} {H : Hp} {a : Nat → Addr} {fl : List Bool} {qs : List Addr} {ds : List D} {vs : List V} (h : IoR K H fl qs ds vs) : ∀ k, (∀ (j : Nat) (q : Addr), qs[j]? = some q → a (k + j) = q) → ∀ (i : Nat) (s : Slot), (startA a k fl ds)[i]? = some (some s) → ∃ v : V, vs[i]? = some v ∧ RSl K H s v ∧ ∀ xs t, s = .own xs t → ∃ p ∈ qs, v = .ref p := by
  induction h with
  | nil => exact fun k _ i s e => by cases e
  | @own fl qs ds vs us p xs h1 h2 _ ih =>
    intro k ha i s e
    have hp : a k = p := ha 0 p rfl
    cases i with
    | zero =>
      have e : some (some (Slot.own xs (some (a k)))) = some (some s) := e
      cases e
      exact ⟨_, rfl, ⟨p, us, rfl, h1, h2, fun b hb => by cases hb; exact hp.symm⟩, fun _ _ _ => ⟨p, List.mem_cons_self, rfl⟩⟩
    | succ i =>
      obtain ⟨v, h3, h4, h5⟩ := ih (k + 1) (fun j q hj => by rw [Nat.add_assoc, Nat.add_comm 1 j]; exact ha (j + 1) q hj) i s e
      exact ⟨v, h3, h4, fun xs t z => by
        obtain ⟨p, hp, z⟩ := h5 xs t z
        exact ⟨p, List.mem_cons_of_mem _ hp, z⟩⟩
  | @flat fl qs ds vs d v h1 _ ih =>
    intro k ha i s e
    cases i with
    | zero =>
      have e : some (some (Slot.val d)) = some (some s) := e
      cases e
      exact ⟨_, rfl, h1, fun _ _ z => by cases z⟩
    | succ i =>
      obtain ⟨v, h3, h4, h5⟩ := ih k ha i s e
      exact ⟨v, h3, h4, h5⟩
theorem startA_inj {K : PySem.W.Frag} {H : Hp} {a : Nat → Addr} {fl : List Bool} {qs : List Addr} {ds : List D} {vs : List V} (h : IoR K H fl qs ds vs) : qs.Nodup → ∀ k, (∀ (j : Nat) (q : Addr), qs[j]? = some q → a (k + j) = q) → ∀ (i j : Nat) (xs ys : List D) (t u : Option Addr) (v : V), (startA a k fl ds)[i]? = some (some (Slot.own xs t)) → (startA a k fl ds)[j]? = some (some (Slot.own ys u)) → vs[i]? = some v → vs[j]? = some v → i = j := by
  induction h with
  | nil => exact fun _ k _ i j xs ys t u v e => by cases e
  | @own fl qs ds vs us p zs h1 h2 hr ih =>
    intro nd k ha i j xs ys t u v e1 e2 e3 e4
    have nd := List.nodup_cons.mp nd
    have ha' : ∀ j q, qs[j]? = some q → a (k + 1 + j) = q := fun j q hj => by rw [Nat.add_assoc, Nat.add_comm 1 j]; exact ha (j + 1) q hj
    have no : ∀ {i' : Nat} {xs : List D} {t : Option Addr}, (startA a (k + 1) fl ds)[i']? = some (some (Slot.own xs t)) → vs[i']? = some (.ref p) → False := fun {i' xs t} e1 e2 => by
      obtain ⟨v, h3, _, h5⟩ := startA_at hr (k + 1) ha' i' _ e1
      obtain ⟨q, hq, e⟩ := h5 _ _ rfl
      rw [h3] at e2
      cases e2
      cases e
      exact nd.1 hq
    cases i with
    | zero =>
      cases e3
      cases j with
      | zero => rfl
      | succ j => exact (no e2 e4).elim
    | succ i =>
      cases j with
      | zero =>
        cases e4
        exact (no e1 e3).elim
      | succ j => exact congrArg (· + 1) (ih nd.2 (k + 1) ha' i j xs ys t u v e1 e2 e3 e4)
  | flat h1 _ ih =>
    intro nd k ha i j xs ys t u v e1 e2 e3 e4
    cases i with
    | zero => cases e1
    | succ i =>
      cases j with
      | zero => cases e2
      | succ j => exact congrArg (· + 1) (ih nd k ha i j xs ys t u v e1 e2 e3 e4)
theorem outA_ok {K : PySem.W.Frag} {H H' : Hp} {a : Nat → Addr} {fl : List Bool} {qs : List Addr} {ds : List D} {vs : List V} (h : IoR K H fl qs ds vs) : ∀ k, (∀ (j : Nat) (q : Addr), qs[j]? = some q → a (k + j) = q) → ∀ (r : Env) (ys : List D), (∀ (i : Nat) (s : Slot), r[i]? = some (some s) → ∃ v, RSl K H' s v) → outA a k fl r = some ys → IoO K H' qs ys := by
  induction h with
  | nil =>
    intro k _ r ys _ e
    cases r <;> (cases e; exact .nil)
  | @own fl qs ds vs us p xs h1 h2 _ ih =>
    intro k ha r ys hr e
    have hp : a k = p := ha 0 p rfl
    cases r with
    | nil => cases e
    | cons s r =>
      cases s with
      | none => cases e
      | some s =>
        cases s with
        | val d => cases e
        | own ys0 t =>
          cases t with
          | none => cases e
          | some q =>
            have e : (if q = a k then (outA a (k + 1) fl r).map (.lst ys0 :: ·) else none) = some ys := e
            split at e
            · rename_i hq
              obtain ⟨zs, e1, e2⟩ := Option.map_eq_some_iff.mp e
              subst e2
              obtain ⟨v, p', ws, _, h3, h4, h5⟩ := hr 0 _ rfl
              have hq' : p' = p := (h5 q rfl).trans (hq.trans hp)
              subst hq'
              exact .cons h3 h4 (ih (k + 1) (fun j q hj => by rw [Nat.add_assoc, Nat.add_comm 1 j]; exact ha (j + 1) q hj) r zs (fun i s h => hr (i + 1) s h) e1)
            · cases e
  | flat h1 _ ih =>
    intro k ha r ys hr e
    cases r with
    | nil => cases e
    | cons s r =>
      have e : outA a k _ r = some ys := e
      exact ih k ha r ys (fun i s h => hr (i + 1) s h) e
/-- without some of its objects -/
def hid (ps : List Addr) (H : Hp) : Hp := fun b => if b ∈ ps then none else H b
theorem hid_ex {ps : List Addr} {H : Hp} : ExN (hid ps H) H := fun b u e _ => by
  unfold hid at e
  split at e
  · cases e
  · exact e
theorem hid_fr {ps : List Addr} {H : Hp} {p : Addr} (h : p ∈ ps) : Fr (hid ps H) p := Fr.of (if_pos h)
theorem hid_m {ps : List Addr} {H H' : Hp} (x : ExN (hid ps H) H') : ExM ps H H' := fun b u e m hb => x b u (by unfold hid; rw [if_neg hb]; exact e) m
/-- a def that changes lists of the caller keeps its meaning C nm -/
def FnI (p : Pg) (G : Cfg) (C : Call) (k : Nat) (f : Addr) (fd : FuncData) (ps : List Str) (fl : List Bool) (nm : Str) : Prop :=
  ∀ (A : Around) (outer : List PySem.Env) (s : Shared) (H : Hp) (args : Args) (us : List Value) (vs : List V) (Q : VK) (E : XK), Room k A → (p.fl = true → A.guards = some []) → Env0 p.P p.w G.K p.mg p.base A outer s H → BindsTo s fd args (ps.zip us) → Vals vs us → vs.length = ps.length →
    spI G C fl nm vs H Q → codeAny (model p.P p.w) A (.call (.ref f) args) (CR (L2.CX p.P p.w) outer p.P p.w H s Q E) s
section
variable {p : Pg} {G : Cfg} {g : Gi} {C : Call}
theorem startA_re {N : List Str} {H : Hp} {a : Nat → Addr} {fl : List Bool} {qs : List Addr} {ds : List D} {vs : List V} (ir : IoR G.K H fl qs ds vs) (nd : qs.Nodup) (ha : ∀ (j : Nat) (q : Addr), qs[j]? = some q → a (0 + j) = q) (tb : Tb G H) : SI G (hid qs H) H (envA a fl N.length ds) (L2.start N vs) := by
  obtain ⟨l1, l2⟩ := startA_len (a := a) ir 0
  have lo : ∀ (i : Nat) (s : Slot), (envA a fl N.length ds)[i]? = some (some s) → (startA a 0 fl ds)[i]? = some (some s) := fun i s e => by
    unfold envA at e
    by_cases hi : i < (startA a 0 fl ds).length
    · rw [List.getElem?_append_left hi] at e
      exact e
    · rw [List.getElem?_append_right (by omega)] at e
      have := List.mem_of_getElem? e
      have := List.eq_of_mem_replicate this
      cases this
  have st : ∀ (i : Nat) (v : V), vs[i]? = some v → (L2.start N vs)[i]? = some (some v) := fun i v e => by
    unfold L2.start
    have hi : i < vs.length := by
      rcases Nat.lt_or_ge i vs.length with z | z
      · exact z
      · rw [List.getElem?_eq_none z] at e; cases e
    rw [List.getElem?_append_left (by simpa using hi), List.getElem?_map, e]
    rfl
  refine ⟨⟨fun i s e => ?_, fun i j xs ys t u v e1 e2 e3 e4 => ?_, by simp [envA, L2.start, l1, l2]⟩, fun i xs t q e1 e2 => ?_, hid_ex, tb⟩
  · obtain ⟨v, h1, h2, _⟩ := startA_at ir 0 ha i s (lo i s e)
    exact ⟨v, st i v h1, h2⟩
  · obtain ⟨v1, h1, _, _⟩ := startA_at ir 0 ha i _ (lo i _ e1)
    obtain ⟨v2, h2, _, _⟩ := startA_at ir 0 ha j _ (lo j _ e2)
    have x1 := st i v1 h1
    have x2 := st j v2 h2
    rw [e3] at x1
    rw [e4] at x2
    cases x1
    cases x2
    exact startA_inj ir nd 0 ha i j xs ys t u v (lo i _ e1) (lo j _ e2) h1 h2
  · obtain ⟨v1, h1, _, h3⟩ := startA_at ir 0 ha i _ (lo i _ e1)
    have x1 := st i v1 h1
    rw [e2] at x1
    cases x1
    obtain ⟨q', hq, e⟩ := h3 _ _ rfl
    cases e
    exact hid_fr hq
theorem fn_compI {k : Nat} (kn : Kn g G C (OkX p G k)) (er : ErrOk p G g C k) {x qual : Str} {params : Arguments} {body : List Stmt} {scope : Scope} {dvs : List V} {kws : List (Str × V)} {f : Addr} {fd : FuncData} {N ps mu : List Str} {n : Nat} {b : Sms} {fl : List Bool}
    (F : FunD G.K x qual params body scope dvs kws f fd) (S : FnScope N ps scope) (hc : compSs g N mu n scope body = some b) (hlm : LmV p G (qual ++ ".<locals>.") fd.code)
    {C' : Call} {nm : Str} (hC' : ∀ ds Q E, C' nm ds Q E → ∀ a : Nat → Addr, exSs G.B C b (nxA a fl Q) (envA a fl N.length ds) E0) : FnI p G C' (k + 1) f fd ps fl nm := by
  obtain ⟨oc, od, dV, kV, doc, pm, an, cdv, ct, osl, rfl, lk, hcd, _, _⟩ := F.ex
  intro A outer s H args us vs Q E hr hg e0 hb r hl ⟨qs, ds, ir, nd, tb, h⟩
  refine LamX.run_ofS (N := N) lk hcd S hr e0 hb r hl fun hr2 => ⟨rdMs G C (hid qs H) E b, ?_, ?_⟩
  · have ok : OkX p G k (cxOf (L2.CX p.P p.w) p.P p.w G.K p.mg p.base N qual scope f cdv A outer s H E) (wE E) :=
      ⟨rfl, rfl, rfl, rfl, ⟨rfl, hr2.units, rfl, S.nd⟩, hr2, hg, takes_of rfl rfl rfl rfl, hlm, fun _ _ _ _ _ z => z⟩
    exact compSs_ok kn S.nd ⟨ok, passes_of rfl, takes_of rfl rfl rfl rfl, fun _ => rfl, by show Env.blockKind _ = _; unfold Env.blockKind; rw [show (cxOf (L2.CX p.P p.w) p.P p.w G.K p.mg p.base N qual scope f cdv A outer s H E).env.scope.kind = .function from S.kind]; rfl, S.kind, er _ E ok⟩ rfl rfl n body b hc
  · let a : Nat → Addr := fun j => qs.getD j 0
    have ha : ∀ (j : Nat) (q : Addr), qs[j]? = some q → a (0 + j) = q := fun j q e => by
      show qs.getD (0 + j) 0 = q
      rw [Nat.zero_add, List.getD_eq_getElem?_getD, e]
      rfl
    refine ⟨envA a fl N.length ds, nxA a fl (ioQ G qs H Q), startA_re ir nd ha tb, ⟨fun r' σ' H' si _ ⟨ys, e, d, zs, e1, z⟩ => ?_, fun x v r' σ' H' si rr ⟨d0, ys, e0, e, d, zs, e1, z⟩ => ?_, fun _ _ _ _ _ z => z.elim, fun _ _ _ _ _ z => z.elim⟩, exSs_mono kn.hB kn.hC b _ _ _ _ _ ⟨fun _ z => z, fun _ _ z => z, fun _ z => z, fun _ z => z⟩ (fun _ _ z => z.elim) (hC' _ _ _ h a)⟩
    · cases e1
      exact z _ H' .non (outA_ok ir 0 ha r' _ (fun i s h => by
        obtain ⟨v, _, h2⟩ := si.re.at_ i s h
        exact ⟨v, h2⟩) e) (hid_m si.ex) si.tb
    · cases e1
      subst e0
      exact z _ H' rr (outA_ok ir 0 ha r' _ (fun i s h => by
        obtain ⟨v, _, h2⟩ := si.re.at_ i s h
        exact ⟨v, h2⟩) e) (hid_m si.ex) si.tb
/-! ### the call -/
theorem run_I {k : Nat} {X : Cx} {W : WX} (ok : OkX p G k X W) {f : Addr} {fd : FuncData} {ps : List Str} {fl : List Bool} {nm : Str} (F : FnI p G C k f fd ps fl nm) {pins : List (Addr × Obj)} {σ : St} {H : Hp} {s : Shared} {Q : VK} {args : Args} {us : List Value} {vs : List V}
    (hb : BindsTo s fd args (ps.zip us)) (I : Inv X pins σ H s) (r : Vals vs us) (hl : vs.length = ps.length) (h : spI G C fl nm vs H Q) :
    wpAny (model X.prog X.w) X.A (call (.ref f) args.pos args.kw) (EP X pins σ Q) X.xe s := by
  obtain ⟨e1, e2, e3, e4, bs, room, gd, tk, _, _⟩ := ok
  have e0 := I.env0
  rw [e1, e2, bs.K, e3, e4] at e0
  rw [e1, e2]
  refine wpAny_call (codeAny_mono (F X.A X.stack s H args us vs Q (fun cls d H' => W cls d σ H') room gd e0 hb r hl h) fun r s' hq => ?_)
  rw [← e1, ← e2] at hq
  cases r with
  | error e => exact tk e s' (XE.of_call I (fun cls d H' h => h) hq)
  | ok fl =>
    cases fl with
    | ret u => exact I.after hq
    | next => exact False.elim hq
    | brk => exact False.elim hq
    | cont => exact False.elim hq
theorem cal_I {k : Nat} {X : Cx} {W : WX} (ok : OkX p G k X W) {f : Addr} {fd : FuncData} {ps : List Str} {fl : List Bool} {nm : Str} (F : FnI p G C k f fd ps fl nm) (hlen : ∀ ds Q E, C nm ds Q E → ds.length = ps.length) (hm : p.mg nm = some (.ref f)) (hk : PySem.W.keepIn G.K (.ref f) = true) (hb : Binds G.K fd ps [])
    {args : List Expr} {is : Exs} {pp pos : Pos} (hg : Gl X nm) (ho : odd nm = false) (hne : args ≠ []) (hst : ∀ e ∈ args, isStar e = false) (ha : PA X args (tIo G C W fl is)) : PE X (.Call (.Name nm pp) args [] pos) (fun σ H Q => tIo G C W fl is σ H fun vs H1 => spI G C fl nm vs H1 Q) := by
  obtain ⟨o1, o2, o3⟩ := odd_cases ho
  refine ⟨fun pins s σ H Q I z => ?_⟩
  refine wpAny_Call_Name_kw (ld_glob I hg (by rw [ok.mg]; exact hm) ?_ o1)
  cases args with
  | nil => exact absurd rfl hne
  | cons e es =>
    refine PySem.W.callWith_K (K := G.K) (h₀ := X.base) (by rw [← ok.bs.K]; exact I.ok.mod.kin) hk (thn (ha.run pos pins s σ H _ I z) fun us s1 ⟨vs, H1, I1, rv, q⟩ => ⟨by rw [← ok.bs.K]; exact I1.kIn, ?_⟩) (starEach_cons (hst e List.mem_cons_self)) (noStars fun x hx => hst x (List.mem_cons_of_mem _ hx))
    have hv : vs.length = ps.length := by
      obtain ⟨qs, ds, ir, _, _, hc⟩ := q
      rw [← (startA_len (a := fun _ => 0) ir 0).2]
      exact hlen _ _ _ hc
    have kin : G.K.In s1.heap := by rw [← ok.bs.K]; exact I1.kIn
    have b := hb s1 us kin (by rw [List.append_nil, ← rv.length]; exact hv)
    rw [List.append_nil] at b
    exact run_I (args := ⟨us, []⟩) ok F b I1 rv hv q
end
end En
/-! En28: what is known of all names, put together. -/
namespace En
open PySem L2 PyProof.Rows
/-- the names of the text, as they stand behind the top -/
structure Ct (p : Pg) (G : Cfg) (sub : Sub) (g : Gi) : Prop where
  hL : G.B = libW sub
  own : Own G sub
  con : ∀ x d, g.con.lookup x = some d → conOk p G x d
  its : ∀ x ∈ g.its, p.mg x = none
  blt : ∀ f b, g.blt.lookup f = some b → ∃ bv, bfV b = some bv ∧ bootBuiltins f = some bv ∧ p.mg f = none
  rep : ∀ f, g.blt.lookup f = some .repr → p.fl = true
  mth : ∀ m b, g.mth.lookup m = some b → m = mfS b ∧ mfS b ≠ ""
/-- defs that take a lambda, at level k -/
def LamOk (p : Pg) (G : Cfg) (g : Gi) (C : Call) (k : Nat) : Prop := ∀ X W f params body scope q lp pos n e nm is, OkX p G k X W → f ∈ g.ans → Gl X f → odd f = false → noArg params = true → LamX.LamS X.env.scope scope → compE g.noA X.N n scope body = some e → (nm, is, X.N.length, e) ∈ g.lams →
  PE X (.Call (.Name f q) [.Lambda params body scope lp] [] pos) (rdR G C W (.fn nm (varsE is)))
theorem LamOk.nil {p : Pg} {G : Cfg} {g : Gi} {C : Call} {k : Nat} (h : g.ans = []) : LamOk p G g C k := fun X W f params body scope q lp pos n e nm is _ z => by
  rw [h] at z
  cases z
/-- isinstance(a, c), c a class of errors -/
def IsxOk (p : Pg) (G : Cfg) (C : Call) (k : Nat) (c : Str) : Prop := ∀ X W a ia q p2 pos, OkX p G k X W → Gl X "isinstance" → Gl X c → odd c = false → isStar a = false → PE X a (rdV G C W ia) → PE X (.Call (.Name "isinstance" q) [a, .Name c p2] [] pos) (rdR G C W (.fn (isErN c) (.cons ia .nil)))
/-- what is called, at level k -/
structure Lv (p : Pg) (G : Cfg) (sub : Sub) (g : Gi) (C : Call) (k : Nat) : Prop where
  fn : ∀ f ∈ g.fns, ∃ u, p.mg f = some u ∧ PySem.W.keepIn G.K u = true ∧ CalP p G C k u f
  kw : ∀ e ∈ g.kws, ∃ u ks, e.2.1 = ks.map some ∧ p.mg e.1 = some u ∧ PySem.W.keepIn G.K u = true ∧ CalK p G C k u e.1 ks e.2.2.1 e.2.2.2
  mcl : ∀ m key, g.mcl.lookup m = some key → ∃ gt, (∀ d, G.B.mok key d = true → MthOk G m gt d) ∧ CalC p G C k gt key
  mck : ∀ e ∈ g.mkw, ∀ key, g.mcl.lookup e.1 = some key → ∃ gt ks, e.2.1 = ks.map some ∧ (∀ d, G.B.mok key d = true → MthOk G e.1 gt d) ∧ CalCK p G C k gt key ks e.2.2.1 e.2.2.2
  att : ∀ f key, g.att.lookup f = some key → ∀ X W o io pos, OkX p G k X W → PE X o (rdV G C W io) → isSup o = false → PE X (.Attribute o f pos) (rdR G C W (.att io key))
  eqo : ∀ X W, OkX p G k X W → EqoOk X G C
  isx : ∀ c ∈ g.exs, IsxOk p G C k c
  lam : LamOk p G g C k
  io : ∀ e ∈ g.ios, ∃ f fd ps, p.mg e.1 = some (.ref f) ∧ PySem.W.keepIn G.K (.ref f) = true ∧ FnI p G C k f fd ps e.2 e.1 ∧ (∀ ds Q E, C e.1 ds Q E → ds.length = ps.length) ∧ Binds G.K fd ps []
  ob : ∀ X W, OkX p G k X W → ∀ b f, bfV b = some f → CallR X f (rBlt G fun ds Q => isOb ds = true ∧ b ≠ .isi ∧ bltW sub C b ds Q)
section
variable {p : Pg} {G : Cfg} {sub : Sub} {g : Gi} {C : Call} {k : Nat}
theorem kn_of (hC : MonoC C) (ct : Ct p G sub g) (lv : Lv p G sub g C k) : Kn g G C (OkX p G k) where
  hB := by rw [ct.hL]; exact libW_mono sub
  hC := hC
  bs := fun X W ok => ok.bs
  blk := fun X W s H scope cl a fp ok => ok.blk s H scope cl a fp
  con := fun X W x d pos ok h hg ho => con_ok ok (ct.con x d h) hg ho
  no := fun X W x ok h => by rw [ok.mg]; exact ct.its x h
  fn := fun X W f args is q pos ok hf hg ho hst hnil ha => by
    obtain ⟨u, hm, hk, F⟩ := lv.fn f hf
    exact fn_call (by rw [ct.hL]; exact libW_mono sub) hC ok F hm hk hg ho hst hnil ha _ fun r Q E z => z
  fnk := fun X W f pm args kws is js q pos ok hm hg ho hst hst2 hne hnil h1 h2 ha hkw => by
    obtain ⟨u, ks, e, hm2, hk, F⟩ := lv.kw _ hm
    have e : kws.map (fun (k : Keyword) => k.arg) = ks.map some := e
    have hl : kws.length = ks.length := by
      have := congrArg List.length e
      simpa using this
    exact fnk_call (by rw [ct.hL]; exact libW_mono sub) hC ok F hm2 hk hg ho hst e hnil rfl hne h1 (by rw [h2, hl]) ha hkw
  blt := fun X W f b args is q pos ok hb hg ho hne hst ha => by
    obtain ⟨bv, h1, h2, h3⟩ := ct.blt f b hb
    exact blt_call ct.hL hC h1 h2 (by rw [ok.mg]; exact h3) hg ho hne hst (blt_ok ok.bs.K ok.bs.calm ok.bs.un ct.own (fun e => ok.gd (ct.rep f (by rw [hb, e]))) h1 (lv.ob X W ok b bv h1)) ha
  mth := fun X W m b o io args is ap cp ok hm hl hne hlen hst ho ha hsup => by
    obtain ⟨h1, h2⟩ := ct.mth m b hm
    exact mth_call ct.hL hC ok.bs.K h1 h2 hl hne hst hlen ho ha hsup
  mcl := fun X W m key o io args is ap cp ok hm hl hlen hst hnil ho ha hsup => by
    obtain ⟨gt, h1, F⟩ := lv.mcl m key hm
    exact mcl_call (by rw [ct.hL]; exact libW_mono sub) hC ok h1 F hl hlen hst hnil ho ha hsup
  mck := fun X W m key pm o io args kws is js ap cp ok hm hmk hl hlen hst hst2 hne hnil h1 h2 ho ha hkw hsup => by
    obtain ⟨gt, ks, e, h3, F⟩ := lv.mck _ hmk key hm
    have e : kws.map (fun (k : Keyword) => k.arg) = ks.map some := e
    have hl2 : kws.length = ks.length := by
      have := congrArg List.length e
      simpa using this
    exact mck_call (by rw [ct.hL]; exact libW_mono sub) hC ok h3 F hl hlen hst hnil e h1 (by rw [h2, hl2]) ho ha hkw hsup
  att := fun X W o io f key pos ok hf ho hsup => lv.att f key hf X W o io pos ok ho hsup
  eqo := fun X W ok => lv.eqo X W ok
  isx := fun X W c a ia q p2 pos ok h => lv.isx c h X W a ia q p2 pos ok
  lam := fun X W f params body scope q lp pos n e nm is ok h1 h2 h3 h4 h5 h6 h7 => lv.lam X W f params body scope q lp pos n e nm is ok h1 h2 h3 h4 h5 h6 h7
  ntp := fun X W args is q pos ok h1 hg hne hst ha => blt_call (b := .ntup) ct.hL hC rfl (by kernel_rfl) (by rw [ok.mg]; exact ct.its _ h1) hg (by decide) hne hst (blt_ok (b := .ntup) ok.bs.K ok.bs.calm ok.bs.un ct.own (fun e => nomatch e) rfl (lv.ob X W ok .ntup _ rfl)) ha
  io := fun X W f fl args is q pos ok hm hg ho hne hst ha => by
    obtain ⟨f', fd, ps, h1, h2, F, hl, hb⟩ := lv.io _ hm
    exact cal_I ok F hl h1 h2 hb hg ho hne hst ha
  lrg := fun X W a ia q p2 q2 pos ok h1 h2 h3 h4 hst ha => p_lrg ct.hL hC ok.bs.calm h3 h4 (by rw [ok.mg]; exact ct.its _ h1) (by rw [ok.mg]; exact ct.its _ h2) hst ha
  rev := fun X W o io s q pos ok hr hm ho => p_rev (by rw [ct.hL]; exact libW_mono sub) hC ok.bs.K hm ho
end
/-! ### the same names without the ask for guards -/
def Pg.no (p : Pg) : Pg := { p with fl := false, lq := false }
theorem OkX.no {p : Pg} {G : Cfg} {k : Nat} {X : Cx} {W : WX} (h : OkX p G k X W) : OkX p.no G k X W := ⟨h.P, h.w, h.mg, h.base, h.bs, h.room, (fun z => nomatch z), h.tk, LmV.nil rfl, h.ind⟩
theorem FnG.of_no {p : Pg} {G : Cfg} {C : Call} {k : Nat} {f : Addr} {fd : FuncData} {ps : List Str} {nm : Str} (F : FnG p.no G C k f fd ps nm) : FnG p G C k f fd ps nm :=
  fun A outer s H args us vs ds Q E hr hg e0 hb r rd tb hl z => F A outer s H args us vs ds Q E hr (fun z => nomatch z) e0 hb r rd tb hl z
theorem CalP.of_no {p : Pg} {G : Cfg} {C : Call} {k : Nat} {u : Value} {nm : Str} (F : CalP p.no G C k u nm) : CalP p G C k u nm := fun X W pins σ H s Q us vs ds ok => F X W pins σ H s Q us vs ds ok.no
theorem CalK.of_no {p : Pg} {G : Cfg} {C : Call} {k : Nat} {u : Value} {nm : Str} {ks : List Str} {n : Nat} {pm : List Nat} (F : CalK p.no G C k u nm ks n pm) : CalK p G C k u nm ks n pm := fun X W pins σ H s Q us ws vs zs ds es ok => F X W pins σ H s Q us ws vs zs ds es ok.no
theorem CalC.of_no {p : Pg} {G : Cfg} {C : Call} {k : Nat} {f : Addr} {nm : Str} (F : CalC p.no G C k f nm) : CalC p G C k f nm := fun X W pins σ H s Q us vs ds ok => F X W pins σ H s Q us vs ds ok.no
theorem CalCK.of_no {p : Pg} {G : Cfg} {C : Call} {k : Nat} {f : Addr} {nm : Str} {ks : List Str} {n : Nat} {pm : List Nat} (F : CalCK p.no G C k f nm ks n pm) : CalCK p G C k f nm ks n pm := fun X W pins σ H s Q u us ws v vs zs d ds es ok => F X W pins σ H s Q u us ws v vs zs d ds es ok.no
/-- the law's level over the program's -/
theorem Lv.law {p : Pg} {G : Cfg} {sub : Sub} {g g' : Gi} {C : Call} {k : Nat} (lv : Lv p.no G sub g C k) (hm : g'.mcl = g.mcl) (hk : g'.mkw = g.mkw) (ha : g'.att = g.att) (hlam : LamOk p G g' C k) (hio : g'.ios = []) (hx : ∀ c ∈ g'.exs, c ∈ g.exs)
    (fn : ∀ f ∈ g'.fns, f ∈ g.fns ∨ ∃ u, p.mg f = some u ∧ PySem.W.keepIn G.K u = true ∧ CalP p G C k u f) (kw : ∀ e ∈ g'.kws, e ∈ g.kws ∨ ∃ u ks, e.2.1 = ks.map some ∧ p.mg e.1 = some u ∧ PySem.W.keepIn G.K u = true ∧ CalK p G C k u e.1 ks e.2.2.1 e.2.2.2) : Lv p G sub g' C k where
  fn := fun f hf => by
    rcases fn f hf with z | z
    · obtain ⟨u, h1, h2, h3⟩ := lv.fn f z
      exact ⟨u, h1, h2, h3.of_no⟩
    · exact z
  kw := fun e he => by
    rcases kw e he with z | z
    · obtain ⟨u, ks, h1, h2, h3, h4⟩ := lv.kw e z
      exact ⟨u, ks, h1, h2, h3, h4.of_no⟩
    · exact z
  io := fun e he => by
    rw [hio] at he
    cases he
  mcl := fun m key h => by
    obtain ⟨gt, h1, h2⟩ := lv.mcl m key (by rw [← hm]; exact h)
    exact ⟨gt, h1, h2.of_no⟩
  mck := fun e he key h => by
    obtain ⟨gt, ks, h1, h2, h3⟩ := lv.mck e (by rw [← hk]; exact he) key (by rw [← hm]; exact h)
    exact ⟨gt, ks, h1, h2, h3.of_no⟩
  att := fun f key h X W o io pos ok ho hs => lv.att f key (by rw [← ha]; exact h) X W o io pos ok.no ho hs
  lam := hlam
  isx := fun c hc X W a ia q p2 pos ok => lv.isx c (hx c hc) X W a ia q p2 pos ok.no
  eqo := fun X W ok => lv.eqo X W ok.no
  ob := fun X W ok b f hf => lv.ob X W ok.no b f hf
/-! ### plain parameters -/
theorem fm_skip {α : Type} {p : Str} {u : α} {l : List (Str × α)} : ∀ {qs : List Str}, p ∉ qs → (qs.filterMap fun n => (((p, u) :: l).lookup n).map (n, ·)) = qs.filterMap fun n => (l.lookup n).map (n, ·)
  | [], _ => rfl
  | q :: qs, h => by
    simp only [List.mem_cons, not_or] at h
    have hne : (q == p) = false := by
      rw [beq_eq_false_iff_ne]
      exact fun e => h.1 e.symm
    rw [List.filterMap_cons, List.filterMap_cons, fm_skip h.2, List.lookup_cons, hne]
theorem lookup_zip {α : Type} : ∀ {ps : List Str} {us : List α}, ps.Nodup → us.length = ps.length → (ps.filterMap fun n => ((ps.zip us).lookup n).map (n, ·)) = ps.zip us
  | [], [], _, _ => rfl
  | p :: ps, u :: us, hd, hl => by
    have h1 := List.nodup_cons.mp hd
    rw [List.zip_cons_cons, List.filterMap_cons, fm_skip h1.1, lookup_zip h1.2 (by simpa using hl), List.lookup_cons, beq_self_eq_true]
    rfl
theorem lookup_has {α : Type} : ∀ {ps : List Str} {us : List α} {n : Str}, us.length = ps.length → n ∈ ps → ((ps.zip us).lookup n).isNone = false
  | p :: ps, u :: us, n, hl, h => by
    rw [List.zip_cons_cons, List.lookup_cons]
    cases e : n == p with
    | true => rfl
    | false =>
      have hn : n ∈ ps := by
        rcases List.mem_cons.mp h with z | z
        · rw [z, beq_self_eq_true] at e
          cases e
        · exact z
      exact lookup_has (by simpa using hl) hn
/-- plain parameters, all of them given -/
def plainPs (ps : List Str) (a : Arguments) : Bool := decide (a.posonlyargs.map (·.arg) = []) && (decide (a.args.map (·.arg) = ps) && (decide (a.kwonlyargs.map (·.arg) = []) && (a.vararg.isNone && a.kwarg.isNone)))
theorem bind_plain {fd : FuncData} {ps : List Str} {us : List Value} (hp : plainPs ps fd.params = true) (hd : ps.Nodup) (hdf : fd.defaults = .none) (hl : us.length = ps.length) : bindArgs fd ⟨us, []⟩ = pure (ps.zip us) := by
  unfold plainPs at hp
  simp only [Bool.and_eq_true, decide_eq_true_eq, Option.isNone_iff_eq_none] at hp
  obtain ⟨h1, h2, h3, h4, h5⟩ := hp
  have hm : (ps.filter fun n => ((ps.zip us).lookup n).isNone) = [] := by
    rw [List.filter_eq_nil_iff]
    intro n hn
    rw [lookup_has hl hn]
    simp
  unfold bindArgs
  simp only [h1, h2, h3, h4, h5, hdf, List.nil_append, List.append_nil, Option.isNone_none, List.length_nil, Nat.sub_zero, List.drop_length, List.zip_nil_right, List.forIn_nil]
  have hs : seqItems? (.none : Value) = pure none := rfl
  simp only [hs, pure_bind, Option.getD_none]
  have hg : ¬ us.length > ps.length := by omega
  simp [hg, hl, hm, lookup_zip hd hl]
end En
/-! En29: facts of the text, as they stand behind the top. -/
namespace En
open PySem L2 PyProof.Rows
theorem Df.binds {K : PySem.W.Frag} {d : Df} {fd : FuncData} {ps : List Str} (F : d.FunD K fd) (hp : plainPs ps d.params = true) (hd : ps.Nodup) : Binds K fd ps [] :=
  L2.FunD.bindsN F fun kV doc pm an cdv ct us hl => bind_plain hp hd rfl hl
theorem Df.bindsA {K : PySem.W.Frag} {d : Df} {fd : FuncData} {ps : List Str} (F : d.FunD K fd) (hp : plainPs ps d.params = true) (hd : ps.Nodup) (s : Shared) (us : List Value) (hl : us.length = ps.length) : BindsTo s fd ⟨us, []⟩ (ps.zip us) :=
  L2.FunD.bindsA F (fun kV doc pm an cdv ct us hl => bind_plain hp hd rfl hl) s us hl
/-! ### the Hook -/
abbrev AlN : Type := Bool × List He.FnW
def obsN (ex : PySem.W.Frag → Bool) (fn : List Df) (K : PySem.W.Frag) : AlN := (ex K && fn.all fun d => d.ok K, fn.map fun d => d.obs K)
def valN (fn : List Df) : AlN := (true, fn.map Df.val)
structure SaysN (ex : PySem.W.Frag → Bool) (fn : List Df) (K : PySem.W.Frag) : Prop where
  more : ex K = true
  defs : ∀ d ∈ fn, ∃ fd, d.FunD K fd
theorem saysN_of {ex : PySem.W.Frag → Bool} {fn : List Df} {K : PySem.W.Frag} (e : obsN ex fn K = valN fn) : SaysN ex fn K := by
  have e1 := He.ba (show (ex K && fn.all fun d => d.ok K) = true from congrArg (fun z : AlN => z.1) e)
  have e2 : fn.map (fun d => d.obs K) = fn.map Df.val := congrArg (fun z : AlN => z.2) e
  refine ⟨e1.1, fun d hd => Df.funD ?_ (List.all_eq_true.mp e1.2 d hd)⟩
  obtain ⟨i, hi, rfl⟩ := List.mem_iff_getElem.mp hd
  have := congrArg (fun l => l[i]?) e2
  simpa [List.getElem?_map, List.getElem?_eq_getElem hi] using this
/-! ### a class with slots -/
/-! a def of the class that a built-in calls -/
end En
namespace En
open PySem L2 PyProof.Rows TL
/-! Xe1: own errors with one value, made and raised. -/
open PySem.Spec
/-! ### the built-in class over which they stand -/
inductive Bas where
  | ve | le | ae
def Bas.nm : Bas → String
  | .ve => "ValueError"
  | .le => "LookupError"
  | .ae => "ArithmeticError"
def Bas.new : Bas → String
  | .ve => "ValueError.__new__"
  | .le => "LookupError.__new__"
  | .ae => "ArithmeticError.__new__"
def Bas.ini : Bas → String
  | .ve => "ValueError.__init__"
  | .le => "LookupError.__init__"
  | .ae => "ArithmeticError.__init__"
def Bas.tl (b : Bas) : List Value := [.type b.nm, .type "Exception", .type "BaseException", .type "object"]
theorem Bas.facts : ∀ b : Bas, PySem.ExcBaseFacts b.nm b.new b.ini b.tl
  | .ve => F.excBase_ValueError
  | .le => F.excBase_LookupError
  | .ae => F.excBase_ArithmeticError
theorem Bas.pass (v : Value) : ∀ b : Bas, refuseLoop v "__setattr__" b.tl = pure ()
  | .ve => F.store_ValueError.passes v
  | .le => F.store_LookupError.passes v
  | .ae => F.store_ArithmeticError.passes v
theorem Bas.obj : ∀ b : Bas, b.tl.contains (.type "object") = true
  | .ve => by decide +kernel
  | .le => by decide +kernel
  | .ae => by decide +kernel
/-- own classes, then those of the base -/
def Bas.mro (b : Bas) : List Value → Bool
  | .ref _ :: r => b.mro r
  | l => l == b.tl
theorem Bas.two (b : Bas) : ∀ {l : List Value}, b.mro l = true → (∃ c r, l = .ref c :: r ∧ b.mro r = true) ∨ l = b.tl := fun {l} e => by
  unfold Bas.mro at e
  split at e
  · exact .inl ⟨_, _, rfl, e⟩
  · exact .inr (beq_iff_eq.mp e)
theorem Bas.ind (b : Bas) {P : List Value → Prop} (h1 : ∀ c r, P r → P (.ref c :: r)) (h2 : P b.tl) : ∀ l : List Value, b.mro l = true → P l
  | [], e => by
    rcases b.two e with ⟨c, r, z, _⟩ | z
    · cases z
    · rw [z]
      exact h2
  | a :: r, e => by
    rcases b.two e with ⟨c, r', z, h⟩ | z
    · obtain ⟨rfl, rfl⟩ := List.cons.inj z
      exact h1 _ _ (Bas.ind b h1 h2 _ h)
    · rw [z]
      exact h2
theorem Bas.mro_pass (b : Bas) (v : Value) {l : List Value} (h : b.mro l = true) : refuseLoop v "__setattr__" l = pure () :=
  b.ind (P := fun l => refuseLoop v "__setattr__" l = pure ()) (fun c r z => by rw [PySem.refuseLoop_ref]; exact z) (b.pass v) l h
theorem Bas.mro_has (b : Bas) (y : String) {l : List Value} (h : b.mro l = true) : l.contains (.type y) = b.tl.contains (.type y) :=
  b.ind (P := fun l => l.contains (.type y) = b.tl.contains (.type y)) (fun c r z => by rw [List.contains_cons, z]; rfl) rfl l h
theorem Bas.mro_ne (b : Bas) {l : List Value} (h : b.mro l = true) : l.isEmpty = false :=
  b.ind (P := fun l => l.isEmpty = false) (fun _ _ _ => rfl) rfl l h
section
open Builtin Builtin.ObjectAttr
/-- self.f = v of an exception without a dict -/
theorem exc_put {prog : Program} {w : World} {A : Around} {R : Result → Shared → Prop} {h0 : Heap} {gs : Array GenState} {dr : Drawn} {n0 : Nat} {os0 : OsState} {K : PySem.W.Frag} {f : Str} {t0 : Tok} {v : Value} {x C : Addr} {fv : Array Value} {cd : ClassData} (b : Bas)
    (hK : K.In h0) (ox : h0.get? x = some { cls := .ref C, data := .fields fv }) (hcd : PySem.W.clsIn K C = some cd) (hm : b.mro cd.mro = true) (hd : cd.hasDict = true) (hno : PySem.W.findIn K (.ref C) f = some none)
    (q : ∀ h1 t1 dx, (∀ c o, c ≠ x → h0.get? c = some o → h1.get? c = some o) → h0.objs.size ≤ dx → dx ≠ x → h1.get? x = some { cls := .ref C, dict := some dx, data := .fields fv } → h1.Ns1 dx (fun y => if y = f then some v else none) → R (.ok (.ret .none)) ⟨h1, gs, dr, t1, os0⟩) :
    codeAny (model prog w) A (.call (.builtin "object.__setattr__") ⟨[.ref x, .str f t0, v], []⟩) R ⟨h0, gs, dr, n0, os0⟩ := by
  have I0 : PySem.W.InstAt h0 x { cls := .ref C, data := .fields fv } C none := ⟨ox, rfl, rfl, trivial⟩
  have S0 := F.store_object
  have hne := b.mro_ne hm
  have hob : cd.mro.contains (.type "object") = true := (b.mro_has "object" hm).trans b.obj
  have xs : x ≠ h0.objs.size := Nat.ne_of_lt (Heap.lt_size ox)
  have hsub : PySem.W.Looks (model prog w) h0 (isInstance (.ref x) (.type "object")) true := I0.type.andThen (PySem.W.looks_mroIn hK (by unfold PySem.W.mroIn; rw [hcd, Option.bind_some, if_neg (by rw [hne]; decide), hob]))
  refine codeAny_call_builtin S0.slot.plain S0.entry (@PySem.W.check_slot (model prog w) _ _ ⟨h0, gs, dr, n0, os0⟩ "object.__setattr__" "object" "__setattr__" (.ref x) [.str f t0, v] [] _ S0.kind S0.split hsub (S0.args (.ref x) (.str f t0) v) ?_)
  have L1 : PySem.W.Looks (model prog w) h0 (mroOf (.ref C)) cd.mro := (PySem.W.looks_clsIn hK hcd).andThen .now
  have L2 : PySem.W.Looks (model prog w) h0 (storeTaker? none) none := .now
  have L4 : PySem.W.Looks (model prog w) h0 (classData C) cd := PySem.W.looks_clsIn hK hcd
  rw [PySem.W.osa_eq, PySem.refuse_eq]
  refine wpAny_bind (wpAny_bind (I0.type.at (wpAny_bind (L1.at ?_))))
  rw [b.mro_pass _ hm]
  refine wpAny_pure (wpAny_bind (I0.type.at (wpAny_bind ((PySem.W.looks_findIn hK hno).at (wpAny_bind (L2.at ?_))))))
  show wpAny _ _ (storeInOwnDict (.ref x) (.ref C) (.str f t0) f v false) _ _ _
  obtain ⟨c1, c2, c3, c4, c5, c6, c7, c8, c9, c10, c11⟩ := cd
  dsimp only at hd
  subst hd
  unfold storeInOwnDict ownDictForStores
  repeat (first | with_reducible refine PySem.HandSPX.store_in_new ?_ ?_ | with_reducible refine wpAny_loadPart_at ox ?_ | with_reducible refine L4.at ?_ | wp_step)
  · exact ⟨_, #[], _, (Heap.get?_update_ne _ _ _ _ xs.symm).trans (Heap.get?_push_at rfl rfl), rfl, fun e z => absurd z (by simp), fun _ => rfl⟩
  · intro h1 t1 n1 sb
    have ox1 : (h0.push { cls := .type "dict", data := .dict #[] }).get? x = some { cls := .ref C, data := .fields fv } := Heap.get?_push_of_some _ ox
    refine q h1 t1 h0.objs.size (fun c o hc z => ?_) (Nat.le_refl _) xs.symm ?_ n1
    · exact (sb.2 c (Nat.ne_of_lt (Heap.lt_size z))).trans ((Heap.get?_update_ne _ _ _ _ hc).trans (Heap.get?_push_of_some _ z))
    · exact (sb.2 x xs).trans (Heap.get?_update_self _ ox1 rfl)
end
/-- what the written part says of such a class -/
structure OexB (K : PySem.W.Frag) (C : Addr) : Prop where
  cls : ∃ (b : Bas) (nm q : Str) (N : Addr) (bs bm : List Value) (sn : List Str) (sub : List Value) (ab : Bool) (col : Option Bool) (dd : Option Addr) (k0 k1 k2 k3 k5 : Option Value), K.lookup C = some (excClassObj nm q C N bs bm true sn sub ab col dd k0 k1 k2 k3 k5 b.new) ∧ b.mro bm = true
  sa : PySem.W.findIn K (.ref C) "__setattr__" = some (some (.builtin "object.__setattr__"))
  exC : PySem.W.subIn K (.ref C) (.type "BaseException") = some true
  tyC : PySem.W.typeIn K (.ref C) = some (.type "type")
  kC : PySem.W.keepIn K (.ref C) = true
section
variable {X : Cx} {pins : List (Addr × Obj)} {σ : L2.St} {H : Hp} {s : Shared} {a C : Addr} {f : Str} {y : V} {u : Value} {A : Around} {E : Value → Shared → Prop}
/-- self.f = y, by what is known of the heap -/
theorem put_new {Q : Unit → Shared → Prop} (T : OexB X.K C) (I : Inv X pins σ H s) (e : H a = some (exo a C none)) (hno : PySem.W.findIn X.K (.ref C) f = some none) (ry : RelV y u)
    (h : ∀ dx s', H dx = none → dx ≠ a → Inv X pins σ (upd (upd H dx (exd dx [(f, y)])) a (exo a C (some dx))) s' → Q () s') : wpAny (model X.prog X.w) A (setAttr (.ref a) f u) Q E s := by
  obtain ⟨b, nm, q, N, bs, bm, sn, sub, ab, col, dd, k0, k1, k2, k3, k5, oC, hbm⟩ := T.cls
  have hcl : PySem.W.clsIn X.K C = some { name := nm, bases := bs, mro := .ref C :: bm, ns := N, qualname := q, hasDict := true, slotNames := sn, subclasses := sub, abstract := ab, collection := col, hasDel := false } := by unfold PySem.W.clsIn; rw [oC] <;> rfl
  obtain ⟨t1, ho⟩ := exo_at I.hok e
  obtain ⟨h0, gs, dr, n0, os0⟩ := s
  refine PySem.W.set_plain I.kIn (ox := { cls := .ref C, dict := none, data := .fields #[.ref t1, .none, .none, .none, .bool false, .none] }) (od := none) ⟨ho, rfl, rfl, trivial⟩ T.sa ?_
  refine exc_put b I.kIn ho hcl (show b.mro (.ref C :: bm) = true from hbm) rfl hno (fun h1 t1 dx kp dn dne hx hn => ?_)
  have nx : H dx = none := I.hok.fresh dn
  have nd : ∀ {c : Addr} {o : Obj}, h0.get? c = some o → c ≠ dx := fun {c o} z => Nat.ne_of_lt (Nat.lt_of_lt_of_le (Heap.lt_size z) dn)
  have na : ∀ {c : Addr}, H c = none → c ≠ a := fun {c} n z => by
    rw [z, e] at n
    cases n
  have U1 : Un X.fs [] H (upd (upd H dx (exd dx [(f, y)])) a (exo a C (some dx))) h0 h1 := {
    keep := fun c o z n _ _ => kp c o (na n) z
    slot := fun c o z n _ _ => ⟨o.slots, kp c o (na n) z⟩
    free := fun c o z n _ => by rw [upd_ne (na n), upd_ne (nd z)]; exact n
    there := fun c o z _ => by
      by_cases hc : c = a
      · exact ⟨_, by rw [hc]; exact hx⟩
      · exact ⟨o, kp c o hc z⟩
    tups := fun c xs z => by rw [upd_ne (at_ne e z exo_tup), upd_ne (ne_of_none z nx)]; exact z
    frzs := fun c o v z => by rw [upd_ne (at_ne e z exo_frz), upd_ne (ne_of_none z nx)]; exact z
    tbls := fun c ps z => ⟨#[], by rw [upd_ne (at_ne e z exo_tbl), upd_ne (ne_of_none z nx), z]; simp⟩ }
  refine h dx _ nx dne (I.un (t' := t1) U1 fun c o z => ?_)
  by_cases hc : c = a
  · subst hc
    rw [upd_same] at z
    cases z
    exact exo_ok hx
  · rw [upd_ne hc] at z
    by_cases hd : c = dx
    · subst hd
      rw [upd_same] at z
      cases z
      exact exd_ok hn (relO_put (fs := []) ry fun g => True.intro)
    · rw [upd_ne hd] at z
      refine (I.hok c o z).stay (fun c' v hc' y' => kp c' v ?_ y') (fun c' hc' => ?_) fun c' xs hc' => ?_
      · rcases hc' with hc' | hc'
        · rw [hc']
          exact hc
        · exact at_ne e hc' exo_own
      · rw [upd_ne (at_ne e hc' exo_own), upd_ne (ne_of_none hc' nx)]
        exact hc'
      · rw [upd_ne (at_ne e hc' exo_tup), upd_ne (ne_of_none hc' nx)]
        exact hc'
end
/-- self.f = e of an error that is being made -/
def tPut (K : PySem.W.Frag) (f : Str) (to te : TE) : TS := fun D σ H => te σ H fun y H1 => to σ H1 fun x H2 => ∃ a C : Addr, x = .ref a ∧ OexB K C ∧ PySem.W.findIn K (.ref C) f = some none ∧ H2 a = some (exo a C none) ∧ ∀ dx, H2 dx = none → dx ≠ a → D.nx σ (upd (upd H2 dx (exd dx [(f, y)])) a (exo a C (some dx)))
theorem ps_put {X : Cx} {o e : Expr} {to te : TE} {f : Str} {q1 pos : Pos} (ho : PE X o to) (he : PE X e te) (hs : swapsWith e (some (.Attribute o f q1)) pos.line X.env = pure false := by rfl) : PS X (.Assign [.Attribute o f q1] e pos) (tPut X.K f to te) := by
  refine ⟨fun pins s σ H D I h => ?_⟩
  refine plainObj_wpAny_Assign_Attribute (thn (he.run pins s σ H _ I h) fun v s1 ⟨y, H1, I1, r1, z1⟩ => thn (ho.run pins s1 σ H1 _ I1 z1) fun u s2 ⟨x, H2, I2, r2, a, C, ex, T, hno, ea, z⟩ => ?_) hs
  subst ex
  obtain rfl : u = Value.ref a := r2
  exact put_new T I2 ea hno r1 fun dx s' n ne J => ⟨σ, _, J, z dx n ne⟩
/-- C(e, ..) -/
theorem pmk_own {X : Cx} {e : Expr} {es : List Expr} {ta : TA} {q pos : Pos} {CX : CXT} {x : Str} {C fI : Addr} {k : Nat} {fd : FuncData} {ps : List Str} {sp : Sp} (T : OexB X.K C) (iC : PySem.W.findIn X.K (.ref C) "__init__" = some (some (.ref fI))) (tI : PySem.W.typeIn X.K (.ref fI) = some (.type "function"))
    (F1 : FnOk X.prog X.w X.K X.mg X.base CX k fI fd ps sp) (hr : Room (k + 1) X.A) (hb : Binds X.K fd ps []) (hx : Passes CX X (fun _ _ _ => False)) (hg : Gl X x) (hm : X.mg x = some (.ref C)) (ha : PA X (e :: es) ta)
    (hdb : (x == ("__debug__" : Str)) = false) (he : starEach (e :: es) X.env = (false, eval e X.env) :: starEach es X.env) (hpl : (backTo pos (starEach es X.env)).any (·.1) = false) : PMk X (.Call (.Name x q) (e :: es) [] pos) (tMkO C sp [] ta) := by
  intro pins s σ H Q I h
  obtain ⟨b, nm, q, N, bs, bm, sn, sub, ab, col, dd, k0, k1, k2, k3, k5, oC, hbm⟩ := T.cls
  refine wpAny_Call_Name_kw (ld_glob I hg hm ?_ hdb)
  refine PySem.W.callWith_K (h₀ := X.base) I.ok.mod.kin T.kC (thn (ha.run pos pins s σ H _ I h) fun us s1 ⟨vs, H1, I1, r1, hz, z1⟩ => ⟨I1.kIn, ?_⟩) he hpl
  show wpAny _ _ (call (.ref C) us) _ _ _
  obtain ⟨h0, gs, dr, n0, os0⟩ := s1
  have sz : h0.objs.size ≤ h0.objs.size + 1 := Nat.le_succ _
  have nn : H1 (h0.objs.size + 1) = none := I1.hok.fresh sz
  have z2 := z1 (h0.objs.size + 1) nn
  have kk : ∀ c o, h0.get? c = some o → ((h0.push (PySem.W.kdv_tup us)).push (PySem.HandSPX.excO C h0.objs.size)).get? c = some o := fun c o e => Heap.get?_push_of_some _ (Heap.get?_push_of_some _ e)
  have hget : ((h0.push (PySem.W.kdv_tup us)).push (PySem.HandSPX.excO C h0.objs.size)).get? (h0.objs.size + 1) = some (PySem.HandSPX.excO C h0.objs.size) := by heap_get
  have I2 : Inv X pins σ (upd H1 (h0.objs.size + 1) (exo (h0.objs.size + 1) C none)) ⟨(h0.push (PySem.W.kdv_tup us)).push (PySem.HandSPX.excO C h0.objs.size), gs, dr, n0, os0⟩ :=
    I1.laid (t' := n0) (a := h0.objs.size + 1) (o := exo (h0.objs.size + 1) C none) (h' := (h0.push (PySem.W.kdv_tup us)).push (PySem.HandSPX.excO C h0.objs.size)) kk sz (exo_ok hget)
  have r2 : Vals (V.ref (h0.objs.size + 1) :: (vs ++ [])) (Value.ref (h0.objs.size + 1) :: (us ++ [])) := .cons rfl (r1.append .nil)
  have hl : (Value.ref (h0.objs.size + 1) :: us ++ []).length = ps.length := by
    have e := r2.length
    rw [F1.len _ _ _ _ z2] at e
    exact e.symm
  have hus : us.length ≤ sizeLine := by
    rw [← Paired.length r1, sizeLine_eq]
    omega
  have bt := hb _ (Value.ref (h0.objs.size + 1) :: us) I2.kIn hl
  rw [List.cons_append] at bt
  refine wpAny_call (PySem.HandSPX.call_own b.facts (fun y => b.mro_has y hbm) (I1.kIn _ _ oC) (PySem.W.looks_findIn I1.kIn iC) (fun self => PySem.W.bind_fn I1.kIn self tI) hus
    (codeAny_mono (F1.run _ X.stack _ _ ⟨Value.ref (h0.objs.size + 1) :: us, []⟩ (Value.ref (h0.objs.size + 1) :: (us ++ [])) _ _ (fun _ _ _ => False) (hr.make C us []) (I2.env0.make C us []) bt r2 z2) fun r s' z3 => ?_))
  cases r with
  | error er => exact hx pins σ _ _ er s' I2 z3
  | ok fl =>
    cases fl with
    | ret u =>
      obtain ⟨v, H2, os2, bare2, un2, hok2, rv, ev, d, fs, ea, ed, hd1, q2⟩ := z3
      subst ev
      obtain ⟨h2, g2, d2, t2, os'⟩ := s'
      exact ⟨rv, mk_end (raises_own T.exC T.tyC) I1 sz kk un2 hok2 os2 bare2 ea ed hd1 q2⟩
    | next => exact z3.elim
    | brk => exact z3.elim
    | cont => exact z3.elim
def basOf (n : String) : Option Bas := if n = "ValueError.__new__" then some .ve else if n = "LookupError.__new__" then some .le else if n = "ArithmeticError.__new__" then some .ae else none
theorem basOf_ok {n : String} {b : Bas} (h : basOf n = some b) : b.new = n := by
  unfold basOf at h
  split at h
  · rename_i e
    cases h
    exact e.symm
  · split at h
    · rename_i e
      cases h
      exact e.symm
    · split at h
      · rename_i e
        cases h
        exact e.symm
      · cases h
def oexB (K : PySem.W.Frag) (C : Addr) : Bool := match K.lookup C with
  | some ⟨.type "type", _, .cls cd, sl⟩ => (match cd.mro, sl.toList with
    | .ref c :: bm, [_, _, _, _, some (.builtin n), _] => c == C && cd.hasDict && !cd.hasDel && (match basOf n with
      | some b => b.mro bm
      | none => false)
    | _, _ => false)
  | _ => false
theorem oexB_ok {K : PySem.W.Frag} {C : Addr} (h : oexB K C = true) : ∃ (b : Bas) (nm q : Str) (N : Addr) (bs bm : List Value) (sn : List Str) (sub : List Value) (ab : Bool) (col : Option Bool) (dd : Option Addr) (k0 k1 k2 k3 k5 : Option Value), K.lookup C = some (excClassObj nm q C N bs bm true sn sub ab col dd k0 k1 k2 k3 k5 b.new) ∧ b.mro bm = true := by
  unfold oexB at h
  split at h
  · rename_i dd cd sl ho
    split at h
    · rename_i c bm n k0 k1 k2 k3 k5 e1 e2
      simp only [Bool.and_eq_true, beq_iff_eq, Bool.not_eq_true'] at h
      obtain ⟨⟨⟨h1, h3⟩, h4⟩, h5⟩ := h
      split at h5
      · rename_i b hb
        have hn := basOf_ok hb
        obtain ⟨n1, n2, n3, n4, n5, n6, n7, n8, n9, n10, n11⟩ := cd
        obtain ⟨sl⟩ := sl
        simp only at e1 e2 h3 h4
        subst h1 h3 h4 e1 e2 hn
        exact ⟨b, n1, n5, n4, n2, bm, n7, n8, n9, n10, dd, _, _, _, _, _, ho, h5⟩
      · cases h5
    · cases h
  · cases h
/-- what is asked of an own error's class: f is the name of its value -/
def errB (K : PySem.W.Frag) (c f : Str) : Bool := oexB K (He.ga K c) && (He.eqO (PySem.W.findIn K (.ref (He.ga K c)) "__setattr__") (some (some (.builtin "object.__setattr__"))) && (decide (PySem.W.subIn K (.ref (He.ga K c)) (.type "BaseException") = some true) && (decide (PySem.W.typeIn K (.ref (He.ga K c)) = some (.type "type")) && (PySem.W.keepIn K (.ref (He.ga K c)) &&
  (He.eqO (PySem.W.findIn K (.ref (He.ga K c)) "__init__") (some (some (.ref (He.ma K (He.ga K c) "__init__")))) && (decide (PySem.W.typeIn K (.ref (He.ma K (He.ga K c) "__init__")) = some (.type "function")) && He.eqO (PySem.W.findIn K (.ref (He.ga K c)) f) (some none)))))))
structure ErrC (K : PySem.W.Frag) (c f : Str) : Prop where
  T : OexB K (He.ga K c)
  iC : PySem.W.findIn K (.ref (He.ga K c)) "__init__" = some (some (.ref (He.ma K (He.ga K c) "__init__")))
  tI : PySem.W.typeIn K (.ref (He.ma K (He.ga K c) "__init__")) = some (.type "function")
  no : PySem.W.findIn K (.ref (He.ga K c)) f = some none
theorem errB_ok {K : PySem.W.Frag} {c f : Str} (h : errB K c f = true) : ErrC K c f := by
  obtain ⟨h1, h⟩ := He.ba h
  obtain ⟨h2, h⟩ := He.ba h
  obtain ⟨h3, h⟩ := He.ba h
  obtain ⟨h4, h⟩ := He.ba h
  obtain ⟨h5, h⟩ := He.ba h
  obtain ⟨h6, h⟩ := He.ba h
  obtain ⟨h7, h8⟩ := He.ba h
  exact ⟨⟨oexB_ok h1, He.eqO_ok h2, of_decide_eq_true h3, of_decide_eq_true h4, h5⟩, He.eqO_ok h6, of_decide_eq_true h7, He.eqO_ok h8⟩
/-- an own error's class: its __init__ keeps its one value -/
structure ECls (p : Pg) (G : Cfg) (c f : Str) : Prop where
  k : ErrC G.K c f
  mg : p.mg c = some (.ref (He.ga G.K c))
  fl : G.fl c = [f]
  ini : ∃ (d : Df) (fd : FuncData) (sf x : Str) (q0 q1 q2 q3 : Pos), d.FunD G.K fd ∧ d.ad G.K = He.ma G.K (He.ga G.K c) "__init__" ∧ d.body = [.Assign [.Attribute (.Name sf q0) f q1] (.Name x q2) q3] ∧ FnScope [sf, x] [sf, x] d.scope ∧ Binds G.K fd [sf, x] [] ∧ odd sf = false ∧ odd x = false
/-- the promise of its __init__ -/
def spX (C : Addr) (f : Str) : Sp := fun vs H Q _ => ∃ a y, vs = [.ref a, y] ∧ H a = some (exo a C none) ∧ ∀ dx, H dx = none → dx ≠ a → Q .non (upd (upd H dx (exd dx [(f, y)])) a (exo a C (some dx)))
section
variable {p : Pg} {G : Cfg} {C : Call} {k : Nat} {c f : Str}
theorem vis_of {N ps : List Str} {sc : Scope} {x : Str} (S : FnScope N ps sc) (h : x ∈ ps) : Vis sc x := (S.par x h).elim (fun z => .inl z) fun z => .inr (.inl z)
theorem err_init {j : Nat} (e : ECls p G c f) : ∃ fd ps, Binds G.K fd ps [] ∧ FnOk p.P p.w G.K p.mg p.base (L2.CX p.P p.w) (j + 1) (He.ma G.K (He.ga G.K c) "__init__") fd ps (spX (He.ga G.K c) f) := by
  obtain ⟨d, fd, sf, x, q0, q1, q2, q3, F, ead, eb, S, bd, o1, o2⟩ := e.ini
  obtain ⟨oc, od, dV, kV, doc, pm, an, cdv, ct, osl, rfl, lk, hcd, _, _⟩ := F.ex
  refine ⟨_, _, bd, ⟨fun vs H Q E ⟨a, y, h1, _⟩ => by rw [h1]; rfl, fun A outer s H args us vs Q E hr e0 hb r ⟨a, y, h1, h2, h3⟩ => ?_⟩⟩
  subst h1
  rw [← ead]
  refine LamX.run_ofS (N := [sf, x]) lk hcd S hr e0 hb r rfl fun hr2 => ?_
  rw [eb]
  obtain ⟨d1, d2, d3⟩ := odd_cases o1
  obtain ⟨g1, g2, g3⟩ := odd_cases o2
  refine ⟨_, pss_one (ps_put (pe_var (i := 0) rfl (vis_of S (by simp)) d1 d2) (pe_var (i := 1) rfl (vis_of S (by simp)) g1 g2)), ?_⟩
  refine ⟨y, rfl, .ref a, rfl, a, He.ga G.K c, rfl, e.k.T, e.k.no, h2, fun dx n1 n2 => ?_⟩
  exact h3 dx n1 n2
theorem err_mk (hfl : p.fl = false) (e : ECls p G c f) (hC : ∀ ds Q E, C c ds Q E → ds.length = 1 ∧ Q (.v .non)) (hL : ∀ Q, C "!lv" [] Q E0 → ∃ j, k = j + 2) (hB : G.B.Mono) (hM : MonoC C) {X : Cx} {E : XK} (ok : OkX p G k X (wE E)) (hg : Gl X c) (ho : odd c = false) {args : List Expr} {is : Exs} {q pos : Pos}
    (ha : PA X args (rdA G C (wE E) is)) (hst : ∀ e ∈ args, isStar e = false) (hnil : args = [] → is = .nil) : PMk X (.Call (.Name c q) args [] pos) (rdX G C (wE E) c is) := by
  intro pins s σ H Q I h
  cases args with
  | nil =>
    obtain ⟨r, re, tb, _, z⟩ := h
    rw [hnil rfl] at z
    unfold evAs at z
    obtain ⟨hl, _⟩ := hC _ _ _ z
    cases hl
  | cons e1 es =>
    obtain ⟨r, re, tb, z0, z⟩ := h
    obtain ⟨j, rfl⟩ := hL _ z0
    obtain ⟨fd, ps, bd, F1⟩ := err_init (j := j) e
    obtain ⟨d1, d2, d3⟩ := odd_cases ho
    have KX : X.K = G.K := ok.bs.K
    have hx : Passes (L2.CX p.P p.w) X (fun _ _ _ => False) := fun pins σ H s er s' I z => by
      obtain ⟨_, _, _, _, _, _, _, _, _, _, _, _, z⟩ := z
      exact z.elim
    have F1' : FnOk X.prog X.w X.K X.mg X.base (L2.CX p.P p.w) (j + 1) (He.ma G.K (He.ga G.K c) "__init__") fd ps (spX (He.ga G.K c) f) := by
      rw [ok.P, ok.w, ok.mg, ok.base, KX]
      exact F1
    have hp := pmk_own (q := q) (pos := pos) (x := c) (e := e1) (es := es) (by rw [KX]; exact e.k.T) (by rw [KX]; exact e.k.iC) (by rw [KX]; exact e.k.tI) F1' ok.room (by rw [KX]; exact bd) hx hg (by rw [ok.mg]; exact e.mg) ha d1 (starEach_cons (hst e1 List.mem_cons_self)) (noStars fun x hx => hst x (List.mem_cons_of_mem _ hx))
    refine hp pins s σ H Q I ?_
    refine a_bind hB hM re tb (LamX.ExtN.refl H) z fun ds vs H1 rs x1 t1 g => ?_
    obtain ⟨hl, g⟩ := hC _ _ _ g
    obtain ⟨d, rfl⟩ : ∃ d, ds = [d] := List.length_eq_one_iff.mp hl
    cases rs with
    | cons rd rs =>
      cases rs
      rename_i v
      refine ⟨by simp, fun a na => ⟨a, v, rfl, upd_same, fun dx nd ne => ?_⟩⟩
      have nd1 : H1 dx = none := by rw [upd_ne ne] at nd; exact nd
      refine ⟨rfl, dx, [(f, v)], upd_same, by rw [upd_ne ne, upd_same], nd1, ?_⟩
      have eH : upd (del (upd (upd (upd H1 a (exo a (He.ga G.K c) none)) dx (exd dx [(f, v)])) a (exo a (He.ga G.K c) (some dx))) a) dx (.xd [(f, v)]) = upd H1 dx (.xd [(f, v)]) := by
        funext b
        by_cases hb : b = dx
        · subst hb
          rw [upd_same, upd_same]
        · rw [upd_ne hb, upd_ne hb]
          by_cases hb2 : b = a
          · subst hb2
            rw [del_same, na]
          · rw [del_ne hb2, upd_ne hb2, upd_ne hb, upd_ne hb2]
      rw [eH]
      have x2 : ∀ b o, H1 b = some o → upd H1 dx (.xd [(f, v)]) b = some o := fun b o q => by
        rw [upd_ne (ne_of_none q nd1)]
        exact q
      refine g (.ref (He.ga G.K c)) (some dx) _ ⟨rfl, ?_⟩ (x1.trans (LamX.ExtN.of x2)) (t1.ext x2)
      rw [e.fl]
      exact ⟨dx, [v], rfl, by rw [upd_same]; rfl, rfl, .cons (rd.stb (ExN.stb (LamX.ExtN.of x2))) .nil⟩
end
end En
namespace En
open PySem L2 PyProof.Rows TL
/-! Xv1: own errors with one value, made and held as values. -/
open PySem.Spec
theorem run_err {X : Cx} {CX : CXT} {C fI : Addr} {k : Nat} {fd : FuncData} {ps : List Str} {sp : Sp} {E : XK} (T : OexB X.K C) (iC : PySem.W.findIn X.K (.ref C) "__init__" = some (some (.ref fI))) (tI : PySem.W.typeIn X.K (.ref fI) = some (.type "function"))
    (F1 : FnOk X.prog X.w X.K X.mg X.base CX k fI fd ps sp) (hr : Room (k + 1) X.A) (hb : Binds X.K fd ps []) (hx : Passes CX X E) {pins : List (Addr × Obj)} {σ : L2.St} {H : Hp} {s : Shared} {Q : VK} {us : List Value} {vs : List V} (I1 : Inv X pins σ H s) (r1 : Vals vs us) (hu : us.length ≤ 100)
    (h : ∀ x, H x = none → sp (.ref x :: (vs ++ [])) (upd H x (exo x C none)) (fun v H2 => v = .non ∧ Q (.ref x) H2) E) : wpAny (model X.prog X.w) X.A (call (.ref C) us) (EP X pins σ Q) X.xe s := by
  obtain ⟨b, nm, q, N, bs, bm, sn, sub, ab, col, dd, k0, k1, k2, k3, k5, oC, hbm⟩ := T.cls
  obtain ⟨h0, gs, dr, n0, os0⟩ := s
  have sz : h0.objs.size ≤ h0.objs.size + 1 := Nat.le_succ _
  have nn : H (h0.objs.size + 1) = none := I1.hok.fresh sz
  have z2 := h (h0.objs.size + 1) nn
  have kk : ∀ c o, h0.get? c = some o → ((h0.push (PySem.W.kdv_tup us)).push (PySem.HandSPX.excO C h0.objs.size)).get? c = some o := fun c o e => Heap.get?_push_of_some _ (Heap.get?_push_of_some _ e)
  have hget : ((h0.push (PySem.W.kdv_tup us)).push (PySem.HandSPX.excO C h0.objs.size)).get? (h0.objs.size + 1) = some (PySem.HandSPX.excO C h0.objs.size) := by heap_get
  have I2 : Inv X pins σ (upd H (h0.objs.size + 1) (exo (h0.objs.size + 1) C none)) ⟨(h0.push (PySem.W.kdv_tup us)).push (PySem.HandSPX.excO C h0.objs.size), gs, dr, n0, os0⟩ :=
    I1.laid (t' := n0) (a := h0.objs.size + 1) (o := exo (h0.objs.size + 1) C none) (h' := (h0.push (PySem.W.kdv_tup us)).push (PySem.HandSPX.excO C h0.objs.size)) kk sz (exo_ok hget)
  have r2 : Vals (V.ref (h0.objs.size + 1) :: (vs ++ [])) (Value.ref (h0.objs.size + 1) :: (us ++ [])) := .cons rfl (r1.append .nil)
  have hl : (Value.ref (h0.objs.size + 1) :: us ++ []).length = ps.length := by
    have e := r2.length
    rw [F1.len _ _ _ _ z2] at e
    exact e.symm
  have hus : us.length ≤ sizeLine := by rw [sizeLine_eq]; omega
  have bt := hb _ (Value.ref (h0.objs.size + 1) :: us) I2.kIn hl
  rw [List.cons_append] at bt
  refine wpAny_call (PySem.HandSPX.call_own b.facts (fun y => b.mro_has y hbm) (I1.kIn _ _ oC) (PySem.W.looks_findIn I1.kIn iC) (fun self => PySem.W.bind_fn I1.kIn self tI) hus
    (codeAny_mono (F1.run _ X.stack _ _ ⟨Value.ref (h0.objs.size + 1) :: us, []⟩ (Value.ref (h0.objs.size + 1) :: (us ++ [])) _ _ E (hr.make C us []) (I2.env0.make C us []) bt r2 z2) fun r s' z3 => ?_))
  cases r with
  | error er => exact hx pins σ _ _ er s' I2 z3
  | ok fl =>
    cases fl with
    | ret u =>
      obtain ⟨v, H', I3, rv, ev, q3⟩ := I2.after z3
      subst ev
      exact ⟨rv, ⟨V.ref (h0.objs.size + 1), H', I3, rfl, q3⟩⟩
    | next => exact z3.elim
    | brk => exact z3.elim
    | cont => exact z3.elim
/-- an error that lies in the heap, its dict (none as yet | with fields) -/
def ErrH (H : Hp) (a D : Addr) : Option (Addr × List (Str × V)) → Prop
  | none => H a = some (exo a D none)
  | some (dx, fs) => H a = some (exo a D (some dx)) ∧ H dx = some (exd dx fs)
theorem ErrH.inst {X : Cx} {pins : List (Addr × Obj)} {σ : L2.St} {H : Hp} {s : Shared} {a D : Addr} {o : Option (Addr × List (Str × V))} (I : Inv X pins σ H s) (e : ErrH H a D o) :
    ∃ (oe : Obj) (od : Option Obj), PySem.W.InstAt s.heap a oe D od ∧ ∀ dx fs, o = some (dx, fs) → ∃ (ob : Obj) (mA : Str → Option Value), od = some ob ∧ (∀ name, PySem.W.lookIn name ob = some (mA name)) ∧ ∀ f, RelO (fs.lookup f) (mA f) := by
  cases o with
  | none =>
    obtain ⟨t1, ho⟩ := exo_at I.hok (show H a = some (exo a D none) from e)
    exact ⟨_, none, ⟨ho, rfl, rfl, trivial⟩, fun _ _ z => nomatch z⟩
  | some p =>
    obtain ⟨dx, fs⟩ := p
    obtain ⟨e1, e2⟩ := e
    obtain ⟨t1, ho⟩ := exo_at I.hok e1
    obtain ⟨mA, hns, hr⟩ := exd_at I.hok e2
    obtain ⟨od, hd, hl⟩ := lookIn_ns hns
    refine ⟨_, some od, ⟨ho, rfl, rfl, hd⟩, fun dx' fs' z => ?_⟩
    cases z
    exact ⟨od, mA, rfl, hl, hr⟩
/-- isinstance(e, c) -/
theorem call_isV {X : Cx} {D : Addr} (C : ExcC X.K D) : CallR X (.builtin "isinstance") (fun xs H Q => ∃ (a : Addr) (c : V) (cv : Value) (b : Bool) (o : Option (Addr × List (Str × V))), xs = [.ref a, c] ∧ (∀ u, RelV c u → u = cv) ∧ PySem.W.kitOne X.K (.ref D) cv = some b ∧ ErrH H a D o ∧ Q (.bl b) H) := by
  intro pins s σ H xs us Q I r h
  obtain ⟨a, c, cv, b, o, rfl, hcv, e, he, q⟩ := h
  cases r with
  | cons rx rr =>
    cases rr with
    | cons rt rr =>
      cases rr
      cases rx
      have ec := hcv _ rt
      subst ec
      obtain ⟨oe, od, J, _⟩ := he.inst I
      obtain ⟨cd, hc, _⟩ := PySem.W.any_some C.hd
      exact PySem.W.kia_one (PySem.W.kitx_exc (by rw [hc]; rfl) C.hg C.hk C.hs C.ha C.hn C.ht C.hm) I.kIn J e (fun z => nomatch z) fun tk => ⟨.bl b, H, I.kept (t' := tk) fun _ _ z => z, rfl, q⟩
/-- X(..), an own class without an own __init__ -/
theorem run_err0 {X : Cx} {C : Addr} {bmB : List Value} {B newId initId : String} (F : ExcBaseFacts B newId initId bmB) (q : PySem.W.excIn X.K C bmB newId = true) {pins : List (Addr × Obj)} {σ : L2.St} {H : Hp} {s : Shared} {Q : VK} {us : List Value} (I1 : Inv X pins σ H s) (hu : us.length ≤ 100)
    (h : ∀ a, H a = none → Q (.ref a) (upd H a (exo a C none))) : wpAny (model X.prog X.w) X.A (call (.ref C) us) (EP X pins σ Q) X.xe s := by
  obtain ⟨bm, N, nm, qn, bs, hdct, sn, sub, ab, col, dd, k0, k1, k2, k3, k5, mN, hC, hN, hni, T⟩ := exc_obj I1.kIn q
  refine wpAny_call_exc_subT F T hC hN hni (fun h' a hm => ?_) (by rw [sizeLine_eq]; omega)
  have hn : H a = none := I1.hok.gone hm.new
  obtain ⟨t, ht, _, _⟩ := hm.there
  exact ⟨.ref a, upd H a (exo a C none), I1.laidN hm.keeps hm.new hn (exo_ok ht), rfl, h a hn⟩
end En
/-! En30: the program's own names, at all levels. -/
namespace En
open PySem L2 PyProof.Rows
abbrev Prim := Call → List D → (Rv → Prop) → XP → Prop
def primOf (l : List (Str × Prim)) (C : Call) : Call := fun f ds Q E => match l.lookup f with
  | some P => P C ds Q E
  | none => False
def PMono (P : Prim) : Prop := ∀ C, MonoC C → ∀ ds Q Q' E E', (∀ r, Q r → Q' r) → (∀ c ds, E c ds → E' c ds) → P C ds Q E → P C ds Q' E'
theorem primOf_mono {l : List (Str × Prim)} (h : ∀ e ∈ l, PMono e.2) (C : Call) (hC : MonoC C) : MonoC (primOf l C) := by
  intro f ds Q Q' E E' hq he z
  unfold primOf at z ⊢
  cases e : l.lookup f with
  | none => rw [e] at z; exact z
  | some P =>
    rw [e] at z
    have hm : (f, P) ∈ l := by
      clear z hq he
      induction l with
      | nil => cases e
      | cons x xs ih =>
        rw [List.lookup_cons] at e
        split at e
        · rename_i hb
          cases e
          have : f = x.1 := by simpa using hb
          rw [this]
          exact List.mem_cons_self
        · exact List.mem_cons_of_mem _ (ih (fun e he => h e (List.mem_cons_of_mem _ he)) e)
    exact h _ hm C hC ds Q Q' E E' hq he z
/-- a name that stands for another -/
def pTo (f : Str) : Prim := fun C ds Q E => C f ds Q E
/-- .. of one object of the class -/
def pOb (c f : Str) : Prim := fun C ds Q E => ∃ fs, ds = [.obj c fs] ∧ C f ds Q E
/-- .. from which nothing is raised -/
def pPr (c f : Str) : Prim := fun C ds Q _ => ∃ fs, ds = [.obj c fs] ∧ C f ds Q E0
/-- what a slot holds -/
def pSl (c : Str) (i : Nat) : Prim := fun _ ds Q _ => ∃ fs x, ds = [.obj c fs] ∧ fs[i]? = some x ∧ Q (.v x)
def pIn (B : Lib) (c : Str) (n : Nat) (b : Sms) : Prim := fun C ds Q E => initW B C c n b ds Q E
def pBp : Prim := fun _ ds Q _ => bpW ds Q
/-- .. of two objects of the class -/
def pEq (c f : Str) : Prim := fun C ds Q E => ∃ fs d, ds = [.obj c fs, d] ∧ samO c d = true ∧ C f ds Q E
/-- a class whose __init__ always raises -/
def pRz (f : Str) : Prim := fun C ds _ E => ∀ x : Addr, C f (.adr x :: ds) (fun _ => False) E
/-- nothing but the level -/
def pOk : Prim := fun _ _ Q _ => Q (.v .non)
theorem pOk_mono : PMono pOk := fun C hC ds Q Q' E E' hq he z => hq _ z
/-- a def that changes lists of the caller -/
def pIo (B : Lib) (n : Nat) (fl : List Bool) (b : Sms) : Prim := fun C ds Q _ => ds.length = fl.length ∧ ∀ a : Nat → Addr, exSs B C b (nxA a fl Q) (envA a fl n ds) E0
/-- an own error with one value -/
def pErr : Prim := fun _ ds Q _ => ds.length = 1 ∧ Q (.v .non)
theorem pTo_mono (f : Str) : PMono (pTo f) := fun C hC ds Q Q' E E' hq he z => hC _ _ _ _ _ _ hq he z
/-- the class's own rows: its slots by their order, its properties -/
def prmP (B : Lib) (nI : Nat) (bI : Sms) : List (Str × Prim) :=
  [("Program", pTo "Program.__init__"), ("Program.__init__", pIn B "Program" nI bI),
   ("own_branches", pSl "Program" 0), ("own_names", pSl "Program" 1), ("own_sayings", pSl "Program" 2),
   ("names", pPr "Program" "Program.names"), ("sayings", pPr "Program" "Program.sayings"), ("branches", pPr "Program" "Program.branches"), ("places", pPr "Program" "Program.places"), ("text", pPr "Program" "Program.text"),
   ("__len__", pOb "Program" "Program.__len__"), ("__repr__", pOb "Program" "Program.__repr__"), ("__str__", pTo "__str1__"), ("__str1__", pOb "Program" "Program.__str__"),
   ("__bool__", pTo "__bool1__"), ("__bool1__", pTo "__bool2__"), ("__bool2__", pOb "Program" "Program.__len__"), ("branch_parts", pBp), ("__eq__", pEq "Program" "Program.__eq__"), ("!lv", pTo "!lv1"), ("!lv1", pOk)]
def progSl : List Str := ["own_branches", "own_names", "own_sayings"]
def progPr : List Str := ["names", "sayings", "branches", "places", "text"]
/-- the program in a text -/
structure Pm (p : Pg) (G : Cfg) (sub : Sub) (g : Gi) (fs : List (Str × Fn)) (l : List (Str × Prim)) (es : List Fe) (fd : Fe → FuncData) (XT : Nat → Prop) : Prop where
  fl : p.fl = false
  ct : Ct p G sub g
  lq : p.lq = false
  ans : g.ans = []
  err : ∀ c ∈ g.err, ∃ f, ECls p G c f ∧ fs.lookup c = none ∧ l.lookup c = some pErr
  ok : ∀ e ∈ es, FeOk G g e (fd e)
  bd : ∀ e ∈ es, Binds G.K (fd e) e.ps []
  io : ∀ x ∈ g.ios, ∃ d : Fe, d.nm = x.1 ∧ FeOk G g d (fd d) ∧ Binds G.K (fd d) d.ps [] ∧ d.ps.length = x.2.length ∧ p.mg x.1 = some (.ref (d.d.ad G.K)) ∧ fs.lookup x.1 = none ∧ l.lookup x.1 = some (pIo G.B d.fn.n x.2 d.fn.body)
  /-- global defs -/
  fn : ∀ f ∈ g.fns, f = "Program" ∨ f = "branch_parts" ∨ (∃ e ∈ es, e.nm = f ∧ p.mg f = some (.ref (e.d.ad G.K))) ∨ (∃ e ∈ es, fs.lookup f = none ∧ l.lookup f = some (pRz e.nm) ∧ Mk G.K (He.ga G.K f) (e.d.ad G.K) ∧ p.mg f = some (.ref (He.ga G.K f))) ∨ ∃ u, p.mg f = some u ∧ PySem.W.keepIn G.K u = true ∧ ∀ k, XT k → CalP p G (callW G.B fs (primOf l) k) k u f
  exs : ∀ c ∈ g.exs, ∀ k, XT k → IsxOk p G (callW G.B fs (primOf l) k) k c := by intro c h; exact (List.not_mem_nil h).elim
  fs : ∀ e ∈ es, fs.lookup e.nm = some e.fn
  lm : ∀ e ∈ l, PMono e.2
  slots : SlotsOf G "Program" progSl
section
variable {p : Pg} {G : Cfg} {sub : Sub} {g : Gi} {fs : List (Str × Fn)} {l : List (Str × Prim)} {es : List Fe} {fd : Fe → FuncData} {XT : Nat → Prop}
/-- the meaning of calls, by levels -/
abbrev CW (G : Cfg) (fs : List (Str × Fn)) (l : List (Str × Prim)) (k : Nat) : Call := callW G.B fs (primOf l) k
theorem Pm.hB (m : Pm p G sub g fs l es fd XT) : G.B.Mono := by rw [m.ct.hL]; exact libW_mono sub
theorem Pm.hC (m : Pm p G sub g fs l es fd XT) (k : Nat) : MonoC (CW G fs l k) := callW_mono m.hB (fun C hC => primOf_mono m.lm C hC) k
/-- a prim, one level down -/
theorem cw_prim {f : Str} {P : Prim} (hf : fs.lookup f = none) (hl : l.lookup f = some P) {k : Nat} {ds : List D} {Q : Rv → Prop} {E : XP} (z : CW G fs l k f ds Q E) : ∃ j, k = j + 1 ∧ P (CW G fs l j) ds Q E := by
  obtain ⟨j, e, z⟩ := callW_prim (G := G) hf z
  refine ⟨j, e, ?_⟩
  unfold primOf at z
  rw [hl] at z
  exact z
theorem cw_prim' {f : Str} {P : Prim} (hf : fs.lookup f = none) (hl : l.lookup f = some P ∨ l.lookup f = none) {k : Nat} {ds : List D} {Q : Rv → Prop} {E : XP} (z : CW G fs l k f ds Q E) : ∃ j, k = j + 1 ∧ P (CW G fs l j) ds Q E := by
  rcases hl with hl | hl
  · exact cw_prim hf hl z
  · obtain ⟨j, e, z⟩ := callW_prim (G := G) hf z
    unfold primOf at z
    rw [hl] at z
    exact z.elim
theorem cw_none {f : Str} (hf : fs.lookup f = none) (hl : l.lookup f = none) {k : Nat} {ds : List D} {Q : Rv → Prop} {E : XP} (z : CW G fs l k f ds Q E) : False := by
  obtain ⟨j, e, z⟩ := callW_prim (G := G) hf z
  unfold primOf at z
  rw [hl] at z
  exact z
theorem cw_prim_mk {f : Str} {P : Prim} (hf : fs.lookup f = none) (hl : l.lookup f = some P) {k : Nat} {ds : List D} {Q : Rv → Prop} {E : XP} (z : P (CW G fs l k) ds Q E) : CW G fs l (k + 1) f ds Q E := by
  show callW G.B fs (primOf l) (k + 1) f ds Q E
  unfold callW
  rw [hf]
  show primOf l _ f ds Q E
  unfold primOf
  rw [hl]
  exact z
theorem cw_fn_mk {f : Str} {F : Fn} (hf : fs.lookup f = some F) {k : Nat} {ds : List D} {Q : Rv → Prop} {E : XP} (hl : ds.length = F.ps) (z : exSs G.B (CW G fs l k) F.body { nx := fun _ => Q (.v .non), rt := fun x _ => Q x } (startD F.n ds) E) : CW G fs l (k + 1) f ds Q E := by
  show callW G.B fs (primOf l) (k + 1) f ds Q E
  unfold callW
  rw [hf]
  exact ⟨hl, z⟩
/-! ### all levels -/
/-- __init__ at level k -/
def InK (p : Pg) (G : Cfg) (fs : List (Str × Fn)) (l : List (Str × Prim)) (f : Addr) (fdI : FuncData) (psI : List Str) (nI : Nat) (bI : Sms) : Nat → Prop
  | 0 => True
  | j + 1 => FnOk p.P p.w G.K p.mg p.base (L2.CX p.P p.w) (j + 1) f fdI psI (spIn G (CW G fs l j) "Program" nI bI)
/-- what is known at a level -/
structure Ak (p : Pg) (G : Cfg) (fs : List (Str × Fn)) (l : List (Str × Prim)) (es : List Fe) (fd : Fe → FuncData) (XT : Nat → Prop) (adB : Addr) (fdB : FuncData) (fI : Addr) (fdI : FuncData) (psI : List Str) (nI : Nat) (bI : Sms) (k : Nat) : Prop where
  defs : ∀ e ∈ es, FnG p G (CW G fs l k) k (e.d.ad G.K) (fd e) e.ps e.nm
  bp : FnG p G (CW G fs l k) k adB fdB ["lines"] "branch_parts"
  ini : InK p G fs l fI fdI psI nI bI k
  xt : XT k
def pnames : List Str := [Str.ofString "Program", Str.ofString "Program.__init__", Str.ofString "own_branches", Str.ofString "own_names", Str.ofString "own_sayings", Str.ofString "names", Str.ofString "sayings", Str.ofString "branches", Str.ofString "places", Str.ofString "text", Str.ofString "__len__", Str.ofString "__repr__", Str.ofString "__str__", Str.ofString "__str1__", Str.ofString "__bool__", Str.ofString "__bool1__", Str.ofString "__bool2__", Str.ofString "branch_parts", Str.ofString "__eq__", Str.ofString "!lv", Str.ofString "!lv1"]
def msn : List Str := [Str.ofString "__len__", Str.ofString "__repr__", Str.ofString "__str__"]
/-- the rest of the program: __init__, branch_parts, the tables of names -/
structure Pr (p : Pg) (G : Cfg) (sub : Sub) (g : Gi) (fs : List (Str × Fn)) (l : List (Str × Prim)) (es : List Fe) (fd : Fe → FuncData) (XT : Nat → Prop) (adB : Addr) (fdB : FuncData) (fdI : FuncData) (sf x0 x1 x2 : Str) (nI : List Str) (bI : Sms) : Prop where
  pm : Pm p G sub g fs l es fd XT
  xt0 : XT 0
  xts : ∀ k, Kn g G (CW G fs l k) (OkX p G k) → ErrOk p G g (CW G fs l k) k → XT k → XT (k + 1)
  mgP : p.mg "Program" = some (.ref (He.ga G.K "Program"))
  mkC : Mk G.K (He.ga G.K "Program") (He.ma G.K (He.ga G.K "Program") "__init__")
  mgB : p.mg "branch_parts" = some (.ref adB)
  kpB : PySem.W.keepIn G.K (.ref adB) = true
  bdB : Binds G.K fdB ["lines"] []
  bp : ∀ (C' : Call) (k : Nat), (∀ ds Q E, C' "branch_parts" ds Q E → bpW ds Q) → FnG p G C' (k + 1) adB fdB ["lines"] "branch_parts"
  /-- __init__ of what is known a level below -/
  ini : ∀ k, Kn g G (CW G fs l k) (OkX p G k) → ErrOk p G g (CW G fs l k) k → FnOk p.P p.w G.K p.mg p.base (L2.CX p.P p.w) (k + 1) (He.ma G.K (He.ga G.K "Program") "__init__") fdI [sf, x0, x1, x2] (spIn G (CW G fs l k) "Program" nI.length bI)
  kwI : ∀ e ∈ g.kws, (e.1 = "Program" ∧ ∃ ks, e.2.1 = ks.map some ∧ KBs G.K fdI [sf, x0, x1, x2] 1 ks e.2.2.1 e.2.2.2) ∨ ∃ e' ∈ es, e'.nm = e.1 ∧ p.mg e.1 = some (.ref (e'.d.ad G.K)) ∧ ∃ ks, e.2.1 = ks.map some ∧ KBs G.K (fd e') e'.ps 0 ks e.2.2.1 e.2.2.2
  kwP : KBs G.K fdI [sf, x0, x1, x2] 1 [] 3 [0, 1, 2]
  /-- what the prims' names stand for -/
  no : ∀ f ∈ pnames, fs.lookup f = none
  lp : ∀ e ∈ prmP G.B nI.length bI, l.lookup e.1 = some e.2 ∨ l.lookup e.1 = none
  mcl : ∀ m key, g.mcl.lookup m = some key → ∃ e ∈ es, e.nm = key ∧ ∀ d, G.B.mok key d = true → MthOk G m (e.d.ad G.K) d
  mkw : ∀ e' ∈ g.mkw, ∀ key, g.mcl.lookup e'.1 = some key → ∃ e ∈ es, e.nm = key ∧ (∀ d, G.B.mok key d = true → MthOk G e'.1 (e.d.ad G.K) d) ∧ ∃ ks, e'.2.1 = ks.map some ∧ KBs G.K (fd e) e.ps 1 ks e'.2.2.1 e'.2.2.2
  att : ∀ f key, g.att.lookup f = some key → key = f ∧ ((∃ i : Nat, progSl[i]? = some f) ∨ (f ∈ progPr ∧ ∃ e ∈ es, e.nm = ("Program." : Str) ++ f ∧ e.ps.length = 1 ∧ PropF G "Program" f (He.ma G.K (He.ga G.K "Program") f) (e.d.ad G.K)))
  ms : ∀ m ∈ msn, fs.lookup (("Program." : Str) ++ m) = none ∧ l.lookup (("Program." : Str) ++ m) = none ∨ ∃ e ∈ es, e.nm = ("Program." : Str) ++ m ∧ e.ps.length = 1 ∧ PySem.W.findIn G.K (.ref (He.ga G.K "Program")) m = some (some (.ref (e.d.ad G.K))) ∧ PySem.W.isFn G.K (.ref (e.d.ad G.K)) = true
  nb : PySem.W.findIn G.K (.ref (He.ga G.K "Program")) "__bool__" = some none
  eqs : fs.lookup ("Program.__eq__" : Str) = none ∧ l.lookup ("Program.__eq__" : Str) = none ∨ ∃ e ∈ es, e.nm = "Program.__eq__" ∧ e.ps.length = 2 ∧ PySem.W.findIn G.K (.ref (He.ga G.K "Program")) "__eq__" = some (some (.ref (e.d.ad G.K))) ∧ PySem.W.isFn G.K (.ref (e.d.ad G.K)) = true ∧
    PySem.W.findIn G.K (.ref (He.ga G.K "Program")) "__ne__" = some (some (.builtin "object.__ne__")) ∧ PySem.W.mroIn G.K (He.ga G.K "Program") (.type "object") = some true ∧ ∀ n : Tn, PySem.W.mroIn G.K (He.ga G.K "Program") (.type n.nm) = some false
section
variable {adB : Addr} {fdB fdI : FuncData} {sf x0 x1 x2 : Str} {nI : List Str} {bI : Sms}
abbrev Pr.A (_ : Pr p G sub g fs l es fd XT adB fdB fdI sf x0 x1 x2 nI bI) (k : Nat) : Prop := Ak p G fs l es fd XT adB fdB (He.ma G.K (He.ga G.K "Program") "__init__") fdI [sf, x0, x1, x2] nI.length bI k
theorem Pr.pr (m : Pr p G sub g fs l es fd XT adB fdB fdI sf x0 x1 x2 nI bI) {f : Str} {P : Prim} (h1 : f ∈ pnames) (h2 : (f, P) ∈ prmP G.B nI.length bI) {k : Nat} {ds : List D} {Q : Rv → Prop} {E : XP}
    (z : CW G fs l k f ds Q E) : ∃ j, k = j + 1 ∧ P (CW G fs l j) ds Q E := cw_prim' (m.no f h1) (m.lp _ h2) z
/-- a special name of the class, told of a def -/
theorem Pr.spc (m : Pr p G sub g fs l es fd XT adB fdB fdI sf x0 x1 x2 nI bI) {k : Nat} (a : m.A k) {s : Str} (hs : s ∈ msn) {fs' : List D} {Q : Rv → Prop} {E : XP} (z : CW G fs l k (("Program." : Str) ++ s) [.obj "Program" fs'] Q E) : Spc p G (CW G fs l k) k "Program" s (("Program." : Str) ++ s) := by
  rcases m.ms s hs with ⟨h1, h2⟩ | ⟨e, he, e1, e2, e3, e4⟩
  · exact (cw_none h1 h2 z).elim
  · refine ⟨⟨e.d.ad G.K, fd e, e.ps, ?_, m.pm.bd e he, e2, e3, e4⟩⟩
    rw [← e1]
    exact a.defs e he
theorem Pr.obx (m : Pr p G sub g fs l es fd XT adB fdB fdI sf x0 x1 x2 nI bI) {n : Nat} (a : ∀ k, k ≤ n → m.A k) : ObX p G (CW G fs l) n where
  len := fun c fs' Q E z => by
    obtain ⟨k, e, f2, e2, z⟩ := m.pr (by simp [pnames]) (P := pOb "Program" "Program.__len__") (by simp [prmP]) z
    cases e2
    exact ⟨k, _, e, m.spc (a k (by omega)) (s := "__len__") (by simp [msn]) z, z⟩
  repr := fun c fs' Q E z => by
    obtain ⟨k, e, f2, e2, z⟩ := m.pr (by simp [pnames]) (P := pOb "Program" "Program.__repr__") (by simp [prmP]) z
    cases e2
    exact ⟨k, _, e, m.spc (a k (by omega)) (s := "__repr__") (by simp [msn]) z, z⟩
  str := fun c fs' Q E z => by
    obtain ⟨k, e, z⟩ := m.pr (by simp [pnames]) (P := pTo "__str1__") (by simp [prmP]) z
    obtain ⟨k2, e', f2, e2, z⟩ := m.pr (by simp [pnames]) (P := pOb "Program" "Program.__str__") (by simp [prmP]) z
    cases e2
    exact ⟨k2, _, by omega, m.spc (a k2 (by omega)) (s := "__str__") (by simp [msn]) z, z⟩
  bool := fun c fs' Q E z => by
    obtain ⟨k, e, z⟩ := m.pr (by simp [pnames]) (P := pTo "__bool1__") (by simp [prmP]) z
    obtain ⟨k2, e', z⟩ := m.pr (by simp [pnames]) (P := pTo "__bool2__") (by simp [prmP]) z
    obtain ⟨k3, e'', f2, e2, z⟩ := m.pr (by simp [pnames]) (P := pOb "Program" "Program.__len__") (by simp [prmP]) z
    cases e2
    exact ⟨k3, _, by omega, m.nb, m.spc (a k3 (by omega)) (s := "__len__") (by simp [msn]) z, z⟩
theorem Pr.obe (m : Pr p G sub g fs l es fd XT adB fdB fdI sf x0 x1 x2 nI bI) {n : Nat} (a : ∀ k, k ≤ n → m.A k) : ObE p G (CW G fs l) n where
  eq := fun dx dy Q E z => by
    obtain ⟨k, e, f1, f2, e2, hs, z⟩ := m.pr (by simp [pnames]) (P := pEq "Program" "Program.__eq__") (by simp [prmP]) z
    cases e2
    rcases m.eqs with ⟨h1, h2⟩ | ⟨e', he, e1, e2, e3, e4, e5, e6, e7⟩
    · exact (cw_none h1 h2 z).elim
    · refine ⟨k, _, _, _, e, rfl, hs, ⟨⟨e'.d.ad G.K, fd e', e'.ps, ?_, m.pm.bd e' he, e2, e3, e4⟩, e5, e6, e7⟩, z⟩
      rw [← e1]
      exact (a k (by omega)).defs e' he
end
end
end En
/-! En31: the program's names at each level, by induction. -/
namespace En
open PySem L2 PyProof.Rows
section
variable {p : Pg} {G : Cfg} {sub : Sub} {g : Gi} {fs : List (Str × Fn)} {l : List (Str × Prim)} {es : List Fe} {fd : Fe → FuncData} {XT : Nat → Prop} {adB : Addr} {fdB fdI : FuncData} {sf x0 x1 x2 : Str} {nI : List Str} {bI : Sms}
theorem Pr.len3 (m : Pr p G sub g fs l es fd XT adB fdB fdI sf x0 x1 x2 nI bI) {k : Nat} {ds : List D} {Q : Rv → Prop} {E : XP} (z : CW G fs l k "Program" ds Q E) : ds.length = 3 := by
  obtain ⟨j, e, z⟩ := m.pr (by simp [pnames]) (P := pTo "Program.__init__") (by simp [prmP]) z
  obtain ⟨j2, e2, z⟩ := m.pr (by simp [pnames]) (P := pIn G.B "Program" nI.length bI) (by simp [prmP]) z
  exact z.1
theorem Pr.clsK (m : Pr p G sub g fs l es fd XT adB fdB fdI sf x0 x1 x2 nI bI) {k : Nat} (a : ∀ j, j ≤ k → m.A j) {ks : List Str} {n : Nat} {pm : List Nat} (hb : KBs G.K fdI [sf, x0, x1, x2] 1 ks n pm) : CalK p G (CW G fs l k) k (.ref (He.ga G.K "Program")) "Program" ks n pm := by
  have two : ∀ {ds : List D} {Q : Rv → Prop} {E : XP}, CW G fs l k "Program" ds Q E → ∃ j, k = j + 2 ∧ initW G.B (CW G fs l j) "Program" nI.length bI ds Q E := fun {ds Q E} z => by
    obtain ⟨j, e, z⟩ := m.pr (by simp [pnames]) (P := pTo "Program.__init__") (by simp [prmP]) z
    obtain ⟨j2, e2, z⟩ := m.pr (by simp [pnames]) (P := pIn G.B "Program" nI.length bI) (by simp [prmP]) z
    exact ⟨j2, by omega, z⟩
  match k with
  | 0 =>
    intro X W pins σ H s Q us ws vs zs ds es' ok I r rz l1 l2 rd re tb h
    obtain ⟨j, e, _⟩ := two h
    omega
  | 1 =>
    intro X W pins σ H s Q us ws vs zs ds es' ok I r rz l1 l2 rd re tb h
    obtain ⟨j, e, _⟩ := two h
    omega
  | k + 2 =>
    have F : InK p G fs l (He.ma G.K (He.ga G.K "Program") "__init__") fdI [sf, x0, x1, x2] nI.length bI (k + 1) := (a (k + 1) (by omega)).ini
    exact cal_clsK m.mkC F rfl (fun ds Q E z => by
      obtain ⟨j, e, z2⟩ := two z
      have e : j = k := by omega
      subst e
      exact z2) hb
theorem fs_len {k : Nat} {f : Str} {F : Fn} (hf : fs.lookup f = some F) : ∀ (ds : List D) (Q : Rv → Prop) (E : XP), CW G fs l k f ds Q E → ds.length = F.ps := fun ds Q E z => callW_len (G := G) hf z
/-- defs that change lists of the caller, at level k -/
def IoAt (p : Pg) (G : Cfg) (g : Gi) (C : Call) (k : Nat) : Prop := ∀ e ∈ g.ios, ∃ f fd ps, p.mg e.1 = some (.ref f) ∧ PySem.W.keepIn G.K (.ref f) = true ∧ FnI p G C k f fd ps e.2 e.1 ∧ (∀ ds Q E, C e.1 ds Q E → ds.length = ps.length) ∧ Binds G.K fd ps []
/-- the names at level k -/
theorem Pr.lv0 (m : Pr p G sub g fs l es fd XT adB fdB fdI sf x0 x1 x2 nI bI) {k : Nat} (a : ∀ j, j ≤ k → m.A j) (hio : IoAt p G g (CW G fs l k) k) : Lv p G sub g (CW G fs l k) k where
  io := hio
  fn := fun f hf => by
    rcases m.pm.fn f hf with e | e | ⟨e, he, e1, e2⟩ | ⟨e, he, e1, e2, hM, e4⟩ | ⟨u, e1, e2, e3⟩
    · subst e
      exact ⟨_, m.mgP, m.mkC.kp, (m.clsK a m.kwP).pos fun ds Q E z => m.len3 z⟩
    · subst e
      refine ⟨_, m.mgB, m.kpB, cal_def (a k (Nat.le_refl _)).bp (fun ds Q E z => ?_) m.bdB⟩
      obtain ⟨j, e, z⟩ := m.pr (by simp [pnames]) (P := pBp) (by simp [prmP]) z
      obtain ⟨ls, e, _⟩ := z
      rw [e]
      rfl
    · refine ⟨_, e2, (m.pm.ok e he).F.kp, ?_⟩
      rw [← e1]
      exact cal_def ((a k (Nat.le_refl _)).defs e he) (fun ds Q E z => fs_len (m.pm.fs e he) ds Q E z) (m.pm.bd e he)
    · refine ⟨_, e4, hM.kp, ?_⟩
      cases k with
      | zero =>
        intro X W pins σ H s Q us vs ds ok I r rd tb h
        obtain ⟨j, ej, _⟩ := cw_prim (G := G) e1 e2 h
        omega
      | succ j =>
        exact cal_clsR m.pm.fl (m.pm.hC j) hM ((a j (by omega)).defs e he) (fun ds Q E z => fs_len (m.pm.fs e he) ds Q E z) (m.pm.bd e he) rfl fun ds Q E z => by
          obtain ⟨j', ej, z2⟩ := cw_prim (G := G) e1 e2 z
          have ej : j' = j := by omega
          subst ej
          exact z2
    · exact ⟨u, e1, e2, e3 k (a k (Nat.le_refl _)).xt⟩
  kw := fun e he => by
    rcases m.kwI e he with ⟨e1, ks, e2, hb⟩ | ⟨e', he', e1, e2, ks, e3, hb⟩
    · exact ⟨_, ks, e2, by rw [e1]; exact m.mgP, m.mkC.kp, by rw [e1]; exact m.clsK a hb⟩
    · refine ⟨_, ks, e3, e2, (m.pm.ok e' he').F.kp, ?_⟩
      rw [← e1]
      exact cal_defK ((a k (Nat.le_refl _)).defs e' he') (fun ds Q E z => fs_len (m.pm.fs e' he') ds Q E z) hb
  mcl := fun mm key h => by
    obtain ⟨e, he, e1, h1⟩ := m.mcl mm key h
    refine ⟨e.d.ad G.K, h1, ?_⟩
    rw [← e1]
    exact cal_defc ((a k (Nat.le_refl _)).defs e he) (fun ds Q E z => fs_len (m.pm.fs e he) ds Q E z) (m.pm.bd e he)
  mck := fun e' he' key h => by
    obtain ⟨e, he, e1, h1, ks, e2, h3⟩ := m.mkw e' he' key h
    refine ⟨e.d.ad G.K, ks, e2, h1, ?_⟩
    rw [← e1]
    exact cal_defKc ((a k (Nat.le_refl _)).defs e he) (fun ds Q E z => fs_len (m.pm.fs e he) ds Q E z) h3
  att := fun f key h X W o io pos ok ho hs => by
    obtain ⟨e, h⟩ := m.att f key h
    subst e
    rcases h with ⟨i, hi⟩ | ⟨hp, e, he, e1, e2, e3⟩
    · refine att_slot m.pm.hB (m.pm.hC k) ok m.pm.slots (fun d Q E z => ?_) ho hs
      have hc : key = "own_branches" ∧ i = 0 ∨ key = "own_names" ∧ i = 1 ∨ key = "own_sayings" ∧ i = 2 := by
        match i, hi with
        | 0, hi => exact .inl ⟨(Option.some.inj hi).symm, rfl⟩
        | 1, hi => exact .inr (.inl ⟨(Option.some.inj hi).symm, rfl⟩)
        | 2, hi => exact .inr (.inr ⟨(Option.some.inj hi).symm, rfl⟩)
        | i + 3, hi => simp [progSl] at hi
      rcases hc with ⟨rfl, rfl⟩ | ⟨rfl, rfl⟩ | ⟨rfl, rfl⟩
      · obtain ⟨j, _, fs', x, e, hx, q⟩ := m.pr (by simp [pnames]) (P := pSl "Program" 0) (by simp [prmP]) z
        exact ⟨fs', 0, x, List.head_eq_of_cons_eq e, rfl, hx, q⟩
      · obtain ⟨j, _, fs', x, e, hx, q⟩ := m.pr (by simp [pnames]) (P := pSl "Program" 1) (by simp [prmP]) z
        exact ⟨fs', 1, x, List.head_eq_of_cons_eq e, rfl, hx, q⟩
      · obtain ⟨j, _, fs', x, e, hx, q⟩ := m.pr (by simp [pnames]) (P := pSl "Program" 2) (by simp [prmP]) z
        exact ⟨fs', 2, x, List.head_eq_of_cons_eq e, rfl, hx, q⟩
    · have key' : ∀ (d : D) (Q : Rv → Prop) (E : XP), CW G fs l k key [d] Q E → ∃ j fs', k = j + 1 ∧ d = .obj "Program" fs' ∧ CW G fs l j (("Program." : Str) ++ key) [d] Q E0 := fun d Q E z => by
        simp only [progPr, List.mem_cons, List.not_mem_nil, or_false] at hp
        rcases hp with rfl | rfl | rfl | rfl | rfl
        · obtain ⟨j, ej, fs', e, q⟩ := m.pr (by simp [pnames]) (P := pPr "Program" "Program.names") (by simp [prmP]) z
          exact ⟨j, fs', ej, List.head_eq_of_cons_eq e, q⟩
        · obtain ⟨j, ej, fs', e, q⟩ := m.pr (by simp [pnames]) (P := pPr "Program" "Program.sayings") (by simp [prmP]) z
          exact ⟨j, fs', ej, List.head_eq_of_cons_eq e, q⟩
        · obtain ⟨j, ej, fs', e, q⟩ := m.pr (by simp [pnames]) (P := pPr "Program" "Program.branches") (by simp [prmP]) z
          exact ⟨j, fs', ej, List.head_eq_of_cons_eq e, q⟩
        · obtain ⟨j, ej, fs', e, q⟩ := m.pr (by simp [pnames]) (P := pPr "Program" "Program.places") (by simp [prmP]) z
          exact ⟨j, fs', ej, List.head_eq_of_cons_eq e, q⟩
        · obtain ⟨j, ej, fs', e, q⟩ := m.pr (by simp [pnames]) (P := pPr "Program" "Program.text") (by simp [prmP]) z
          exact ⟨j, fs', ej, List.head_eq_of_cons_eq e, q⟩
      match k, a, ok, ho, key' with
      | 0, a, ok, ho, key' =>
        refine ⟨fun pins s σ H Q I ⟨r, re, tb, z⟩ => ?_⟩
        have hf : rdV G (CW G fs l 0) W io σ H fun _ _ => False := v_bind m.pm.hB (m.pm.hC 0) re tb (LamX.ExtN.refl H) z fun d v H1 rd x1 t1 z1 => by
          obtain ⟨j, _, e, _⟩ := key' _ _ _ z1
          omega
        refine attr_of (attrBase_ok hs) (thn (ho.run pins s σ H _ I hf) fun u s1 ⟨_, _, _, _, z⟩ => z.elim)
      | j + 1, a, ok, ho, key' =>
        have F := (a j (Nat.le_succ j)).defs e he
        rw [e1] at F
        exact att_prop m.pm.hB (m.pm.hC (j + 1)) ok m.pm.slots.cls e3 m.pm.fl e2 F (m.pm.bd e he) (fun d Q E z => by
          obtain ⟨j', fs', ej, e, q⟩ := key' d Q E z
          have ej : j' = j := by omega
          subst ej
          exact ⟨fs', e, q⟩) (m.pm.hC j) ho hs
  lam := LamOk.nil m.pm.ans
  isx := fun c hc => m.pm.exs c hc k (a k (Nat.le_refl _)).xt
  eqo := fun X W ok => ob_eqo m.pm.fl (fun k => m.pm.hC k) (m.obe a) ok
  ob := fun X W ok b f hf => ob_all m.pm.fl (fun k => m.pm.hC k) (m.obx a) ok hf
theorem Pr.err (m : Pr p G sub g fs l es fd XT adB fdB fdI sf x0 x1 x2 nI bI) (k : Nat) : ErrOk p G g (CW G fs l k) k := fun X E ok c hc hg ho args is q pos ha hst hnil => by
  obtain ⟨f, ec, h1, h2⟩ := m.pm.err c hc
  refine err_mk m.pm.fl ec (fun ds Q E z => ?_) (fun Q z => ?_) m.pm.hB (m.pm.hC k) ok hg ho ha hst hnil
  · obtain ⟨j, _, z⟩ := cw_prim h1 h2 z
    exact z
  · obtain ⟨j, e1, z⟩ := m.pr (f := "!lv") (by simp [pnames]) (P := pTo "!lv1") (by simp [prmP]) z
    have z : CW G fs l j "!lv1" [] Q E0 := z
    obtain ⟨j', e2, z⟩ := m.pr (f := "!lv1") (by simp [pnames]) (P := pOk) (by simp [prmP]) z
    exact ⟨j', by omega⟩
theorem Pr.ioAt (m : Pr p G sub g fs l es fd XT adB fdB fdI sf x0 x1 x2 nI bI) : ∀ k, (∀ j, j ≤ k → m.A j) → IoAt p G g (CW G fs l k) k
  | 0, _ => fun e he => by
    obtain ⟨d, h1, h2, h3, h4, h5, h6, h7⟩ := m.pm.io e he
    exact ⟨_, _, _, h5, h2.F.kp, fun A outer s H args us vs Q E _ _ _ _ _ _ ⟨_, _, _, _, _, z⟩ => z.elim, fun ds Q E z => z.elim, h3⟩
  | k + 1, a => fun e he => by
    obtain ⟨d, h1, h2, h3, h4, h5, h6, h7⟩ := m.pm.io e he
    have kn := kn_of (m.pm.hC k) m.pm.ct (m.lv0 (fun j hj => a j (by omega)) (Pr.ioAt m k fun j hj => a j (by omega)))
    refine ⟨_, _, _, h5, h2.F.kp, fn_compI kn (m.err k) h2.F h2.S h2.c (LmV.nil m.pm.lq) fun ds Q E z => ?_, fun ds Q E z => ?_, h3⟩
    · obtain ⟨j, ej, _, zz⟩ := cw_prim (G := G) h6 h7 z
      have ej : j = k := by omega
      subst ej
      exact zz
    · obtain ⟨j, ej, hl, _⟩ := cw_prim (G := G) h6 h7 z
      rw [hl, h4]
theorem Pr.lv (m : Pr p G sub g fs l es fd XT adB fdB fdI sf x0 x1 x2 nI bI) {k : Nat} (a : ∀ j, j ≤ k → m.A j) : Lv p G sub g (CW G fs l k) k := m.lv0 a (m.ioAt k a)
theorem Pr.kn (m : Pr p G sub g fs l es fd XT adB fdB fdI sf x0 x1 x2 nI bI) {k : Nat} (a : ∀ j, j ≤ k → m.A j) : Kn g G (CW G fs l k) (OkX p G k) := kn_of (m.pm.hC k) m.pm.ct (m.lv a)
theorem Pr.step (m : Pr p G sub g fs l es fd XT adB fdB fdI sf x0 x1 x2 nI bI) {k : Nat} (a : ∀ j, j ≤ k → m.A j) : m.A (k + 1) where
  defs := fun e he => by
    have o := m.pm.ok e he
    refine fn_comp (m.kn a) (m.err k) o.F o.S o.c (LmV.nil m.pm.lq) fun ds Q E z => ?_
    have z : callW G.B fs (primOf l) (k + 1) e.nm ds Q E := z
    unfold callW at z
    rw [m.pm.fs e he] at z
    exact z.2
  bp := m.bp _ k fun ds Q E z => by
    obtain ⟨j, _, z⟩ := m.pr (by simp [pnames]) (P := pBp) (by simp [prmP]) z
    exact z
  ini := m.ini k (m.kn a) (m.err k)
  xt := m.xts k (m.kn a) (m.err k) (a k (Nat.le_refl _)).xt
theorem Pr.all (m : Pr p G sub g fs l es fd XT adB fdB fdI sf x0 x1 x2 nI bI) (k : Nat) : ∀ j, j ≤ k → m.A j := by
  induction k with
  | zero =>
    intro j hj
    have : j = 0 := by omega
    subst this
    exact ⟨fun e _ A outer s H args us vs ds Q E _ _ _ _ _ _ _ _ z => z.elim, fun A outer s H args us vs ds Q E _ _ _ _ _ _ _ _ z => z.elim, trivial, m.xt0⟩
  | succ k ih =>
    intro j hj
    rcases Nat.lt_or_ge j (k + 1) with h | h
    · exact ih j (by omega)
    · have : j = k + 1 := by omega
      subst this
      exact m.step ih
end
end En
/-! En32: the law's end; the law's own defs. -/
namespace En
open PySem L2 PyProof.Rows
theorem intsRD {K : PySem.W.Frag} {H : Hp} : ∀ ns : List Int, RDs K H (ns.map D.int) (ns.map V.int)
  | [] => .nil
  | n :: ns => .cons (.int n) (intsRD ns)
/-- the law called with the script; its promise told of data; cs: code objects and their tables -/
theorem law_G {P : Program} {w : World} {mg mb : Str → Option Value} {k : Nat} {fa a : Addr} {fd : FuncData} {x nm : Str} {G : Cfg} {C : Call} {s1 : Shared} {vs : List Value} {ns : List Int} {lq : Bool} {cs : List (Addr × Addr)} (hT : ∀ q ∈ G.T, ∃ t ∈ cs, q.1 = t.2)
    (kx : G.K.In s1.heap) (gn : s1.heap.Ns mainGlobals mg) (bn : s1.heap.Ns builtinsNs mb) (bb : ∀ x : Str, x ≠ "__name__" → mb x = bootBuiltins x) (lim : s1.heap.NoLimit) (g0 : s1.gens = #[])
    (tE : ∀ t ∈ cs, s1.heap.get? t.2 = some { cls := .none, data := .fields #[] }) (tK : ∀ t ∈ cs, G.K.lookup t.2 = none) (tC : ∀ t ∈ cs, PySem.W.CodeHd s1.heap t.1 t.2)
    (tB : cs ≠ [] → ∃ (bm : Addr) (ob : Obj), mg "__builtins__" = some (.ref bm) ∧ bm ≠ builtinsNs ∧ s1.heap.get? bm = some ob ∧ ob.cls = .type "module" ∧ ob.dict = some builtinsNs ∧ ob.data = .plain)
    (ha : s1.heap.get? a = some { cls := .type "list", data := .seq vs.toArray }) (hi : IntsAre vs ns) (hl : ns.length ≤ sizeLine) (room : Room k callerA)
    (F : ∀ base : Heap, G.K.In base → base.Ns mainGlobals mg → (∀ t ∈ cs, LamX.TabB base mg t.1 t.2) → FnG ⟨P, w, mg, base, true, lq⟩ G C k fa fd [x] nm) (bd : ∀ (s : Shared) (u : Value), BindsTo s fd ⟨[u], []⟩ [(x, u)])
    (hC : ∀ Q : Rv → Prop, Q (.v (.bl true)) → C nm [.lst (ns.map D.int)] Q E0) (mC : MonoC C) :
    codeAny (model P w) callerA (.call (.ref fa) ⟨[.ref a], []⟩) (fun r s' => r = .ok (.ret (.bool true)) ∧ OldK s1.heap s'.heap ∧ s'.os = s1.os ∧ AllBare s'.gens) s1 := by
  have rv := vals_ints hi
  have tabOf : ∀ {b : Addr}, b ∈ cs.map (·.2) → s1.heap.get? b = some { cls := .none, data := .fields #[] } := by
    intro b hb
    obtain ⟨t, ht, e⟩ := List.mem_map.mp hb
    rw [← e]
    exact tE t ht
  have anT : a ∉ cs.map (·.2) := by
    intro z
    have q := tabOf z
    rw [ha] at q
    injection q with q
    injection q with _ _ q
    cases q
  -- H: what is tracked at the call, the script and the tables at most
  have main : ∀ H : Hp, (∀ b, H b ≠ none → (b = a ∧ ∃ o xs, H b = some (.frz o (.lst xs))) ∨ b ∈ cs.map (·.2)) → (∀ b ∈ cs.map (·.2), H b = some (.tbl #[])) → FzL G.K H a (ns.map V.int) → HOk P w H s1.heap → (H a ≠ none → G.K.lookup a = none) →
      codeAny (model P w) callerA (.call (.ref fa) ⟨[.ref a], []⟩) (fun r s' => r = .ok (.ret (.bool true)) ∧ OldK s1.heap s'.heap ∧ s'.os = s1.os ∧ AllBare s'.gens) s1 := by
    intro H only tabs hS hok out
    have free : ∀ {b : Addr} {o : Obj}, s1.heap.get? b = some o → (∀ vs n, o.data ≠ .seq vs n) → o.data ≠ .fields #[] → H b = none := by
      intro b o hb h1 h2
      by_cases hn : H b = none
      · exact hn
      · rcases only b hn with ⟨e, _⟩ | e
        · rw [e, ha] at hb
          cases hb
          exact absurd rfl (h1 _ _)
        · rw [tabOf e] at hb
          cases hb
          exact absurd rfl h2
    have dictFree : ∀ {b : Addr} {o : Obj} {es : Array DictEntry} {ep : Nat}, s1.heap.get? b = some o → o.data = .dict es ep → H b = none := by
      intro b o es ep hb hd
      refine free hb (fun vs n z => ?_) fun z => ?_ <;> · rw [hd] at z; cases z
    have nsOf : ∀ {b : Addr} {m : Str → Option Value}, s1.heap.Ns b m → (hidT s1.heap H).Ns b m := by
      rintro b m ⟨o, es, ep, hb, hd, rest⟩
      exact ⟨o, es, ep, hidT_get hb (dictFree hb hd), hd, rest⟩
    have kb : G.K.In (hidT s1.heap H) := by
      intro b o hb
      refine hidT_get (kx b o hb) ?_
      by_cases hn : H b = none
      · exact hn
      · rcases only b hn with ⟨e, _⟩ | e
        · subst e
          rw [out hn] at hb
          cases hb
        · obtain ⟨t, ht, e⟩ := List.mem_map.mp e
          rw [← e, tK t ht] at hb
          cases hb
    have TB : ∀ t ∈ cs, LamX.TabB (hidT s1.heap H) mg t.1 t.2 := by
      intro t ht
      have hTp := tE t ht
      refine ⟨?_, ?_, fun z => ?_⟩
      · obtain ⟨o, us, file, tf, flags, tg, inF, text, tt, e1, r1, r2, r3, r4, r5, r6, r7, r8, hne⟩ := tC t ht
        refine ⟨o, us, file, tf, flags, tg, inF, text, tt, hidT_get e1 (free e1 (fun vs n z => ?_) fun z => ?_), r1, r2, r3, r4, r5, r6, r7, r8, hne⟩
        · rw [r2] at z
          cases z
        · rw [r2] at z
          injection z with z
          rw [z] at r3
          simp at r3
      · obtain ⟨bm, ob, b1, b2, b3, b4, b5, b6⟩ := tB fun z => by rw [z] at ht; cases ht
        have nG : bm ≠ mainGlobals := fun q => by
          obtain ⟨o, es, ep, e, hd, _⟩ := gn
          rw [q, e] at b3
          cases b3
          rw [hd] at b6
          cases b6
        have nP : bm ≠ t.2 := fun q => by
          rw [q, hTp] at b3
          cases b3
          cases b6
        refine ⟨bm, ob, b1, b2, nG, nP, hidT_get b3 (free b3 (fun vs n z => ?_) fun z => ?_), b4, b5, b6⟩ <;> · rw [b6] at z; cases z
      · obtain ⟨o, es, ep, e, hd, _⟩ := gn
        rw [z, hTp] at e
        cases e
        cases hd
    obtain ⟨mc, lim1, lim2⟩ := lim
    have env : Env0 P w G.K mg (hidT s1.heap H) callerA [] s1 H :=
      ⟨rfl, ⟨kb, nsOf gn, ⟨mb, nsOf bn, bb⟩, ⟨mc, nsOf lim1, lim2⟩⟩, fun b o hb => of_hidT hb, Nat.le_of_eq (hidT_size _ _), trivial, (fun b hb => by cases hb), hok, AllBare.of_eq g0⟩
    have tb : Tb G H := by
      intro q hq
      obtain ⟨t, ht, e⟩ := hT q hq
      refine LamX.TabS.nil ?_
      rw [e]
      exact tabs _ (List.mem_map.mpr ⟨t, ht, rfl⟩)
    have run := F _ kb (nsOf gn) TB callerA [] s1 H ⟨[.ref a], []⟩ [.ref a] [.ref a] [.lst (ns.map D.int)] (fun v _ => v = .bl true) (fun _ _ _ => False) room (fun _ => rfl) env (bd s1 (.ref a)) (.cons rfl .nil) (.cons (.lst hS (intsRD ns)) .nil) tb rfl
      (mC _ _ _ _ _ _ (fun _ z => z) (fun _ _ z => z.elim) (hC (qS G (fun v _ => v = .bl true) H) fun v H' rr _ _ => by cases (show RD G.K H' (.bl true) v from rr); rfl))
    refine codeAny_mono run ?_
    intro res s' h
    rcases res with e | fl
    · obtain ⟨_, _, _, _, _, _, _, _, _, _, _, _, z⟩ := h
      exact z.elim
    · cases fl with
      | ret u =>
        obtain ⟨v, H', hos, bare, un, hok', ru, ev⟩ := h
        cases (show v = .bl true from ev)
        cases (show u = Value.bool true from ru)
        have kept : ∀ b o, b ∉ cs.map (·.2) → s1.heap.get? b = some o → s'.heap.get? b = some o := by
          intro b o nb hb
          by_cases hn : H b = none
          · exact un.keep b o hb hn (by intro z; cases z) (by simp)
          · rcases only b hn with ⟨_, ob, xs, hz⟩ | e
            · obtain ⟨before, _⟩ := hok b _ hz
              obtain ⟨after, _⟩ := hok' b _ (un.frzs b ob _ hz)
              rw [before] at hb
              cases hb
              exact after
            · exact absurd e nb
        have grown : ∀ t ∈ cs, ∃ more : Array Value, s'.heap.get? t.2 = some { cls := .none, data := .fields more } := by
          intro t ht
          obtain ⟨more, z⟩ := un.tbls t.2 #[] (tabs _ (List.mem_map.mpr ⟨t, ht, rfl⟩))
          exact ⟨_, hok' t.2 _ z⟩
        refine ⟨rfl, ⟨fun b o e => ?_, fun b o e => ?_⟩, hos, bare⟩
        · by_cases hb : b ∈ cs.map (·.2)
          · obtain ⟨t, ht, et⟩ := List.mem_map.mp hb
            obtain ⟨more, hm⟩ := grown t ht
            rw [← et] at e ⊢
            rw [tE t ht] at e
            cases e
            exact .inr (.inl ⟨((tC t ht).tab (tE t ht)).isCodeTable, rfl, #[], more, rfl, by rw [Array.empty_append]; exact hm⟩)
          · exact .inl (kept b o hb e)
        · by_cases hb : b ∈ cs.map (·.2)
          · obtain ⟨t, ht, et⟩ := List.mem_map.mp hb
            obtain ⟨more, hm⟩ := grown t ht
            rw [← et]
            exact ⟨_, hm⟩
          · exact ⟨o, kept b o hb e⟩
      | _ => exact False.elim h
  by_cases hk : ∃ o, G.K.lookup a = some o
  · obtain ⟨o, hk⟩ := hk
    have e := kx a o hk
    rw [ha] at e
    cases e
    refine main (fun b => if b ∈ cs.map (·.2) then some (.tbl #[]) else none) (fun b z => ?_) (fun b hb => if_pos hb) (.inr ⟨vs, _, hk, by rw [hi.length]; exact hl, rv⟩) (fun b u z => ?_) fun z => absurd (if_neg anT) z
    · by_cases hb : b ∈ cs.map (·.2)
      · exact .inr hb
      · exact absurd (if_neg hb) z
    · by_cases hb : b ∈ cs.map (·.2)
      · have z := (if_pos hb).symm.trans z
        cases z
        exact tabOf hb
      · have z := (if_neg hb).symm.trans z
        cases z
  · have hk : G.K.lookup a = none := by
      cases e : G.K.lookup a with
      | none => rfl
      | some o => exact absurd ⟨o, e⟩ hk
    refine main (upd (fun b => if b ∈ cs.map (·.2) then some (.tbl #[]) else none) a (.frz { cls := .type "list", data := .seq vs.toArray } (.lst (ns.map V.int)))) (fun b z => ?_) (fun b hb => ?_) (.inl ⟨_, upd_same⟩) (fun b u z => ?_) fun _ => hk
    · by_cases e : b = a
      · subst e
        exact .inl ⟨rfl, _, _, upd_same⟩
      · rw [upd_ne e] at z
        by_cases hb : b ∈ cs.map (·.2)
        · exact .inr hb
        · exact absurd (if_neg hb) z
    · rw [upd_ne (fun z => anT (by rw [← z]; exact hb))]
      exact if_pos hb
    · by_cases e : b = a
      · subst e
        rw [upd_same] at z
        cases z
        exact ⟨ha, by rw [List.length_map]; exact hl, vs, _, rv, ha⟩
      · rw [upd_ne e] at z
        by_cases hb : b ∈ cs.map (·.2)
        · have z := (if_pos hb).symm.trans z
          cases z
          exact tabOf hb
        · have z := (if_neg hb).symm.trans z
          cases z
end En
/-! En33: the law's own defs at all levels. -/
namespace En
open PySem L2 PyProof.Rows
/-- the pail of a turn is made -/
def begW (wb : Bool) (ds : List D) (Q : Rv → Prop) : Prop := ∃ (ns : List Int) (t : Int), ds = [.lst (ns.map D.int), .int t] ∧ 0 ≤ t ∧ t < 64 ∧ ns.length ≤ 63 ∧ (∀ n ∈ ns, Builtin.Int.intBits n ≤ 1048576) ∧ Q (.v (.pal wb))
/-- a draw -/
def castW (wb : Bool) (ds : List D) (Q : Rv → Prop) : Prop := ∃ n : Int, ds = [.pal wb, .int n] ∧ 0 < n ∧ n < 1073741824 ∧ ∀ i : Int, 0 ≤ i → i < n → Q (.v (.int i))
def pBeg (wb : Bool) : Prim := fun _ ds Q _ => begW wb ds Q
def pCst (wb : Bool) : Prim := fun _ ds Q _ => castW wb ds Q
theorem pBeg_mono (wb : Bool) : PMono (pBeg wb) := fun C hC ds Q Q' E E' hq he ⟨ns, t, e, h1, h2, h3, h4, z⟩ => ⟨ns, t, e, h1, h2, h3, h4, hq _ z⟩
theorem pCst_mono (wb : Bool) : PMono (pCst wb) := fun C hC ds Q Q' E E' hq he ⟨n, e, h1, h2, z⟩ => ⟨n, e, h1, h2, fun i a b => hq _ (z i a b)⟩
/-- what the body of the first must do -/
def BegOk (wb : Bool) (B : Lib) (n : Nat) (b : Sms) : Prop := ∀ (C : Call) ds Q E, MonoC C → begW wb ds Q → exSs B C b { nx := fun _ => False, rt := fun x _ => ∃ i j k : Int, x = .fr [.int i, .int j, .int k] ∧ PInv wb i j ∧ Q (.v (.pal wb)) } (startD n ds) E
def CstOk (wb : Bool) (B : Lib) (n : Nat) (b : Sms) : Prop := ∀ (C : Call) (m : Int) (Q : Rv → Prop), MonoC C → 0 < m → m < 1073741824 → (∀ i : Int, 0 ≤ i → i < m → Q (.v (.int i))) → ∀ (a : Addr) (i j l : Int), PInv wb i j →
  exSs B C b { nx := fun _ => False, rt := fun x r => ∃ i j l m : Int, x = .v (.int m) ∧ r[0]? = some (some (.own [.int i, .int j, .int l] (some a))) ∧ PInv wb i j ∧ Q (.v (.int m)) } (startP a i j l m n) E0
/-- what is known of the program at all levels -/
structure Pq (p : Pg) (G : Cfg) (sub : Sub) (g : Gi) (fs : List (Str × Fn)) (l : List (Str × Prim)) : Prop where
  hC : ∀ k, MonoC (CW G fs l k)
  lv : ∀ k, Lv p G sub g (CW G fs l k) k
/-- the same without lambdas -/
def Pg.noL (p : Pg) : Pg := { p with lq := false }
structure Lw (p : Pg) (G : Cfg) (sub : Sub) (g g' : Gi) (fs : List (Str × Fn)) (l : List (Str × Prim)) (esL : List Fe) (fdL : Fe → FuncData) (eB eC : Fe) (fdBg fdCs : FuncData) (wb : Bool) (nB nC p0 p1 : Str) : Prop where
  ct : Ct p G sub g'
  err : g'.err = []
  ios : g'.ios = []
  lmd : ∀ e ∈ esL, (FeOk G g' e (fdL e) ∧ LmV p G (e.d.qual ++ ".<locals>.") (fdL e).code) ∨ FeOk G g'.noA e (fdL e)
  lam : ∀ k, (∀ j, k = j + 2 → Kn g'.noA G (CW G fs l j) (OkX p.noL G j)) → LamOk p G g' (CW G fs l k) k
  bd : ∀ e ∈ esL, Binds G.K (fdL e) e.ps []
  fl : ∀ e ∈ esL, fs.lookup e.nm = some e.fn
  okB : FeOk G g'.noA eB fdBg
  bdB : Binds G.K fdBg eB.ps []
  psB : eB.ps.length = 2
  nmB : eB.nm = nB
  noB : fs.lookup nB = none
  lB : l.lookup nB = some (pBeg wb)
  beg : BegOk wb G.B eB.N.length eB.b
  okC : FeOk G g'.noA eC fdCs
  bdC : Binds G.K fdCs eC.ps []
  psC : eC.ps = [p0, p1]
  nmC : eC.nm = nC
  noC : fs.lookup nC = none
  lC : l.lookup nC = some (pCst wb)
  cst : CstOk wb G.B eC.N.length eC.b
  fn : ∀ f ∈ g'.fns, f ∈ g.fns ∨ ∃ e ∈ eB :: eC :: esL, e.nm = f ∧ p.mg f = some (.ref (e.d.ad G.K))
  kw : ∀ e ∈ g'.kws, e ∈ g.kws
  mcl : g'.mcl = g.mcl
  mkw : g'.mkw = g.mkw
  att : g'.att = g.att
  exs : ∀ c ∈ g'.exs, c ∈ g.exs := by intro c h; exact (List.not_mem_nil h).elim
structure Al (p : Pg) (G : Cfg) (fs : List (Str × Fn)) (l : List (Str × Prim)) (esL : List Fe) (fdL : Fe → FuncData) (eB eC : Fe) (fdBg fdCs : FuncData) (k : Nat) : Prop where
  defs : ∀ e ∈ esL, FnG p G (CW G fs l k) k (e.d.ad G.K) (fdL e) e.ps e.nm
  beg : FnG p G (CW G fs l k) k (eB.d.ad G.K) fdBg eB.ps eB.nm
  cst : FnG p G (CW G fs l k) k (eC.d.ad G.K) fdCs eC.ps eC.nm
section
variable {p : Pg} {G : Cfg} {sub : Sub} {g g' : Gi} {fs : List (Str × Fn)} {l : List (Str × Prim)} {esL : List Fe} {fdL : Fe → FuncData} {eB eC : Fe} {fdBg fdCs : FuncData} {wb : Bool} {nB nC p0 p1 : Str}
theorem Lw.lenB (w : Lw p G sub g g' fs l esL fdL eB eC fdBg fdCs wb nB nC p0 p1) {k : Nat} {ds : List D} {Q : Rv → Prop} {E : XP} (z : CW G fs l k eB.nm ds Q E) : begW wb ds Q := by
  rw [w.nmB] at z
  obtain ⟨j, _, z⟩ := cw_prim w.noB w.lB z
  exact z
theorem Lw.lenC (w : Lw p G sub g g' fs l esL fdL eB eC fdBg fdCs wb nB nC p0 p1) {k : Nat} {ds : List D} {Q : Rv → Prop} {E : XP} (z : CW G fs l k eC.nm ds Q E) : castW wb ds Q := by
  rw [w.nmC] at z
  obtain ⟨j, _, z⟩ := cw_prim w.noC w.lC z
  exact z
theorem Lw.kp (w : Lw p G sub g g' fs l esL fdL eB eC fdBg fdCs wb nB nC p0 p1) {e : Fe} (he : e ∈ esL) : PySem.W.keepIn G.K (.ref (e.d.ad G.K)) = true := by
  rcases w.lmd e he with ⟨o, _⟩ | o
  · exact o.F.kp
  · exact o.F.kp
theorem Lw.fnc (w : Lw p G sub g g' fs l esL fdL eB eC fdBg fdCs wb nB nC p0 p1) {k : Nat} (a : Al p G fs l esL fdL eB eC fdBg fdCs k) : ∀ f ∈ g'.fns, f ∈ g.fns ∨ ∃ u, p.mg f = some u ∧ PySem.W.keepIn G.K u = true ∧ CalP p G (CW G fs l k) k u f := fun f hf => by
  rcases w.fn f hf with z | ⟨e, he, e1, e2⟩
  · exact .inl z
  · refine .inr ⟨_, e2, ?_⟩
    rcases List.mem_cons.mp he with rfl | he
    · refine ⟨w.okB.F.kp, ?_⟩
      rw [← e1]
      refine cal_def a.beg (fun ds Q E z => ?_) w.bdB
      obtain ⟨ns, t, e, _⟩ := w.lenB z
      rw [e, w.psB]
      rfl
    · rcases List.mem_cons.mp he with rfl | he
      · refine ⟨w.okC.F.kp, ?_⟩
        rw [← e1]
        refine cal_def a.cst (fun ds Q E z => ?_) w.bdC
        obtain ⟨n, e, _⟩ := w.lenC z
        rw [e, w.psC]
        rfl
      · refine ⟨w.kp he, ?_⟩
        rw [← e1]
        exact cal_def (a.defs e he) (fun ds Q E z => fs_len (w.fl e he) ds Q E z) (w.bd e he)
theorem Ct.noL {p : Pg} {G : Cfg} {sub : Sub} {g : Gi} (c : Ct p G sub g) : Ct p.noL G sub g.noA := ⟨c.hL, c.own, c.con, c.its, c.blt, c.rep, c.mth⟩
theorem Lw.kn0 (w : Lw p G sub g g' fs l esL fdL eB eC fdBg fdCs wb nB nC p0 p1) (m : Pq p.no G sub g fs l) {k : Nat} (a : Al p G fs l esL fdL eB eC fdBg fdCs k) : Kn g'.noA G (CW G fs l k) (OkX p.noL G k) := by
  have a' : Al p.noL G fs l esL fdL eB eC fdBg fdCs k := ⟨a.defs, a.beg, a.cst⟩
  refine kn_of (m.hC k) w.ct.noL (Lv.law (p := p.noL) (m.lv k) w.mcl w.mkw w.att (LamOk.nil rfl) w.ios w.exs (fun f hf => ?_) fun e he => .inl (w.kw e he))
  rcases w.fn f hf with z | ⟨e, he, e1, e2⟩
  · exact .inl z
  · refine .inr ⟨_, e2, ?_⟩
    rcases List.mem_cons.mp he with rfl | he
    · refine ⟨w.okB.F.kp, ?_⟩
      rw [← e1]
      refine cal_def a'.beg (fun ds Q E z => ?_) w.bdB
      obtain ⟨ns, t, e, _⟩ := w.lenB z
      rw [e, w.psB]
      rfl
    · rcases List.mem_cons.mp he with rfl | he
      · refine ⟨w.okC.F.kp, ?_⟩
        rw [← e1]
        refine cal_def a'.cst (fun ds Q E z => ?_) w.bdC
        obtain ⟨n, e, _⟩ := w.lenC z
        rw [e, w.psC]
        rfl
      · refine ⟨w.kp he, ?_⟩
        rw [← e1]
        exact cal_def (a'.defs e he) (fun ds Q E z => fs_len (w.fl e he) ds Q E z) (w.bd e he)
theorem Lw.kn (w : Lw p G sub g g' fs l esL fdL eB eC fdBg fdCs wb nB nC p0 p1) (m : Pq p.no G sub g fs l) {k : Nat} (a : ∀ j, j ≤ k → Al p G fs l esL fdL eB eC fdBg fdCs j) : Kn g' G (CW G fs l k) (OkX p G k) :=
  kn_of (m.hC k) w.ct ((m.lv k).law w.mcl w.mkw w.att (w.lam k fun j e => w.kn0 m (a j (by omega))) w.ios w.exs (w.fnc (a k (Nat.le_refl _))) fun e he => .inl (w.kw e he))
theorem Lw.step (w : Lw p G sub g g' fs l esL fdL eB eC fdBg fdCs wb nB nC p0 p1) (m : Pq p.no G sub g fs l) : ∀ k, ∀ j, j ≤ k → Al p G fs l esL fdL eB eC fdBg fdCs j
  | 0 => fun j hj => by
    have e : j = 0 := by omega
    subst e
    exact ⟨fun e _ A outer s H args us vs ds Q E _ _ _ _ _ _ _ _ z => z.elim, fun A outer s H args us vs ds Q E _ _ _ _ _ _ _ _ z => z.elim, fun A outer s H args us vs ds Q E _ _ _ _ _ _ _ _ z => z.elim⟩
  | k + 1 => fun j hj => by
    have prev := Lw.step w m k
    by_cases hjk : j ≤ k
    · exact prev j hjk
    have e : j = k + 1 := by omega
    subst e
    have kn := w.kn m prev
    have er : ErrOk p G g' (CW G fs l k) k := fun X E ok c hc => by
      rw [w.err] at hc
      cases hc
    have kn0 := w.kn0 m (prev k (Nat.le_refl _))
    have er0 : ErrOk p.noL G g'.noA (CW G fs l k) k := fun X E ok c hc => by
      have hc : c ∈ g'.err := hc
      rw [w.err] at hc
      cases hc
    refine ⟨fun e he => ?_, ?_, ?_⟩
    · rcases w.lmd e he with ⟨o, lm⟩ | o
      · refine fn_comp kn er o.F o.S o.c lm fun ds Q E z => ?_
        have z : callW G.B fs (primOf l) (k + 1) e.nm ds Q E := z
        unfold callW at z
        rw [w.fl e he] at z
        exact z.2
      · have fg : FnG p.noL G (CW G fs l (k + 1)) (k + 1) (e.d.ad G.K) (fdL e) e.ps e.nm := fn_comp kn0 er0 o.F o.S o.c (LmV.nil rfl) fun ds Q E z => by
          have z : callW G.B fs (primOf l) (k + 1) e.nm ds Q E := z
          unfold callW at z
          rw [w.fl e he] at z
          exact z.2
        exact fg
    · have fg : FnG p.noL G (CW G fs l (k + 1)) (k + 1) (eB.d.ad G.K) fdBg eB.ps eB.nm := fn_begun (wb := wb) kn0 er0 w.okB.F w.okB.S w.okB.c (LmV.nil rfl) fun ds Q E z => w.beg _ _ _ _ (m.hC k) (w.lenB z)
      exact fg
    · have S := w.okC.S
      have hps := w.psC
      rw [hps] at S
      rw [hps]
      have fg : FnG p.noL G (CW G fs l (k + 1)) (k + 1) (eC.d.ad G.K) fdCs [p0, p1] eC.nm := by
        refine fn_cast (wb := wb) kn0 er0 w.okC.F S w.okC.c (LmV.nil rfl) fun ds Q E z => ?_
        obtain ⟨n, e, h1, h2, hq⟩ := w.lenC z
        exact ⟨n, e, fun a i j l h3 => w.cst _ n Q (m.hC k) h1 h2 hq a i j l h3⟩
      exact fg
theorem Lw.all (w : Lw p G sub g g' fs l esL fdL eB eC fdBg fdCs wb nB nC p0 p1) (m : Pq p.no G sub g fs l) (k : Nat) : Al p G fs l esL fdL eB eC fdBg fdCs k := w.step m k k (Nat.le_refl k)
end
end En
/-! En35: what a law asks of the program at all levels; a program without own classes. -/
namespace En
open PySem L2 PyProof.Rows
section
variable {p : Pg} {G : Cfg} {sub : Sub} {g : Gi} {fs : List (Str × Fn)} {l : List (Str × Prim)} {es : List Fe} {fd : Fe → FuncData} {XT : Nat → Prop} {adB : Addr} {fdB fdI : FuncData} {sf x0 x1 x2 : Str} {nI : List Str} {bI : Sms}
theorem Pr.pq (m : Pr p G sub g fs l es fd XT adB fdB fdI sf x0 x1 x2 nI bI) : Pq p G sub g fs l := ⟨fun k => m.pm.hC k, fun k => m.lv (m.all k)⟩
end
def prm0 : List (Str × Prim) := [("!lv", pTo "!lv1"), ("!lv1", pOk)]
theorem prm0_mono : ∀ e ∈ prm0, PMono e.2 := by
  intro e he
  simp only [prm0, List.mem_cons, List.not_mem_nil, or_false] at he
  rcases he with rfl | rfl
  · exact pTo_mono _
  · exact pOk_mono
/-- the special names that stand for nothing here -/
def nonm : List Str := [Str.ofString "__len__", Str.ofString "__repr__", Str.ofString "__str__", Str.ofString "__bool__", Str.ofString "__eq__"]
/-- an attribute at level k -/
def AttOk (p : Pg) (G : Cfg) (C : Call) (k : Nat) (f key : Str) : Prop := ∀ X W o io pos, OkX p G k X W → PE X o (rdV G C W io) → isSup o = false → PE X (.Attribute o f pos) (rdR G C W (.att io key))
structure P0 (p : Pg) (G : Cfg) (sub : Sub) (g : Gi) (fs : List (Str × Fn)) (l : List (Str × Prim)) (es : List Fe) (fd : Fe → FuncData) (XT : Nat → Prop) : Prop where
  fl : p.fl = false
  ct : Ct p G sub g
  lq : p.lq = false
  ans : g.ans = []
  err : ∀ c ∈ g.err, ∃ f, ECls p G c f ∧ fs.lookup c = none ∧ l.lookup c = some pErr
  ok : ∀ e ∈ es, FeOk G g e (fd e)
  bd : ∀ e ∈ es, Binds G.K (fd e) e.ps []
  io : ∀ x ∈ g.ios, ∃ d : Fe, d.nm = x.1 ∧ FeOk G g d (fd d) ∧ Binds G.K (fd d) d.ps [] ∧ d.ps.length = x.2.length ∧ p.mg x.1 = some (.ref (d.d.ad G.K)) ∧ fs.lookup x.1 = none ∧ l.lookup x.1 = some (pIo G.B d.fn.n x.2 d.fn.body)
  fn : ∀ f ∈ g.fns, (∃ e ∈ es, e.nm = f ∧ p.mg f = some (.ref (e.d.ad G.K))) ∨ ∃ u, p.mg f = some u ∧ PySem.W.keepIn G.K u = true ∧ ∀ k, XT k → CalP p G (CW G fs l k) k u f
  kw : ∀ e ∈ g.kws, (∃ e' ∈ es, e'.nm = e.1 ∧ p.mg e.1 = some (.ref (e'.d.ad G.K)) ∧ ∃ ks, e.2.1 = ks.map some ∧ KBs G.K (fd e') e'.ps 0 ks e.2.2.1 e.2.2.2) ∨ ∃ u ks, e.2.1 = ks.map some ∧ p.mg e.1 = some u ∧ PySem.W.keepIn G.K u = true ∧ ∀ k, XT k → CalK p G (CW G fs l k) k u e.1 ks e.2.2.1 e.2.2.2
  mcl : g.mcl = []
  mkw : g.mkw = []
  att : g.att = [] ∨ ∀ f key, g.att.lookup f = some key → ∀ k, XT k → AttOk p G (CW G fs l k) k f key
  exs : ∀ c ∈ g.exs, ∀ k, XT k → IsxOk p G (CW G fs l k) k c := by intro c h; exact (List.not_mem_nil h).elim
  no : ∀ f ∈ nonm, fs.lookup f = none ∧ l.lookup f = none
  no2 : ∀ e ∈ prm0, fs.lookup e.1 = none
  lp : ∀ e ∈ prm0, l.lookup e.1 = some e.2 ∨ l.lookup e.1 = none
  xt0 : XT 0
  xts : ∀ k, Kn g G (CW G fs l k) (OkX p G k) → ErrOk p G g (CW G fs l k) k → XT k → XT (k + 1)
  fs : ∀ e ∈ es, fs.lookup e.nm = some e.fn
  lm : ∀ e ∈ l, PMono e.2
structure A0 (p : Pg) (G : Cfg) (fs : List (Str × Fn)) (l : List (Str × Prim)) (es : List Fe) (fd : Fe → FuncData) (XT : Nat → Prop) (k : Nat) : Prop where
  defs : ∀ e ∈ es, FnG p G (CW G fs l k) k (e.d.ad G.K) (fd e) e.ps e.nm
  xt : XT k
section
variable {p : Pg} {G : Cfg} {sub : Sub} {g : Gi} {fs : List (Str × Fn)} {l : List (Str × Prim)} {es : List Fe} {fd : Fe → FuncData} {XT : Nat → Prop}
theorem P0.hB (m : P0 p G sub g fs l es fd XT) : G.B.Mono := by rw [m.ct.hL]; exact libW_mono sub
theorem P0.hC (m : P0 p G sub g fs l es fd XT) (k : Nat) : MonoC (CW G fs l k) := callW_mono m.hB (fun C hC => primOf_mono m.lm C hC) k
theorem P0.nos (m : P0 p G sub g fs l es fd XT) {f : Str} (h : f ∈ nonm) {k : Nat} {ds : List D} {Q : Rv → Prop} {E : XP} (z : CW G fs l k f ds Q E) : False := cw_none (m.no f h).1 (m.no f h).2 z
theorem P0.obx (m : P0 p G sub g fs l es fd XT) (n : Nat) : ObX p G (CW G fs l) n where
  len := fun c fs' Q E z => (m.nos (by simp [nonm]) z).elim
  repr := fun c fs' Q E z => (m.nos (by simp [nonm]) z).elim
  str := fun c fs' Q E z => (m.nos (by simp [nonm]) z).elim
  bool := fun c fs' Q E z => (m.nos (by simp [nonm]) z).elim
theorem P0.obe (m : P0 p G sub g fs l es fd XT) (n : Nat) : ObE p G (CW G fs l) n := ⟨fun dx dy Q E z => (m.nos (by simp [nonm]) z).elim⟩
theorem P0.lv0 (m : P0 p G sub g fs l es fd XT) {k : Nat} (a : A0 p G fs l es fd XT k) (hio : IoAt p G g (CW G fs l k) k) : Lv p G sub g (CW G fs l k) k where
  io := hio
  fn := fun f hf => by
    rcases m.fn f hf with ⟨e, he, e1, e2⟩ | ⟨u, e1, e2, e3⟩
    · refine ⟨_, e2, (m.ok e he).F.kp, ?_⟩
      rw [← e1]
      exact cal_def (a.defs e he) (fun ds Q E z => fs_len (m.fs e he) ds Q E z) (m.bd e he)
    · exact ⟨u, e1, e2, e3 k a.xt⟩
  kw := fun e he => by
    rcases m.kw e he with ⟨e', he', e1, e2, ks, e3, hb⟩ | ⟨u, ks, e1, e2, e3, e4⟩
    · refine ⟨_, ks, e3, e2, (m.ok e' he').F.kp, ?_⟩
      rw [← e1]
      exact cal_defK (a.defs e' he') (fun ds Q E z => fs_len (m.fs e' he') ds Q E z) hb
    · exact ⟨u, ks, e1, e2, e3, e4 k a.xt⟩
  mcl := fun mm key h => by
    rw [m.mcl] at h
    cases h
  mck := fun e' he' key h => by
    rw [m.mkw] at he'
    cases he'
  att := fun f key h => by
    rcases m.att with ha | ha
    · rw [ha] at h
      cases h
    · exact ha f key h k a.xt
  isx := fun c hc => m.exs c hc k a.xt
  lam := LamOk.nil m.ans
  eqo := fun X W ok => ob_eqo m.fl (fun k => m.hC k) (m.obe k) ok
  ob := fun X W ok b f hf => ob_all m.fl (fun k => m.hC k) (m.obx k) ok hf
theorem P0.pr (m : P0 p G sub g fs l es fd XT) {f : Str} {P : Prim} (h2 : (f, P) ∈ prm0) {k : Nat} {ds : List D} {Q : Rv → Prop} {E : XP}
    (z : CW G fs l k f ds Q E) : ∃ j, k = j + 1 ∧ P (CW G fs l j) ds Q E := cw_prim' (m.no2 _ h2) (m.lp _ h2) z
theorem P0.er (m : P0 p G sub g fs l es fd XT) (k : Nat) : ErrOk p G g (CW G fs l k) k := fun X E ok c hc hg ho args is q pos ha hst hnil => by
  obtain ⟨f, ec, h1, h2⟩ := m.err c hc
  refine err_mk m.fl ec (fun ds Q E z => ?_) (fun Q z => ?_) m.hB (m.hC k) ok hg ho ha hst hnil
  · obtain ⟨j, _, z⟩ := cw_prim h1 h2 z
    exact z
  · obtain ⟨j, e1, z⟩ := m.pr (f := "!lv") (P := pTo "!lv1") (by simp [prm0]) z
    have z : CW G fs l j "!lv1" [] Q E0 := z
    obtain ⟨j', e2, z⟩ := m.pr (f := "!lv1") (P := pOk) (by simp [prm0]) z
    exact ⟨j', by omega⟩
theorem P0.ioAt (m : P0 p G sub g fs l es fd XT) : ∀ k, (∀ j, j ≤ k → A0 p G fs l es fd XT j) → IoAt p G g (CW G fs l k) k
  | 0, _ => fun e he => by
    obtain ⟨d, h1, h2, h3, h4, h5, h6, h7⟩ := m.io e he
    exact ⟨_, _, _, h5, h2.F.kp, fun A outer s H args us vs Q E _ _ _ _ _ _ ⟨_, _, _, _, _, z⟩ => z.elim, fun ds Q E z => z.elim, h3⟩
  | k + 1, a => fun e he => by
    obtain ⟨d, h1, h2, h3, h4, h5, h6, h7⟩ := m.io e he
    have kn := kn_of (m.hC k) m.ct (m.lv0 (a k (by omega)) (P0.ioAt m k fun j hj => a j (by omega)))
    refine ⟨_, _, _, h5, h2.F.kp, fn_compI kn (m.er k) h2.F h2.S h2.c (LmV.nil m.lq) fun ds Q E z => ?_, fun ds Q E z => ?_, h3⟩
    · obtain ⟨j, ej, _, zz⟩ := cw_prim (G := G) h6 h7 z
      have ej : j = k := by omega
      subst ej
      exact zz
    · obtain ⟨j, ej, hl, _⟩ := cw_prim (G := G) h6 h7 z
      rw [hl, h4]
theorem P0.lv (m : P0 p G sub g fs l es fd XT) {k : Nat} (a : ∀ j, j ≤ k → A0 p G fs l es fd XT j) : Lv p G sub g (CW G fs l k) k := m.lv0 (a k (Nat.le_refl _)) (m.ioAt k a)
theorem P0.step (m : P0 p G sub g fs l es fd XT) {k : Nat} (a : ∀ j, j ≤ k → A0 p G fs l es fd XT j) : A0 p G fs l es fd XT (k + 1) := by
  have kn := kn_of (m.hC k) m.ct (m.lv a)
  refine ⟨fun e he => ?_, m.xts k kn (m.er k) (a k (Nat.le_refl _)).xt⟩
  have o := m.ok e he
  refine fn_comp kn (m.er k) o.F o.S o.c (LmV.nil m.lq) fun ds Q E z => ?_
  have z : callW G.B fs (primOf l) (k + 1) e.nm ds Q E := z
  unfold callW at z
  rw [m.fs e he] at z
  exact z.2
theorem P0.all (m : P0 p G sub g fs l es fd XT) (k : Nat) : ∀ j, j ≤ k → A0 p G fs l es fd XT j := by
  induction k with
  | zero =>
    intro j hj
    have : j = 0 := by omega
    subst this
    exact ⟨fun e _ A outer s H args us vs ds Q E _ _ _ _ _ _ _ _ z => z.elim, m.xt0⟩
  | succ k ih =>
    intro j hj
    rcases Nat.lt_or_ge j (k + 1) with h | h
    · exact ih j (by omega)
    · have : j = k + 1 := by omega
      subst this
      exact m.step ih
theorem P0.pq (m : P0 p G sub g fs l es fd XT) : Pq p G sub g fs l := ⟨m.hC, fun k => m.lv (m.all k)⟩
end
end En
namespace PySem
namespace HandSPX
open Builtin Builtin.ObjectAttr
/-! Xv2: an own error made by keyword. -/
section
variable {M : Model} {A : Around} {E : Value → Shared → Prop} {h : Heap} {g : Array GenState} {d : Drawn} {t : Nat} {os : OsState}
variable {nm q : Str} {C N : Addr} {bs bm bmB : List Value} {hdct : Bool} {sn : List Str} {sub : List Value} {ab : Bool} {col : Option Bool} {dd : Option Addr} {k0 k1 k2 k3 k5 : Option Value} {B newId initId : String}
theorem chk_newK (F : ExcBaseFacts B newId initId bmB) (hT : ∀ X : String, bm.contains (.type X) = bmB.contains (.type X)) {kw : List (Str × Value)} {Q : Unit → Shared → Prop}
    (hC : h.get? C = some (excClassObj nm q C N bs bm hdct sn sub ab col dd k0 k1 k2 k3 k5 newId)) (hq : Q () ⟨h, g, d, t, os⟩) : wpAny M A (checkBuiltinCall newId ⟨[.ref C], kw⟩) Q E ⟨h, g, d, t, os⟩ := by
  have hk : (Value.ref C :: bm).contains (.type B) = true := by rw [List.contains_cons, hT, F.hasB, Bool.or_true]
  have hst := F.noStar
  simp only [checkBuiltinCall, F.newKind, F.newSplit, F.newRow]
  repeat (first | refine wpAny_loadPart_at hC ?_ | (refine wpAny_isSubtype_exc hC ?_; rw [hk]) | refine wpAny_staticBase_exc hC ?_ | refine wpAny_madeBy_exc hC ?_ | simp only [bne_self_eq_false, Bool.false_eq_true, if_false] | wp_step)
  exact hq
end
section
variable {prog : Program} {w : World} {A : Around} {E : Value → Shared → Prop} {R : Result → Shared → Prop} {h : Heap} {g : Array GenState} {d : Drawn} {t : Nat} {os : OsState}
variable {nm q : Str} {C N : Addr} {bs bm bmB : List Value} {hdct : Bool} {sn : List Str} {sub : List Value} {ab : Bool} {col : Option Bool} {dd : Option Addr} {k0 k1 k2 k3 k5 : Option Value} {B newId initId : String}
theorem new_kw (F : ExcBaseFacts B newId initId bmB) (hT : ∀ X : String, bm.contains (.type X) = bmB.contains (.type X)) {kw : List (Str × Value)}
    (hC : h.get? C = some (excClassObj nm q C N bs bm hdct sn sub ab col dd k0 k1 k2 k3 k5 newId))
    (hq : R (.ok (.ret (.ref (h.objs.size + 1)))) ⟨(h.push (PySem.W.kdv_tup [])).push (excO C h.objs.size), g, d, t, os⟩) :
    codeAny (model prog w) A (.builtin newId ⟨[.ref C], kw⟩) R ⟨h, g, d, t, os⟩ := by
  have he := F.ends
  have c1 : (Value.ref C :: bm).contains (.type B) = true := by rw [List.contains_cons, hT, F.hasB, Bool.or_true]
  have c2 : (Value.ref C :: bm).contains (.type "AttributeError") = false := by rw [List.contains_cons, hT, F.noAttr]; rfl
  have c3 : (Value.ref C :: bm).contains (.type "NameError") = false := by rw [List.contains_cons, hT, F.noName]; rfl
  refine codeAny_builtinAt F.entry ?_
  unfold Builtin.«BaseException.__new__»
  refine wpAt_bind ?_
  show wpAt _ _ _ (stack >>= _) _ _ _
  refine wpAt_bind (wpAt_stack fun p below => wpAt_of_wpAny ?_)
  wp_walk
  refine wpAt_of_wpAny ?_
  rw [F.owner]
  repeat (first | with_reducible refine wpAny_madeHere_exc F.canon hC ?_ | with_reducible refine wpAny_loadPart_at hC ?_ | (with_reducible refine wpAny_isSubtype_exc hC ?_; first | rw [c1] | rw [c2] | rw [c3]) | wp_step)
  show R _ _
  rw [Heap.size_push]
  exact hq
theorem type_callK (F : ExcBaseFacts B newId initId bmB) (hT : ∀ X : String, bm.contains (.type X) = bmB.contains (.type X)) {kw : List (Str × Value)} {fI : Addr} {Q : Fin → Shared → Prop}
    (hC : h.get? C = some (excClassObj nm q C N bs bm hdct sn sub ab col dd k0 k1 k2 k3 k5 newId))
    (hi : W.Looks (model prog w) h (typeLookup (.ref C) "__init__") (some (.ref fI))) (hb : ∀ self, W.Looks (model prog w) h (bindSpecial (.ref fI) self) (.ref fI, [self]))
    (hq : codeAny (model prog w) A (.call (.ref fI) ⟨[.ref (h.objs.size + 1)], kw⟩)
      (fun r s' => match r with | .ok (.ret v) => v = .none ∧ Q (.done (.ret (.ref (h.objs.size + 1)))) s' | .ok _ => False | .error e => E e s')
      ⟨(h.push (W.kdv_tup [])).push (excO C h.objs.size), g, d, t, os⟩) :
    wpAny (model prog w) A (Builtin.«type.__call__» ⟨[.ref C], kw⟩) Q E ⟨h, g, d, t, os⟩ := by
  repeat (first | with_reducible refine wpAny_loadPart_at hC ?_ | with_reducible refine wpAny_madeBy_exc hC ?_ | wp_step)
  refine codeAny_call_builtin_code (Code.quiet_builtin _ F.quiet) (chk_newK F hT hC ?_)
  refine new_kw F hT hC ?_
  show wpAny _ _ _ _ _ _
  have kk : ∀ b o, h.get? b = some o → ((h.push (W.kdv_tup [])).push (excO C h.objs.size)).get? b = some o := fun b o e => Heap.get?_push_of_some _ (Heap.get?_push_of_some _ e)
  have hC1 := kk _ _ hC
  have hg : ((h.push (W.kdv_tup [])).push (excO C h.objs.size)).get? (h.objs.size + 1) = some (excO C h.objs.size) := by heap_get
  have hcc : (Value.ref C :: bm).contains (.ref C) = true := by simp
  have i1 := hi.keeps kk
  have b1 := (hb (.ref (h.objs.size + 1))).keeps kk
  unfold isInstance
  repeat (first | with_reducible refine wpAny_loadPart_at hg ?_ | (with_reducible refine wpAny_isSubtype_exc hC1 ?_; rw [hcc]) | wp_step)
  show wpAny _ _ (typeLookup (.ref C) _) _ _ _
  refine i1.at ?_
  refine wpAny_holding (wpAny_bind (b1.at ?_))
  refine wpAny_bind (wpAny_call (codeAny_mono hq fun r s' z => ?_))
  rcases r with e | (v | _ | _ | _) <;> first | exact z | exact z.elim | skip
  obtain ⟨rfl, z⟩ := z
  first
    | exact wpAny_pure (wpAny_pure z)
    | (wp_walk; exact z)
theorem chk_tcK {M : Model} {kw : List (Str × Value)} {Q : Unit → Shared → Prop} (hC : h.get? C = some (excClassObj nm q C N bs bm hdct sn sub ab col dd k0 k1 k2 k3 k5 newId))
    (hq : Q () ⟨h, g, d, t, os⟩) : wpAny M A (checkBuiltinCall "type.__call__" ⟨[.ref C], kw⟩) Q E ⟨h, g, d, t, os⟩ := by
  have f3 := tc_sub
  have hT : (⟨h, g, d, t, os⟩ : Shared).TypeIs (.ref C) "type" := ⟨_, hC, rfl⟩
  simp only [checkBuiltinCall, tc_kind, tc_split]
  repeat (any_goals (first | assumption | with_reducible refine wpAny_loadPart_at hC ?_ | with_reducible refine wpAny_onRaise ?_ | with_reducible refine wpAny_map ?_ | wp_step))
theorem call_kw (F : ExcBaseFacts B newId initId bmB) (hT : ∀ X : String, bm.contains (.type X) = bmB.contains (.type X)) {kw : List (Str × Value)} {fI : Addr}
    (hC : h.get? C = some (excClassObj nm q C N bs bm hdct sn sub ab col dd k0 k1 k2 k3 k5 newId))
    (hi : W.Looks (model prog w) h (typeLookup (.ref C) "__init__") (some (.ref fI))) (hb : ∀ self, W.Looks (model prog w) h (bindSpecial (.ref fI) self) (.ref fI, [self]))
    (hq : codeAny (model prog w) (A.under (.builtin "type.__call__" ⟨[.ref C], kw⟩)) (.call (.ref fI) ⟨[.ref (h.objs.size + 1)], kw⟩) (W.InitBack (h.objs.size + 1) R)
      ⟨(h.push (W.kdv_tup [])).push (excO C h.objs.size), g, d, t, os⟩) :
    codeAny (model prog w) A (.call (.ref C) ⟨[], kw⟩) R ⟨h, g, d, t, os⟩ := by
  have f1 := tc_lookup
  have f2 := tc_bind (.ref C)
  have hT' : (⟨h, g, d, t, os⟩ : Shared).TypeIs (.ref C) "type" := ⟨_, hC, rfl⟩
  refine codeAny_of_tree ?_
  show wpAny _ _ (callAny (.ref C) _) _ _ _
  repeat (any_goals (first | assumption | with_reducible refine wpAny_loadPart_at hC ?_ | wp_step))
  refine ⟨rfl, ?_⟩
  refine codeAny_call_builtin_at (Code.quiet_builtin _ (by decide +kernel)) entry_typeCall (chk_tcK hC (type_callK F hT hC hi hb ?_))
  refine codeAny_mono hq fun r s' z => ?_
  rcases r with e | (v | _ | _ | _) <;> exact z
end
end HandSPX
end PySem
namespace En
open PySem L2 PyProof.Rows TL
/-! Xv3: own errors as values: made by position and by name, their classes asked, their field read. -/
open PySem.Spec PySem.HandSPX
section
variable {p : Pg} {G : Cfg} {C : Call} {k : Nat} {c f nm : Str}
/-- an own error's class, its value given by name -/
structure EKw (p : Pg) (G : Cfg) (c f : Str) (ks : List Str) : Prop where
  k : ErrC G.K c f
  ini : ∃ (d : Df) (fd : FuncData) (sf x : Str) (q0 q1 q2 q3 : Pos), d.FunD G.K fd ∧ d.ad G.K = He.ma G.K (He.ga G.K c) "__init__" ∧ d.body = [.Assign [.Attribute (.Name sf q0) f q1] (.Name x q2) q3] ∧ FnScope [sf, x] [sf, x] d.scope ∧ KBs G.K fd [sf, x] 1 ks 0 [0] ∧ odd sf = false ∧ odd x = false
theorem err_initK {j : Nat} {ks : List Str} (e : EKw p G c f ks) : ∃ fd ps, KBs G.K fd ps 1 ks 0 [0] ∧ FnOk p.P p.w G.K p.mg p.base (L2.CX p.P p.w) (j + 1) (He.ma G.K (He.ga G.K c) "__init__") fd ps (spX (He.ga G.K c) f) := by
  obtain ⟨d, fd, sf, x, q0, q1, q2, q3, F, ead, eb, S, bd, o1, o2⟩ := e.ini
  obtain ⟨oc, od, dV, kV, doc, pm, an, cdv, ct, osl, rfl, lk, hcd, _, _⟩ := F.ex
  refine ⟨_, _, bd, ⟨fun vs H Q E ⟨a, y, h1, _⟩ => by rw [h1]; rfl, fun A outer s H args us vs Q E hr e0 hb r ⟨a, y, h1, h2, h3⟩ => ?_⟩⟩
  subst h1
  rw [← ead]
  refine LamX.run_ofS (N := [sf, x]) lk hcd S hr e0 hb r rfl fun hr2 => ?_
  rw [eb]
  obtain ⟨d1, d2, d3⟩ := odd_cases o1
  obtain ⟨g1, g2, g3⟩ := odd_cases o2
  refine ⟨_, pss_one (ps_put (pe_var (i := 0) rfl (vis_of S (by simp)) d1 d2) (pe_var (i := 1) rfl (vis_of S (by simp)) g1 g2)), ?_⟩
  exact ⟨y, rfl, .ref a, rfl, a, He.ga G.K c, rfl, e.k.T, e.k.no, h2, fun dx n1 n2 => h3 dx n1 n2⟩
theorem no_pass {X : Cx} {p : Pg} : Passes (L2.CX p.P p.w) X (fun _ _ _ => False) := fun pins σ H s er s' I z => by
  obtain ⟨_, _, _, _, _, _, _, _, _, _, _, _, z⟩ := z
  exact z.elim
/-- the heap with a new error -/
theorem er1_new {K : PySem.W.Frag} {H : Hp} {x dx C0 : Addr} {f : Str} {y : V} (nx : H x = none) (nd : H dx = none) : ∀ b o, H b = some o → upd (upd (upd H x (exo x C0 none)) dx (exd dx [(f, y)])) x (exo x C0 (some dx)) b = some o := fun b o q => by
  have n1 : b ≠ x := ne_of_none q nx
  have n2 : b ≠ dx := ne_of_none q nd
  rw [upd_ne n1, upd_ne n2, upd_ne n1]
  exact q
theorem er1_end {X : Cx} {pins : List (Addr × Obj)} {σ : L2.St} {H : Hp} {Q : VK} {d : D} {y : V} (rd : RD G.K H d y) (tb : Tb G H) (q : qS G Q H (.v (.er1 c f d))) {x : Addr} (nx : H x = none) {dx : Addr} (nd : (upd H x (exo x (He.ga G.K c) none)) dx = none) (ne : dx ≠ x) :
    Q (.ref x) (upd (upd (upd H x (exo x (He.ga G.K c) none)) dx (exd dx [(f, y)])) x (exo x (He.ga G.K c) (some dx))) := by
  have nd1 : H dx = none := by rw [upd_ne ne] at nd; exact nd
  have x2 := er1_new (K := G.K) (C0 := He.ga G.K c) (f := f) (y := y) nx nd1
  exact q _ _ (.er1 upd_same (by rw [upd_ne ne, upd_same]) (rd.stb (ExN.stb (LamX.ExtN.of x2)))) (LamX.ExtN.of x2) (tb.ext x2)
theorem cal_er1 (e : ECls p G c f) (hC : ∀ ds Q E, C nm ds Q E → (∃ j, k = j + 2) ∧ ∃ d, ds = [d] ∧ Q (.v (.er1 c f d))) : CalP p G C k (.ref (He.ga G.K c)) nm := by
  intro X W pins σ H s Q us vs ds ok I r rd tb h
  obtain ⟨⟨j, rfl⟩, d, rfl, q⟩ := hC _ _ _ h
  obtain ⟨fd, ps, bd, F1⟩ := err_init (j := j) e
  have KX : X.K = G.K := ok.bs.K
  have F1' : FnOk X.prog X.w X.K X.mg X.base (L2.CX p.P p.w) (j + 1) (He.ma G.K (He.ga G.K c) "__init__") fd ps (spX (He.ga G.K c) f) := by
    rw [ok.P, ok.w, ok.mg, ok.base, KX]
    exact F1
  cases rd with
  | cons rd rs =>
    cases rs
    rename_i y
    refine run_err (E := fun _ _ _ => False) (by rw [KX]; exact e.k.T) (by rw [KX]; exact e.k.iC) (by rw [KX]; exact e.k.tI) F1' ok.room (by rw [KX]; exact bd) no_pass I r (by rw [← r.length]; simp) fun x nx => ?_
    exact ⟨x, y, rfl, upd_same, fun dx nd ne => ⟨rfl, er1_end (X := X) (pins := pins) (σ := σ) rd tb q nx nd ne⟩⟩
theorem run_errK {X : Cx} {CX : CXT} {C fI : Addr} {k : Nat} {fd : FuncData} {ps ks : List Str} {sp : Sp} {E : XK} (T : OexB X.K C) (iC : PySem.W.findIn X.K (.ref C) "__init__" = some (some (.ref fI))) (tI : PySem.W.typeIn X.K (.ref fI) = some (.type "function"))
    (F1 : FnOk X.prog X.w X.K X.mg X.base CX k fI fd ps sp) (hr : Room (k + 1) X.A) (hb : KBs X.K fd ps 1 ks 0 [0]) (hx : Passes CX X E) {pins : List (Addr × Obj)} {σ : L2.St} {H : Hp} {s : Shared} {Q : VK} {u : Value} {y : V} (I1 : Inv X pins σ H s) (r1 : RelV y u) (hk : ks.length = 1)
    (h : ∀ x, H x = none → sp [.ref x, y] (upd H x (exo x C none)) (fun v H2 => v = .non ∧ Q (.ref x) H2) E) : wpAny (model X.prog X.w) X.A (call (.ref C) [] (ks.zip [u])) (EP X pins σ Q) X.xe s := by
  obtain ⟨b, nm, q, N, bs, bm, sn, sub, ab, col, dd, k0, k1, k2, k3, k5, oC, hbm⟩ := T.cls
  obtain ⟨h0, gs, dr, n0, os0⟩ := s
  have sz : h0.objs.size ≤ h0.objs.size + 1 := Nat.le_succ _
  have nn : H (h0.objs.size + 1) = none := I1.hok.fresh sz
  have z2 := h (h0.objs.size + 1) nn
  have kk : ∀ c o, h0.get? c = some o → ((h0.push (PySem.W.kdv_tup [])).push (PySem.HandSPX.excO C h0.objs.size)).get? c = some o := fun c o e => Heap.get?_push_of_some _ (Heap.get?_push_of_some _ e)
  have hget : ((h0.push (PySem.W.kdv_tup [])).push (PySem.HandSPX.excO C h0.objs.size)).get? (h0.objs.size + 1) = some (PySem.HandSPX.excO C h0.objs.size) := by heap_get
  have I2 : Inv X pins σ (upd H (h0.objs.size + 1) (exo (h0.objs.size + 1) C none)) ⟨(h0.push (PySem.W.kdv_tup [])).push (PySem.HandSPX.excO C h0.objs.size), gs, dr, n0, os0⟩ :=
    I1.laid (t' := n0) (a := h0.objs.size + 1) (o := exo (h0.objs.size + 1) C none) (h' := (h0.push (PySem.W.kdv_tup [])).push (PySem.HandSPX.excO C h0.objs.size)) kk sz (exo_ok hget)
  have r2 : Vals [V.ref (h0.objs.size + 1), y] [Value.ref (h0.objs.size + 1), u] := .cons rfl (.cons r1 .nil)
  have bt := hb _ [Value.ref (h0.objs.size + 1)] [] [u] I2.kIn rfl rfl hk.symm
  refine wpAny_call (call_kw b.facts (fun y => b.mro_has y hbm) (I1.kIn _ _ oC) (PySem.W.looks_findIn I1.kIn iC) (fun self => PySem.W.bind_fn I1.kIn self tI)
    (codeAny_mono (F1.run _ X.stack _ _ ⟨[Value.ref (h0.objs.size + 1)], ks.zip [u]⟩ [Value.ref (h0.objs.size + 1), u] _ _ E (hr.make C [] (ks.zip [u])) (I2.env0.make C [] (ks.zip [u])) bt r2 z2) fun r s' z3 => ?_))
  cases r with
  | error er => exact hx pins σ _ _ er s' I2 z3
  | ok fl =>
    cases fl with
    | ret u =>
      obtain ⟨v, H', I3, rv, ev, q3⟩ := I2.after z3
      subst ev
      exact ⟨rv, ⟨V.ref (h0.objs.size + 1), H', I3, rfl, q3⟩⟩
    | next => exact z3.elim
    | brk => exact z3.elim
    | cont => exact z3.elim
theorem cal_er1K {ks : List Str} (e : EKw p G c f ks) (hks : ks.length = 1) (hC : ∀ ds Q E, C nm ds Q E → (∃ j, k = j + 2) ∧ ∃ d, ds = [d] ∧ Q (.v (.er1 c f d))) : CalK p G C k (.ref (He.ga G.K c)) nm ks 0 [0] := by
  intro X W pins σ H s Q us ws vs zs ds es ok I r rz l1 l2 rd re tb h
  obtain ⟨⟨j, rfl⟩, d, ed, q⟩ := hC _ _ _ h
  obtain ⟨fd, ps, bd, F1⟩ := err_initK (j := j) e
  have KX : X.K = G.K := ok.bs.K
  have F1' : FnOk X.prog X.w X.K X.mg X.base (L2.CX p.P p.w) (j + 1) (He.ma G.K (He.ga G.K c) "__init__") fd ps (spX (He.ga G.K c) f) := by
    rw [ok.P, ok.w, ok.mg, ok.base, KX]
    exact F1
  have e1 : us = [] := List.length_eq_zero_iff.mp l1
  subst e1
  cases r
  cases rd
  obtain ⟨w, ew⟩ : ∃ w, ws = [w] := List.length_eq_one_iff.mp (l2.trans hks)
  subst ew
  cases rz with
  | cons rw0 rn =>
    cases rn
    cases re with
    | cons re1 rs =>
      cases rs
      rename_i y d'
      have ed : d' = d := by
        have : [d'] = [d] := ed
        exact List.head_eq_of_cons_eq this
      subst ed
      refine run_errK (E := fun _ _ _ => False) (by rw [KX]; exact e.k.T) (by rw [KX]; exact e.k.iC) (by rw [KX]; exact e.k.tI) F1' ok.room (by rw [KX]; exact bd) no_pass I rw0 hks fun x nx => ?_
      exact ⟨x, _, rfl, upd_same, fun dx nd ne => ⟨rfl, er1_end (X := X) (pins := pins) (σ := σ) re1 tb q nx nd ne⟩⟩
/-- a class without an own __init__ -/
theorem cal_er0 {b : Bas} (q0 : PySem.W.excIn G.K (He.ga G.K c) b.tl b.new = true) (hC : ∀ ds Q E, C nm ds Q E → ds = [] ∧ Q (.v (.er0 c))) : CalP p G C k (.ref (He.ga G.K c)) nm := by
  intro X W pins σ H s Q us vs ds ok I r rd tb h
  obtain ⟨rfl, q⟩ := hC _ _ _ h
  cases rd
  cases r
  have KX : X.K = G.K := ok.bs.K
  refine run_err0 b.facts (by rw [KX]; exact q0) I (by simp) fun a na => ?_
  have x2 : ∀ b o, H b = some o → upd H a (exo a (He.ga G.K c) none) b = some o := fun b o q => by rw [upd_ne (ne_of_none q na)]; exact q
  exact q _ _ (.er0 upd_same) (LamX.ExtN.of x2) (tb.ext x2)
/-! ### isinstance(e, c) -/
/-- the class's name as a value -/
inductive NmV (p : Pg) (G : Cfg) (c : Str) : Value → Prop
  | own : p.mg c = some (.ref (He.ga G.K c)) → NmV p G c (.ref (He.ga G.K c))
  | ty : p.mg c = none → bootBuiltins c = some (.type c.toString) → NmV p G c (.type c.toString)
def vOf : Value → V
  | .ref a => .ref a
  | .type n => .ty n
  | _ => .non
theorem NmV.pe {cv : Value} (h : NmV p G c cv) {X : Cx} {W : WX} (ok : OkX p G k X W) (hg : Gl X c) (ho : odd c = false) {pos : Pos} : PE X (.Name c pos) (tC (vOf cv)) ∧ ∀ u, RelV (vOf cv) u → u = cv := by
  obtain ⟨o1, o2, o3⟩ := odd_cases ho
  cases h with
  | own h => exact ⟨pe_glob (v := .ref _) hg (by rw [ok.mg]; exact h) rfl o1, fun u r => r⟩
  | ty h1 h2 => exact ⟨pe_bltn (v := .ty _) hg (by rw [ok.mg]; exact h1) h2 rfl o3 o1, fun u r => r⟩
theorem call_isU {X : Cx} : CallR X (.builtin "isinstance") (fun xs H Q => ∃ D, ExcC X.K D ∧ ∃ (a : Addr) (c : V) (cv : Value) (b : Bool) (o : Option (Addr × List (Str × V))), xs = [.ref a, c] ∧ (∀ u, RelV c u → u = cv) ∧ PySem.W.kitOne X.K (.ref D) cv = some b ∧ ErrH H a D o ∧ Q (.bl b) H) :=
  fun pins s σ H xs us Q I r ⟨D, hD, h⟩ => call_isV hD pins s σ H xs us Q I r h
/-- an error's class -/
def erC : D → Option Str
  | .er0 c => some c
  | .er1 c _ _ => some c
  | _ => none
theorem isx_ok (hB : G.B.Mono) (hM : MonoC C) (hm : p.mg "isinstance" = none) {cv : Value} (hn : NmV p G c cv) (hC : ∀ ds Q E, C (isErN c) ds Q E → ∃ d c0 b, ds = [d] ∧ erC d = some c0 ∧ ExcC G.K (He.ga G.K c0) ∧ PySem.W.kitOne G.K (.ref (He.ga G.K c0)) cv = some b ∧ Q (.v (.bl b))) : IsxOk p G C k c := by
  intro X W a ia q p2 pos ok hg hg2 ho hst ha
  obtain ⟨h1, h2⟩ := hn.pe (pos := p2) ok hg2 ho
  have KX : X.K = G.K := ok.bs.K
  refine PE.imp (pe_callB call_isU hg (by rw [ok.mg]; exact hm) (by kernel_rfl) (pa_cons ha (pa_cons h1 pa_nil) (starEach_cons hst)) (by decide) (by decide) (starEach_cons hst) (noStars fun x hx => ?_)) fun σ H Q ⟨r, re, tb, z⟩ => ?_
  · rcases List.mem_cons.mp hx with e | e
    · rw [e]
      rfl
    · cases e
  have z : (evAs G.B C (.cons ia .nil) r).R (fun xs => C (isErN c) xs (fun x => ∀ v H', RR G.K H H' x v → ExN H H' → Tb G H' → Q v H') (exq G W σ H)) (exq G W σ H) := z
  unfold evAs at z
  refine v_bind hB hM re tb (LamX.ExtN.refl H) z fun d v H1 rx x1 t1 z1 => ?_
  unfold evAs at z1
  obtain ⟨d', c0, b, e, ec, hX, hk, qq⟩ := hC _ _ _ z1
  have e : d.d = d' := List.head_eq_of_cons_eq e
  rw [e] at rx
  have fin : ∀ a, v = .ref a → (∃ o, ErrH H1 a (He.ga G.K c0) o) → tC (vOf cv) σ H1 fun w H2 => tNil σ H2 fun vs H3 => ∃ D, ExcC X.K D ∧ ∃ (a : Addr) (c : V) (cv : Value) (b : Bool) (o : Option (Addr × List (Str × V))), v :: w :: vs = [.ref a, c] ∧ (∀ u, RelV c u → u = cv) ∧ PySem.W.kitOne X.K (.ref D) cv = some b ∧ ErrH H3 a D o ∧ Q (.bl b) H3 := fun a ev ⟨o, ho⟩ =>
    ⟨_, by rw [KX]; exact hX, a, vOf cv, cv, b, o, by rw [ev], h2, by rw [KX]; exact hk, ho, qq _ _ (.bl b) x1 t1⟩
  cases d' with
  | er0 c' =>
    cases ec
    cases rx with
    | er0 h => exact fin _ rfl ⟨none, h⟩
  | er1 c' f' d0 =>
    cases ec
    cases rx with
    | er1 h h' _ => exact fin _ rfl ⟨some (_, [_]), h, h'⟩
  | _ => cases ec
/-! ### e.f -/
theorem get_errB {X : Cx} {pins : List (Addr × Obj)} {σ : L2.St} {H : Hp} {s : Shared} {a D dx : Addr} {fs : List (Str × V)} {f : Str} {y : V} {Q : VK} {ex : Bool} (T : XfC X.K D) (hno : PySem.W.findIn X.K (.ref D) f = some none) (I : Inv X pins σ H s) (e : ErrH H a D (some (dx, fs))) (hf : fs.lookup f = some y)
    (q : Q y H) : wpAny (model X.prog X.w) X.A (getAttr (.ref a) f ex) (EP X pins σ Q) X.xe s := by
  obtain ⟨oe, od, J, hk⟩ := e.inst I
  obtain ⟨ob, mA, rfl, hl, hr⟩ := hk dx fs rfl
  obtain ⟨w, hw, rw'⟩ := RelO.some_of (v := y) (o := mA f) (by have := hr f; rwa [hf] at this)
  exact exc_get I.kIn J T.ga T.gg T.exC (PySem.W.findObj_own T.hdC hno rfl (by rw [hl, hw])) (handed_of rw') ⟨y, H, I.tok _, rw', q⟩
theorem att_err (hB : G.B.Mono) (hM : MonoC C) {key : Str} (hC : ∀ d Q E, C key [d] Q E → ∃ c x, d = .er1 c f x ∧ XfC G.K (He.ga G.K c) ∧ PySem.W.findIn G.K (.ref (He.ga G.K c)) f = some none ∧ Q (.v x)) : AttOk p G C k f key := by
  intro X W o io pos ok ho hs
  have KX : X.K = G.K := ok.bs.K
  refine ⟨fun pins s σ H Q I ⟨r, re, tb, z⟩ => ?_⟩
  have hv : rdV G C W io σ H fun v H1 => ∃ (a D dx : Addr) (y : V), v = .ref a ∧ XfC G.K D ∧ PySem.W.findIn G.K (.ref D) f = some none ∧ ErrH H1 a D (some (dx, [(f, y)])) ∧ Q y H1 := v_bind hB hM re tb (LamX.ExtN.refl H) z fun d v H1 rd x1 t1 z1 => by
    obtain ⟨c, x, e, hT, hno, q⟩ := hC _ _ _ z1
    rw [e] at rd
    cases rd with
    | er1 h h' rx => exact ⟨_, _, _, _, rfl, hT, hno, ⟨h, h'⟩, q _ _ rx x1 t1⟩
  refine attr_of (attrBase_ok hs) (thn (ho.run pins s σ H _ I hv) fun u s1 ⟨v, H1, I1, rv, a, D, dx, y, ev, hT, hno, he, q⟩ => ?_)
  subst ev
  obtain rfl : u = Value.ref a := rv
  exact get_errB (by rw [KX]; exact hT) (by rw [KX]; exact hno) I1 he (by simp) q
end
end En
/-! Bg1: a def that returns two lists that may change yet, in a tuple, or None; a def that takes them. -/
namespace En
open PySem L2 PyProof.Rows
section
variable {p : Pg} {G : Cfg} {g : Gi} {C : Call}
/-- no list of the frame lies there -/
def NoP (r : Env) (σ : L2.St) (q : Addr) : Prop := ∀ (j : Nat) (ys : List D) (u : Option Addr), r[j]? = some (some (.own ys u)) → σ[j]? ≠ some (some (.ref q))
theorem NoP.of {H0 H : Hp} {r : Env} {σ : L2.St} {q : Addr} (s : SI G H0 H r σ) (f : Fr H q) : NoP r σ q := fun j ys u e1 e2 => by
  obtain ⟨p, us, e3, e4, _⟩ := s.own_at e1
  rw [e3] at e2
  cases e2
  exact f.ne e4 (fun _ z => nomatch z) rfl
theorem NoP.setV {r : Env} {σ : L2.St} {q : Addr} (h : NoP r σ q) {i : Nat} {d : D} {v : V} : NoP (r.set i (some (.val d))) (σ.set i (some v)) q := fun j ys u e1 e2 => by
  rcases set_own e1 with ⟨_, z, _⟩ | ⟨hj, f1⟩
  · cases z
  · rw [List.getElem?_set_ne (fun z => hj z.symm)] at e2
    exact h j ys u f1 e2
theorem NoP.setO {r : Env} {σ : L2.St} {q p : Addr} (h : NoP r σ q) {i : Nat} {xs : List D} {t : Option Addr} (hpq : p ≠ q) : NoP (r.set i (some (.own xs t))) (σ.set i (some (.ref p))) q := fun j ys u e1 e2 => by
  rcases set_own e1 with ⟨rfl, z, hl⟩ | ⟨hj, f1⟩
  · by_cases hh : j < σ.length
    · rw [List.getElem?_set_self hh] at e2
      cases e2
      exact hpq rfl
    · rw [List.getElem?_eq_none (by simpa using hh)] at e2
      cases e2
  · rw [List.getElem?_set_ne (fun z => hj z.symm)] at e2
    exact h j ys u f1 e2
end
end En
namespace En
open PySem L2 PyProof.Rows TL
/-! En34: tables looked up; the head's facts. -/
theorem lookup_mem {α : Type} {f : Str} {x : α} : ∀ {l : List (Str × α)}, l.lookup f = some x → (f, x) ∈ l
  | [], h => by cases h
  | (g, y) :: l, h => by
    rw [List.lookup_cons] at h
    split at h
    · rename_i hb
      cases h
      have : f = g := by simpa using hb
      rw [this]
      exact List.mem_cons_self
    · exact List.mem_cons_of_mem _ (lookup_mem h)
theorem lookup_nodup {α : Type} : ∀ {l : List (Str × α)}, (l.map (·.1)).Nodup → ∀ e ∈ l, l.lookup e.1 = some e.2
  | [], _, e, h => by cases h
  | (g, y) :: l, hn, e, h => by
    have hn := List.nodup_cons.mp hn
    rw [List.lookup_cons]
    rcases List.mem_cons.mp h with z | z
    · subst z
      simp
    · have hne : e.1 ≠ g := fun q => hn.1 (by rw [← q]; exact List.mem_map.mpr ⟨e, z, rfl⟩)
      have : (e.1 == g) = false := by rw [beq_eq_false_iff_ne]; exact hne
      rw [this]
      exact lookup_nodup hn.2 e z
theorem lookup_fe {es : List Fe} (h : (es.map (·.nm)).Nodup) : ∀ e ∈ es, (es.map fun e => (e.nm, e.fn)).lookup e.nm = some e.fn := fun e he =>
  lookup_nodup (l := es.map fun e => (e.nm, e.fn)) (by rw [List.map_map]; exact h) (e.nm, e.fn) (List.mem_map.mpr ⟨e, he, rfl⟩)
theorem pick_fd {fn : List Df} {K : PySem.W.Frag} (h : ∀ d ∈ fn, ∃ fd, d.FunD K fd) {d0 : Df} (h0 : d0 ∈ fn) : ∃ fd : Df → FuncData, ∀ d ∈ fn, d.FunD K (fd d) := by
  classical
  obtain ⟨fd0, _⟩ := h d0 h0
  refine ⟨fun d => if hd : d ∈ fn then Classical.choose (h d hd) else fd0, fun d hd => ?_⟩
  show d.FunD K (if hd : d ∈ fn then Classical.choose (h d hd) else fd0)
  rw [dif_pos hd]
  exact Classical.choose_spec (h d hd)
/-- a def compiled: its scope, its small form -/
structure FeC (g : Gi) (e : Fe) : Prop where
  S : FnScope e.N e.ps e.d.scope
  c : compSs g e.N e.mu 60 e.d.scope e.d.body = some e.b
  pl : plainPs e.ps e.d.params = true
  nd : e.ps.Nodup
theorem FeC.ok {G : Cfg} {g : Gi} {e : Fe} {fd : FuncData} (c : FeC g e) (F : e.d.FunD G.K fd) : FeOk G g e fd := ⟨F, c.S, c.c⟩
theorem FeC.bd {K : PySem.W.Frag} {g : Gi} {e : Fe} {fd : FuncData} (c : FeC g e) (F : e.d.FunD K fd) : Binds K fd e.ps [] := Df.binds F c.pl c.nd
/-- the names of the errors' values -/
def errFl (c : Str) : List Str := if c ∈ [Str.ofString "InvalidNames", Str.ofString "InvalidSayings", Str.ofString "InvalidBranches", Str.ofString "InvalidForms", Str.ofString "InvalidRanks", Str.ofString "InvalidWalk", Str.ofString "InvalidChanges", Str.ofString "InvalidWishes", Str.ofString "InUse", Str.ofString "Stuck", Str.ofString "Broken"] then ["index"] else if c = "NothingToUndo" then [] else ["given"]
/-- a built-in name -/
def bltOk (p : Pg) (f : Str) (b : Bf) : Prop := (∃ bv, bfV b = some bv ∧ bootBuiltins f = some bv ∧ p.mg f = none) ∧ (b = .repr → p.fl = true)
end En
/-! En36: a text without own classes; the two defs of Bg1 among the prims. -/
namespace En
open PySem L2 PyProof.Rows TL
def sub0 : Sub := ⟨fun _ _ => none, [], fun _ _ => false⟩
theorem own0 {G : Cfg} : Own G sub0 := ⟨fun c hc => (nomatch hc), fun c u b h => (nomatch h)⟩
def cfg0 (T : List (Addr × Str)) (K : PySem.W.Frag) : Cfg := ⟨K, libW sub0, T, errFl⟩
theorem ct_of0 {T : List (Addr × Str)} {p : Pg} {K : PySem.W.Frag} {g : Gi} (ho : Own (cfg0 T K) sub0) (h1 : ∀ e ∈ g.con, conOk p (cfg0 T K) e.1 e.2) (h2 : ∀ x ∈ g.its, p.mg x = none) (h3 : ∀ e ∈ g.blt, bltOk p e.1 e.2) (h4 : ∀ e ∈ g.mth, e.1 = mfS e.2 ∧ mfS e.2 ≠ "") : Ct p (cfg0 T K) sub0 g where
  hL := rfl
  own := ho
  con := fun x d h => h1 _ (lookup_mem h)
  its := h2
  blt := fun f b h => (h3 _ (lookup_mem h)).1
  rep := fun f h => (h3 _ (lookup_mem h)).2 rfl
  mth := fun m b h => h4 _ (lookup_mem h)
/-! ### begun, most -/
end En
open PySem L2 PyProof.Rows
/-! the small form of the program's defs, printed by a program of this repo; each law checks it against the text. -/
namespace En
end En
/-! Wp: how the meaning of the small form is worked out. -/
namespace En
open PySem L2 PyProof.Rows TL
/-! ### names -/
theorem varW_z {d : D} {r : Env} {Q : D → Prop} : varW 0 (some (.val d) :: r) Q ↔ Q d := by
  unfold varW
  simp
theorem varW_s {x : Option Slot} {i : Nat} {r : Env} {Q : D → Prop} : varW (i + 1) (x :: r) Q ↔ varW i r Q := by
  unfold varW
  simp
theorem barW_z {d : D} {r : Env} {Q : D → Prop} : barW 0 (some (.val d) :: r) Q ↔ Q d := by
  unfold barW
  simp
theorem barW_zo {xs : List D} {t : Option Addr} {r : Env} {Q : D → Prop} : barW 0 (some (.own xs t) :: r) Q ↔ Q (.lst xs) := by
  unfold barW
  simp
theorem barW_s {x : Option Slot} {i : Nat} {r : Env} {Q : D → Prop} : barW (i + 1) (x :: r) Q ↔ barW i r Q := by
  unfold barW
  simp
theorem Rvd_v {d : D} : (Rv.v d).d = d := rfl
theorem Rvd_f {xs : List D} : (Rv.fr xs).d = .lst xs := rfl
theorem cut_take {xs : List D} {i : Nat} : cutD xs none (some (i : Int)) = xs.take i := by
  unfold cutD
  rw [HT.sIx_none, HT.sIx_nat, List.drop_zero, Nat.sub_zero]
  rcases Nat.le_total i xs.length with h | h
  · rw [Nat.min_eq_left h]
  · rw [Nat.min_eq_right h, List.take_length, List.take_of_length_le h]
/-! ### tests -/
theorem ex_bl {b : Bool} {P : Bool → Prop} : (∃ c, D.bl b = D.bl c ∧ P c) ↔ P b := by simp
theorem isi_ty {sub : Sub} {x : D} {a n : Tn} (h : tyN x = some a) {Q : Bool → Prop} : isiW sub x (.ty n) Q ↔ Q (subT a n) := by
  cases x <;> first
    | (cases h; done)
    | (simp only [isiW, h, Option.some.injEq, exists_eq_left'])
theorem isi_i {sub : Sub} {i : Int} {n : Tn} {Q : Bool → Prop} : isiW sub (.int i) (.ty n) Q ↔ Q (subT .int n) := isi_ty rfl
theorem isi_s {sub : Sub} {i : Str} {n : Tn} {Q : Bool → Prop} : isiW sub (.str i) (.ty n) Q ↔ Q (subT .str n) := isi_ty rfl
theorem isi_t {sub : Sub} {i : List D} {n : Tn} {Q : Bool → Prop} : isiW sub (.tup i) (.ty n) Q ↔ Q (subT .tuple n) := isi_ty rfl
theorem eqW_i {C : Call} {i j : Int} {Q : Bool → Prop} : eqW C (.int i) (.int j) Q ↔ Q (decide (i = j)) := by
  have e : (i == j) = decide (i = j) := by
    by_cases h : i = j
    · subst h; simp
    · rw [decide_eq_false h, beq_eq_false_iff_ne]; exact h
  unfold eqW
  constructor
  · rintro (⟨a, b, e1, _⟩ | ⟨_, _, _, _, z⟩ | ⟨z, _⟩ | ⟨_, z, _⟩ | ⟨_, z, _⟩)
    · cases e1
    · simp only [toPy, PyData.eqv, e] at z
      exact z
    · cases z
    · cases z
    · cases z
  · intro z
    refine .inr (.inl ⟨rfl, rfl, rfl, rfl, ?_⟩)
    simp only [toPy, PyData.eqv, e]
    exact z
theorem eqW_ss {C : Call} {i j : Str} {Q : Bool → Prop} : eqW C (.str i) (.str j) Q ↔ Q (decide (i = j)) := by
  unfold eqW
  constructor
  · rintro (⟨a, b, e1, e2, z⟩ | ⟨_, _, _, _, z⟩ | ⟨z, _⟩ | ⟨_, z, _⟩ | ⟨_, z, _⟩)
    · cases e1
      cases e2
      exact z
    · have e : (i == j) = decide (i = j) := by
        by_cases h : i = j
        · subst h; simp
        · rw [decide_eq_false h, beq_eq_false_iff_ne]; exact h
      simp only [toPy, PyData.eqv, e] at z
      exact z
    · cases z
    · cases z
    · cases z
  · exact fun z => .inl ⟨_, _, rfl, rfl, z⟩
/-! ### what built-ins and operators do with data -/
section
variable {sub : Sub} {C : Call} {x y u : D} {xs ys fs : List D} {a s t z c : Str} {i j : Int} {b : Bool} {Q : Rv → Prop} {P : Bool → Prop} {R : List D → Prop} {lo hi : Option Int}
theorem b_isi : bltW sub C .isi [x, u] Q = isiW sub x u fun b => Q (.v (.bl b)) := rfl
theorem b_lenL : bltW sub C .len [.lst xs] Q = Q (.v (.int xs.length)) := rfl
theorem b_lenT : bltW sub C .len [.tup xs] Q = Q (.v (.int xs.length)) := rfl
theorem b_lenS : bltW sub C .len [.str s] Q = (s.length ≤ sizeLine ∧ Q (.v (.int s.length))) := rfl
theorem b_lenO : bltW sub C .len [.obj c fs] Q = C "__len__" [.obj c fs] (fun r => ∃ n : Int, r = .v (.int n) ∧ 0 ≤ n ∧ n < 1000000 ∧ Q (.v (.int n))) E0 := rfl
theorem b_all : bltW sub C .all [.lst xs] Q = ∃ bs, unBl xs = some bs ∧ Q (.v (.bl (bs.all id))) := rfl
theorem b_any : bltW sub C .any [.lst xs] Q = ∃ bs, unBl xs = some bs ∧ Q (.v (.bl (bs.any id))) := rfl
theorem b_tupL : bltW sub C .tup [.lst xs] Q = Q (.v (.tup xs)) := rfl
theorem b_tupT : bltW sub C .tup [.tup xs] Q = Q (.v (.tup xs)) := rfl
theorem b_lstL : bltW sub C .lst [.lst xs] Q = Q (.fr xs) := rfl
theorem b_lstT : bltW sub C .lst [.tup xs] Q = Q (.fr xs) := rfl
theorem b_strO : bltW sub C .str [.obj c fs] Q = C "__str__" [.obj c fs] (fun r => ∃ x, r = .v (.str x) ∧ Q (.v (.str x))) E0 := rfl
theorem b_strI : bltW sub C .str [.int i] Q = (i.natAbs.log2 < 1920 ∧ Q (.v (.str (toString i)))) := rfl
theorem b_strS : bltW sub C .str [.str s] Q = Q (.v (.str s)) := rfl
theorem b_intI : bltW sub C .int [.int i] Q = Q (.v (.int i)) := rfl
theorem b_intS : bltW sub C .int [.str s] Q = ∃ n, PySem.intText? s = some n ∧ s.length ≤ 640 ∧ Q (.v (.int n)) := rfl
theorem b_abs : bltW sub C .abs [.int i] Q = Q (.v (.int (if i < 0 then -i else i))) := rfl
theorem b_min : bltW sub C .min [.int i, .int j] Q = Q (.v (.int (if j < i then j else i))) := rfl
theorem b_max : bltW sub C .max [.int i, .int j] Q = Q (.v (.int (if j > i then j else i))) := rfl
theorem b_sum : bltW sub C .sum [.lst xs] Q = ∃ ns, unInt xs = some ns ∧ Q (.v (.int ns.sum)) := rfl
theorem b_dvm : bltW sub C .divmod [.int i, .int j] Q = (CDiv i j ∧ Q (.v (.tup [.int (i / j), .int (i % j)]))) := rfl
theorem b_boolO : bltW sub C .bool [.obj c fs] Q = C "__bool__" [.obj c fs] (fun r => ∃ n : Int, r = .v (.int n) ∧ 0 ≤ n ∧ n < 1000000 ∧ Q (.v (.bl (n != 0)))) E0 := rfl
theorem b_reprO : bltW sub C .repr [.obj c fs] Q = C "__repr__" [.obj c fs] (fun r => ∃ x, r = .v (.str x) ∧ Q (.v (.str x))) E0 := rfl
theorem b_reprL : bltW sub C .repr [.lst xs] Q = (isDat (.lst xs) = true ∧ (toPy (.lst xs)).showable = true ∧ (toPy (.lst xs)).depth ≤ 60 ∧ (toPy (.lst xs)).shown.length ≤ sizeLine ∧ Q (.v (.str (toPy (.lst xs)).shown))) := rfl
theorem m_joinL : mthW .join (.str a) [.lst xs] Q = ∃ ys, unStr xs = some ys ∧ (ys.map (·.length)).sum + ys.length * a.length ≤ 16777216 ∧ Q (.v (.str (Txt.join a ys))) := rfl
theorem m_joinT : mthW .join (.str a) [.tup xs] Q = ∃ ys, unStr xs = some ys ∧ (ys.map (·.length)).sum + ys.length * a.length ≤ 16777216 ∧ Q (.v (.str (Txt.join a ys))) := rfl
theorem m_split : mthW .split (.str a) [.str t] Q = ((t.length == 0) = false ∧ a.length + 2 ≤ sizeLine ∧ Q (.fr ((Txt.split a t).map D.str))) := rfl
theorem y_join : mtyW .join (.str a) = true := rfl
theorem y_split : mtyW .split (.str a) = true := rfl
theorem c_lt : cmpW C .Lt (.int i) (.int j) P = P (decide (i < j)) := rfl
theorem c_le : cmpW C .LtE (.int i) (.int j) P = P (decide (i ≤ j)) := rfl
theorem c_gt : cmpW C .Gt (.int i) (.int j) P = P (decide (j < i)) := rfl
theorem c_ge : cmpW C .GtE (.int i) (.int j) P = P (decide (j ≤ i)) := rfl
theorem c_is : cmpW C .Is x .non P = P (isNon x) := rfl
theorem c_isn : cmpW C .IsNot x .non P = P (!isNon x) := rfl
theorem c_eq : cmpW C .Eq x y P = eqW C x y P := rfl
theorem c_ne : cmpW C .NotEq x y P = eqW C x y fun b => P (!b) := rfl
theorem c_in : cmpW C .In x y P = inW x y P := rfl
theorem c_nin : cmpW C .NotIn x y P = inW x y fun b => P (!b) := rfl
theorem i_str : inW x (.str z) P = ∃ c, x = .str ⟨#[c]⟩ ∧ P (decide (c ∈ z.cps.toList)) := rfl
theorem i_tup : inW x (.tup ys) P = (flatD x = true ∧ ys.all flatD = true ∧ P (ys.any fun y => eqF y x)) := rfl
theorem i_lst : inW x (.lst ys) P = (flatD x = true ∧ ys.all flatD = true ∧ P (ys.any fun y => eqF y x)) := rfl
theorem t_bl : truW (.bl b) P = P b := rfl
theorem t_int : truW (.int i) P = P (i != 0) := rfl
theorem n_int : negW (.int i) Q = Q (.v (.int (-i))) := rfl
theorem o_addI : binW .Add (.int i) (.int j) Q = Q (.v (.int (i + j))) := rfl
theorem o_addS : binW .Add (.str s) (.str t) Q = (s.length + t.length ≤ sizeLine ∧ Q (.v (.str (s ++ t)))) := rfl
theorem o_addT : binW .Add (.tup xs) (.tup ys) Q = (xs.length + ys.length ≤ sizeLine ∧ Q (.v (.tup (xs ++ ys)))) := rfl
theorem o_addL : binW .Add (.lst xs) (.lst ys) Q = (xs.length + ys.length ≤ sizeLine ∧ Q (.fr (xs ++ ys))) := rfl
theorem o_sub : binW .Sub (.int i) (.int j) Q = Q (.v (.int (i - j))) := rfl
theorem o_mul : binW .Mult (.int i) (.int j) Q = (IntMulOk i j ∧ Q (.v (.int (i * j)))) := rfl
theorem o_fdv : binW .FloorDiv (.int i) (.int j) Q = (CDv i j ∧ Q (.v (.int (i / j)))) := rfl
theorem o_mod : binW .Mod (.int i) (.int j) Q = (0 < j ∧ Q (.v (.int (i % j)))) := rfl
theorem o_pow : binW .Pow (.int i) (.int j) Q = (CPow i j ∧ Q (.v (.int (i ^ j.toNat)))) := rfl
theorem x_lst : idxW (.lst xs) (.int i) Q = ∃ d, atI xs i = some d ∧ Q (.v d) := rfl
theorem x_tup : idxW (.tup xs) (.int i) Q = ∃ d, atI xs i = some d ∧ Q (.v d) := rfl
theorem x_str : idxW (.str s) (.int i) Q = (s.length ≤ sizeLine ∧ ∃ c, atI s.cps.toList i = some c ∧ Q (.v (.str ⟨#[c]⟩))) := rfl
theorem l_lst : slcW (.lst xs) lo hi Q = Q (.fr (cutD xs lo hi)) := rfl
theorem l_tup : slcW (.tup xs) lo hi Q = Q (.v (.tup (cutD xs lo hi))) := rfl
theorem l_str : slcW (.str s) lo hi Q = (s.length ≤ sizeLine ∧ Q (.v (.str (cutS s lo hi)))) := rfl
theorem q_lst : seqW (.lst xs) R = R xs := rfl
theorem q_tup : seqW (.tup xs) R = R xs := rfl
theorem q_str : seqW (.str s) R = (s.length ≤ sizeLine ∧ R (s.cps.toList.map fun c => .str ⟨#[c]⟩)) := rfl
theorem e_lst : enuW (.lst xs) R = R xs := rfl
theorem e_tup : enuW (.tup xs) R = R xs := rfl
end
/-! ### comprehensions -/
/-- each item gives one thing -/
theorem fold_map {step : D → List D → (List D → Prop) → Prop} {f : D → D} {Q : List D → Prop} : ∀ (items : List D) (acc : List D), (∀ x ∈ items, ∀ acc K, K (acc ++ [f x]) → step x acc K) → Q (acc ++ items.map f) → foldW step items acc Q
  | [], acc, _, q => by
    unfold foldW
    simpa using q
  | x :: xs, acc, h, q => by
    unfold foldW
    refine h x List.mem_cons_self acc _ (fold_map xs _ (fun y hy => h y (List.mem_cons_of_mem _ hy)) ?_)
    simpa using q
theorem unBl_map {α : Type} {f : α → Bool} : ∀ l : List α, unBl (l.map fun x => D.bl (f x)) = some (l.map f)
  | [] => rfl
  | x :: l => by
    simp only [List.map_cons, unBl, unBl_map l]
    rfl
/-! ### texts -/
def asc (s : Str) : Prop := ∀ c ∈ tl s, c < 128
theorem asc.ok {s : Str} (h : asc s) : PyData.strOk s = true := by
  unfold PyData.strOk
  rw [Array.all_eq_true_iff_forall_mem]
  intro c hc
  have := h c (by simpa [TL.tl] using hc)
  simp
  omega
/-! ### walks -/
theorem for_inv_go {turn : D → Env → (Env → Prop) → Prop} {P : Nat → Env → Prop} {items : List D} {K0 : Env → Prop} (hs : ∀ i x r, items[i]? = some x → P i r → ∀ K : Env → Prop, (∀ r', P (i + 1) r' → K r') → turn x r K) (he : ∀ r, P items.length r → K0 r) :
    ∀ (rest : List D) (i : Nat) (r : Env), i ≤ items.length → items.drop i = rest → P i r → forW turn rest r K0
  | [], i, r, hi, hd, hp => by
    unfold forW
    have h2 : items.length ≤ i := by simpa using List.drop_eq_nil_iff.mp hd
    have e : i = items.length := by omega
    subst e
    exact he r hp
  | x :: rest, i, r, hi, hd, hp => by
    unfold forW
    have hlt : i < items.length := by
      rcases Nat.lt_or_ge i items.length with z | z
      · exact z
      · rw [List.drop_eq_nil_of_le z] at hd; cases hd
    rw [List.drop_eq_getElem_cons hlt] at hd
    injection hd with h1 h2
    refine hs i x r (by rw [List.getElem?_eq_getElem hlt, h1]) hp _ fun r' hp' => ?_
    exact for_inv_go hs he rest (i + 1) r' hlt h2 hp'
theorem for_inv {turn : D → Env → (Env → Prop) → Prop} (P : Nat → Env → Prop) {items : List D} {K0 : Env → Prop} {r : Env} (h0 : P 0 r) (hs : ∀ i x r, items[i]? = some x → P i r → ∀ K : Env → Prop, (∀ r', P (i + 1) r' → K r') → turn x r K) (he : ∀ r, P items.length r → K0 r) : forW turn items r K0 :=
  for_inv_go hs he items 0 r (Nat.zero_le _) rfl h0
/-! ### one step at a time -/
section
variable {B : Lib} {C : Call} (hB : B.Mono) (hC : MonoC C)
include hB hC
theorem T_is {t : Ex} {r : Env} {F : Bool → Prop} {E : XP} (b0 : Bool) (h : (evP B C t r).T (fun b => b = b0) E) (q : F b0) : (evP B C t r).T F E := (evP_mono hB hC t r).T _ _ _ _ (fun b e => by rw [e]; exact q) (fun _ _ z => z) h
theorem R_is {t : Ex} {r : Env} {F : Rv → Prop} {E : XP} (x0 : Rv) (h : (evP B C t r).R (fun x => x = x0) E) (q : F x0) : (evP B C t r).R F E := (evP_mono hB hC t r).R _ _ _ _ (fun b e => by rw [e]; exact q) (fun _ _ z => z) h
theorem s_if {t : Ex} {a b : Sms} {N : Nd} {r : Env} {E : XP} (b0 : Bool) (h : (evP B C t r).T (fun b => b = b0) E) (q : exSs B C (if b0 = true then a else b) N r E) : exS B C (.iff t a b) N r E := by
  unfold exS
  refine T_is hB hC b0 h ?_
  cases b0 <;> exact q
theorem s_ret {e : Ex} {N : Nd} {r : Env} {E : XP} (x0 : Rv) (h : (evP B C e r).R (fun x => x = x0) E) (q : N.rt x0 r) : exS B C (.ret e) N r E := by
  unfold exS
  exact R_is hB hC x0 h q
theorem s_set {e : Ex} {i : Nat} {N : Nd} {r : Env} {E : XP} (x0 : Rv) (h : (evP B C e r).R (fun x => x = x0) E) (q : N.nx (r.set i (some (.val x0.d)))) : exS B C (.set i e) N r E := by
  unfold exS
  exact R_is hB hC x0 h q
end
theorem ss_c {B : Lib} {C : Call} {s : Sm} {q : Sms} {N : Nd} {r : Env} {E : XP} (h : exS B C s { N with nx := fun r' => exSs B C q N r' E } r E) : exSs B C (.cons s q) N r E := by
  unfold exSs
  exact h
theorem ss_n {B : Lib} {C : Call} {N : Nd} {r : Env} {E : XP} (h : N.nx r) : exSs B C .nil N r E := by
  unfold exSs
  exact h
end En
namespace En
open PySem L2 PyProof.Rows TL
/-! ### names -/
def frm (n : Nat) (f : List Int) : Prop := f.length = n + 1 ∧ ∀ c ∈ f, -1000000 ≤ c ∧ c ≤ 1000000
theorem sl_le {n : Nat} (h : n ≤ 100000) : n ≤ sizeLine := by rw [sizeLine_eq]; omega
theorem atI_nat {α : Type} {xs : List α} {i : Nat} {x : α} (h : xs[i]? = some x) : atI xs (i : Int) = some x := by
  have hl : i < xs.length := by
    rcases Nat.lt_or_ge i xs.length with z | z
    · exact z
    · rw [List.getElem?_eq_none z] at h; cases h
  unfold atI ixN
  rw [if_pos (by omega), if_pos (by omega)]
  simpa using h
end En
namespace En
open PySem L2 PyProof.Rows TL
/-! ### places -/
end En
namespace En
open PySem L2 PyProof.Rows TL
/-! ### places of a beginning -/
end En
namespace En
open PySem L2 PyProof.Rows TL
/-! ### texts of numbers and lines, plain -/
/-- signs of a text -/
def sg (p : Nat → Prop) (s : Str) : Prop := ∀ c ∈ tl s, p c
theorem sg.app {p : Nat → Prop} {s t : Str} (h1 : sg p s) (h2 : sg p t) : sg p (s ++ t) := by
  intro c hc
  rw [tl_append] at hc
  rcases List.mem_append.mp hc with z | z
  · exact h1 c z
  · exact h2 c z
theorem joinL_mem {S : List Nat} {p : Nat → Prop} (hS : ∀ c ∈ S, p c) : ∀ {l : List (List Nat)}, (∀ x ∈ l, ∀ c ∈ x, p c) → ∀ c ∈ joinL S l, p c
  | [], _, c, hc => by cases hc
  | [x], h, c, hc => h x List.mem_cons_self c hc
  | x :: y :: r, h, c, hc => by
    have hc : c ∈ x ++ (S ++ joinL S (y :: r)) := hc
    rcases List.mem_append.mp hc with z | z
    · exact h x List.mem_cons_self c z
    · rcases List.mem_append.mp z with z | z
      · exact hS c z
      · exact joinL_mem hS (fun u hu => h u (List.mem_cons_of_mem _ hu)) c z
theorem sg.join {p : Nat → Prop} {y : Str} {l : List Str} (hy : sg p y) (h : ∀ x ∈ l, sg p x) : sg p (Txt.join y l) := by
  intro c hc
  rw [join_eq, tl_join] at hc
  refine joinL_mem hy (fun x hx => ?_) c hc
  obtain ⟨s, hs, rfl⟩ := List.mem_map.mp hx
  exact h s hs
/-! ### the lines of a program -/
end En
namespace En
open PySem L2 PyProof.Rows TL
/-! ### the program's class -/
theorem log2_small {n : Nat} (h : n ≤ 1000000) : n.log2 < 1920 := by
  rcases Nat.eq_zero_or_pos n with e | e
  · subst e
    decide
  · have : n.log2 < 20 := (Nat.log2_lt (by omega)).mpr (by omega)
    omega
end En
namespace En
open PySem L2 PyProof.Rows TL
/-! ### reading -/
end En
namespace En
open PySem L2 PyProof.Rows TL
/-! ### the text read back, plain -/
/-! ### lines of words -/
end En
namespace En
open PySem L2 PyProof.Rows TL
/-! ### reading, whole -/
theorem frm.ne {n : Nat} {f : List Int} (h : frm n f) : f ≠ [] := fun e => by
  have := h.1
  rw [e] at this
  cases this
end En
namespace En
open PySem L2 PyProof.Rows TL
/-! ### a text read -/
theorem fold_map2 {α : Type} {step : D → List D → (List D → Prop) → Prop} {g h : α → D} {Q : List D → Prop} : ∀ (xs : List α) (acc : List D), (∀ x ∈ xs, ∀ acc K, K (acc ++ [h x]) → step (g x) acc K) → Q (acc ++ xs.map h) → foldW step (xs.map g) acc Q
  | [], acc, _, q => by
    unfold foldW
    simpa using q
  | x :: xs, acc, hs, q => by
    rw [List.map_cons]
    unfold foldW
    refine hs x List.mem_cons_self acc _ (fold_map2 xs _ (fun y hy => hs y (List.mem_cons_of_mem _ hy)) ?_)
    simpa using q
end En
/-! small forms of helpers of the laws, printed by a program of this repo; each law checks them against its text. -/
namespace En
/-- 2, 5 -/
def lh_begun : Sms := (.cons (.set 2 (.ite (.cmp .Lt (.var 1) (.blt .len (.cons (.var 0) .nil))) (.idx (.var 0) (.var 1)) (.con (.int 0)))) (.cons (.set 3 (.bin .Add (.con (.int 60013)) (.bin .Mult (.con (.int 7727)) (.var 1)))) (.cons (.forr (.nm 4) (.seq (.slc (.var 0) .no (.so (.con (.int 6))))) (.cons (.set 3 (.bin .Mod (.blt .int (.cons (.bin .Add (.bin .Add (.bin .Mult (.var 3) (.con (.int 30269))) (.bin .Mult (.var 4) (.con (.int 7)))) (.con (.int 13))) .nil)) (.con (.int 2147483629)))) .nil)) (.cons (.ret (.lst (.cons (.ite (.or (.cmp .Lt (.var 2) (.con (.int 0))) (.cmp .GtE (.var 2) (.bin .Pow (.con (.int 10)) (.con (.int 18))))) (.blt .abs (.cons (.var 2) .nil)) (.con (.int 0))) (.cons (.bin .Mod (.blt .int (.cons (.bin .Add (.bin .Add (.bin .Mult (.var 3) (.con (.int 53))) (.bin .Mult (.var 2) (.var 2))) (.bin .Mult (.con (.int 17)) (.var 1))) .nil)) (.con (.int 2147483629))) (.cons (.con (.int 0)) .nil))))) .nil))))
/-- 2, 4 -/
def lh_cast : Sms := (.cons (.iff (.cmp .Gt (.idx (.var 0) (.con (.int 0))) (.con (.int 0))) (.cons (.dvs 0 (.con (.int 0)) 2 (.blt .divmod (.cons (.idx (.var 0) (.con (.int 0))) (.cons (.var 1) .nil)))) (.cons (.ret (.var 2)) .nil)) .nil) (.cons (.put 0 (.con (.int 2)) (.bin .Add (.idx (.var 0) (.con (.int 2))) (.con (.int 1)))) (.cons (.set 3 (.bin .Mod (.blt .int (.cons (.bin .Add (.bin .Add (.bin .Mult (.idx (.var 0) (.con (.int 1))) (.bin .Add (.con (.int 36809)) (.bin .Mult (.con (.int 2)) (.idx (.var 0) (.con (.int 2)))))) (.bin .Mult (.con (.int 5303)) (.idx (.var 0) (.con (.int 2))))) (.con (.int 7))) .nil)) (.con (.int 2147483629)))) (.cons (.put 0 (.con (.int 1)) (.bin .Mod (.blt .int (.cons (.bin .Add (.bin .Add (.bin .Mult (.var 3) (.con (.int 45413))) (.bin .Mult (.con (.int 3)) (.idx (.var 0) (.con (.int 2))))) (.con (.int 1))) .nil)) (.con (.int 2147483587)))) (.cons (.ret (.bin .Mod (.blt .int (.cons (.bin .FloorDiv (.idx (.var 0) (.con (.int 1))) (.con (.int 256))) .nil)) (.var 1))) .nil)))))
/-- 2, 2 -/
def lh_any_of : Sms := (.cons (.ret (.idx (.var 1) (.fn "_law_cast" (.cons (.var 0) (.cons (.blt .len (.cons (.var 1) .nil)) .nil))))) .nil)
/-- 2, 4 -/
def lh_tags : Sms := (.cons (.set 2 (.lst (.cons (.con (.str "x")) (.cons (.con (.str "y")) (.cons (.con (.str "a")) (.cons (.con (.str "b")) (.cons (.con (.str "k9")) (.cons (.con (.str "vars")) (.cons (.con (.str "say")) (.cons (.con (.str "then")) (.cons (.con (.str "test")) (.cons (.con (.str "branch")) (.cons (.con (.str "abcdefgh")) (.cons (.con (.str "n")) (.cons (.con (.str "z0000000")) (.cons (.con (.str "undo")) .nil)))))))))))))))) (.cons (.set 3 (.fn "_law_cast" (.cons (.var 0) (.cons (.blt .len (.cons (.var 2) .nil)) .nil)))) (.cons (.ret (.slc (.bin .Add (.slc (.var 2) (.so (.var 3)) .no) (.slc (.var 2) .no (.so (.var 3)))) .no (.so (.var 1)))) .nil)))
/-- 1, 2 -/
def lh_wide : Sms := (.cons (.set 1 (.fn "_law_cast" (.cons (.var 0) (.cons (.con (.int 8)) .nil)))) (.cons (.iff (.cmp .Lt (.var 1) (.con (.int 5))) (.cons (.ret (.bin .Sub (.fn "_law_cast" (.cons (.var 0) (.cons (.con (.int 7)) .nil))) (.con (.int 3)))) .nil) .nil) (.cons (.iff (.cmp .Eq (.var 1) (.con (.int 5))) (.cons (.ret (.fn "_law_any_of" (.cons (.var 0) (.cons (.lst (.cons (.bin .Pow (.con (.int 10)) (.con (.int 6))) (.cons (.neg (.bin .Pow (.con (.int 10)) (.con (.int 6)))) (.cons (.con (.int 999999)) (.cons (.con (.int 10)) .nil))))) .nil)))) .nil) .nil) (.cons (.ret (.ite (.cmp .Eq (.var 1) (.con (.int 6))) (.bin .Sub (.fn "_law_cast" (.cons (.var 0) (.cons (.con (.int 41)) .nil))) (.con (.int 20))) (.bin .Sub (.fn "_law_cast" (.cons (.var 0) (.cons (.bin .Add (.bin .Mult (.con (.int 2)) (.bin .Pow (.con (.int 10)) (.con (.int 6)))) (.con (.int 1))) .nil))) (.bin .Pow (.con (.int 10)) (.con (.int 6)))))) .nil))))
/-- 2, 3 -/
def lh_form : Sms := (.cons (.ret (.blt .tup (.cons (.lc (.fn "_law_wide" (.cons (.var 0) .nil)) (.nm 2) (.rng1 (.bin .Add (.var 1) (.con (.int 1)))) .no [2]) .nil))) .nil)
end En
namespace En
open PySem L2 PyProof.Rows TL
local macro_rules | `(tactic| walk_at "wps") => `(tactic| simp only [exSs, exS, evR, evT, evS, evP, evAs, evO, evC, evI, evIF, evF, mkV, mkT, Rvd_v, Rvd_f, varW_z, varW_s, barW_z, barW_zo, barW_s, ex_bl, libW, isi_i, isi_s, isi_t, eqW_i, fzE, fzV, slotOf, bindTg, bindTgs, wip, startD, List.map_cons, List.map_nil, List.replicate, List.length_cons, List.length_nil, List.cons_append, List.nil_append, List.set_cons_zero, List.set_cons_succ, Nat.reduceAdd, Nat.reduceSub, Nat.sub_self, Nat.add_sub_cancel, List.getElem?_cons_zero, List.getElem?_cons_succ, setAll, b_isi, b_lenL, b_lenT, b_lenS, b_lenO, b_all, b_any, b_tupL, b_tupT, b_lstL, b_lstT, b_strO, b_strI, b_strS, b_intI, b_intS, b_abs, b_min, b_max, b_sum, b_dvm, b_boolO, b_reprO, b_reprL, m_joinL, m_joinT, m_split, y_join, y_split, c_lt, c_le, c_gt, c_ge, c_is, c_isn, c_eq, c_ne, c_in, c_nin, i_str, i_tup, i_lst, t_bl, t_int, n_int, o_addI, o_addS, o_addT, o_addL, o_sub, o_mul, o_fdv, o_mod, o_pow, x_lst, x_tup, x_str, l_lst, l_tup, l_str, q_lst, q_tup, q_str, e_lst, e_tup])
/-! ### the pail -/
theorem mulL {i j : Int} (h1 : -1000000000000 ≤ i) (h2 : i ≤ 1000000000000) : IntMulOk i j := CMul.ok (.inl ⟨by omega, by omega⟩)
theorem mulR {i j : Int} (h1 : -1000000000000 ≤ j) (h2 : j ≤ 1000000000000) : IntMulOk i j := CMul.ok (.inr ⟨by omega, by omega⟩)
theorem atI_map {ns : List Int} {t : Int} (h0 : 0 ≤ t) (h1 : t < ns.length) : ∃ n ∈ ns, atI (ns.map D.int) t = some (.int n) := by
  obtain ⟨k, rfl⟩ := Int.eq_ofNat_of_zero_le h0
  have hl : k < ns.length := by omega
  refine ⟨ns[k], List.getElem_mem _, atI_nat ?_⟩
  rw [List.getElem?_map, List.getElem?_eq_getElem hl]
  rfl
theorem begun_ok {sub : Sub} : BegOk false (libW sub) 5 lh_begun := by
  intro C ds Q E hC hb
  obtain ⟨ns, t, rfl, h0, h1, h2, h3, q⟩ := hb
  have hB : (libW sub).Mono := libW_mono sub
  have own : ∃ o : Int, (o = 0 ∨ o ∈ ns) ∧ (evP (libW sub) C (.ite (.cmp .Lt (.var 1) (.blt .len (.cons (.var 0) .nil))) (.idx (.var 0) (.var 1)) (.con (.int 0))) [some (.val (.lst (ns.map D.int))), some (.val (.int t)), none, none, none]).R (fun x => x = .v (.int o)) E := by
    by_cases h : t < ns.length
    · obtain ⟨n, hn, e⟩ := atI_map h0 h
      refine ⟨n, .inr hn, ?_⟩
      simp only [exSs, exS, evR, evT, evS, evP, evAs, evO, evC, evI, evIF, evF, mkV, mkT, Rvd_v, Rvd_f, varW_z, varW_s, barW_z, barW_zo, barW_s, ex_bl, libW, isi_i, isi_s, isi_t, eqW_i, fzE, fzV, slotOf, bindTg, bindTgs, wip, startD, List.map_cons, List.map_nil, List.replicate, List.length_cons, List.length_nil, List.cons_append, List.nil_append, List.set_cons_zero, List.set_cons_succ, Nat.reduceAdd, Nat.reduceSub, Nat.sub_self, Nat.add_sub_cancel, List.getElem?_cons_zero, List.getElem?_cons_succ, setAll, b_isi, b_lenL, b_lenT, b_lenS, b_lenO, b_all, b_any, b_tupL, b_tupT, b_lstL, b_lstT, b_strO, b_strI, b_strS, b_intI, b_intS, b_abs, b_min, b_max, b_sum, b_dvm, b_boolO, b_reprO, b_reprL, m_joinL, m_joinT, m_split, y_join, y_split, c_lt, c_le, c_gt, c_ge, c_is, c_isn, c_eq, c_ne, c_in, c_nin, i_str, i_tup, i_lst, t_bl, t_int, n_int, o_addI, o_addS, o_addT, o_addL, o_sub, o_mul, o_fdv, o_mod, o_pow, x_lst, x_tup, x_str, l_lst, l_tup, l_str, q_lst, q_tup, q_str, e_lst, e_tup, List.length_map, decide_eq_true h, if_true]
      exact ⟨_, e, rfl⟩
    · refine ⟨0, .inl rfl, ?_⟩
      simp only [exSs, exS, evR, evT, evS, evP, evAs, evO, evC, evI, evIF, evF, mkV, mkT, Rvd_v, Rvd_f, varW_z, varW_s, barW_z, barW_zo, barW_s, ex_bl, libW, isi_i, isi_s, isi_t, eqW_i, fzE, fzV, slotOf, bindTg, bindTgs, wip, startD, List.map_cons, List.map_nil, List.replicate, List.length_cons, List.length_nil, List.cons_append, List.nil_append, List.set_cons_zero, List.set_cons_succ, Nat.reduceAdd, Nat.reduceSub, Nat.sub_self, Nat.add_sub_cancel, List.getElem?_cons_zero, List.getElem?_cons_succ, setAll, b_isi, b_lenL, b_lenT, b_lenS, b_lenO, b_all, b_any, b_tupL, b_tupT, b_lstL, b_lstT, b_strO, b_strI, b_strS, b_intI, b_intS, b_abs, b_min, b_max, b_sum, b_dvm, b_boolO, b_reprO, b_reprL, m_joinL, m_joinT, m_split, y_join, y_split, c_lt, c_le, c_gt, c_ge, c_is, c_isn, c_eq, c_ne, c_in, c_nin, i_str, i_tup, i_lst, t_bl, t_int, n_int, o_addI, o_addS, o_addT, o_addL, o_sub, o_mul, o_fdv, o_mod, o_pow, x_lst, x_tup, x_str, l_lst, l_tup, l_str, q_lst, q_tup, q_str, e_lst, e_tup, List.length_map, decide_eq_false h]
      exact iff_ trivial
  obtain ⟨o, ho, ev⟩ := own
  unfold lh_begun
  refine ss_c (s_set hB hC _ ev ?_)
  refine ss_c (s_set hB hC (.v (.int (60013 + 7727 * t))) ?_ ?_)
  · walk_at "wps"
    exact ⟨mulL (by omega) (by omega), trivial⟩
  refine ss_c ?_
  unfold exS
  walk_at "wps"
  refine ⟨6, rfl, ?_⟩
  have ec : cutD (ns.map D.int) none (some ((6 : Nat) : Int)) = (ns.map D.int).take 6 := cut_take
  have ec : cutD (ns.map D.int) none (some 6) = (ns.take 6).map D.int := by rw [List.map_take]; exact ec
  rw [ec]
  refine for_inv (fun i r => ∃ (s : Int) (a : Option Slot), (0 ≤ s ∧ s < 2147483648) ∧ r = [some (.val (.lst (ns.map D.int))), some (.val (.int t)), some (.val (.int o)), some (.val (.int s)), a]) ⟨_, _, ⟨by omega, by omega⟩, rfl⟩ (fun i x r hx hp K hk => ?_) fun r hp => ?_
  · obtain ⟨s, a, hs, rfl⟩ := hp
    rw [List.getElem?_map] at hx
    obtain ⟨n, hn, rfl⟩ := Option.map_eq_some_iff.mp hx
    walk_at "wps"
    refine ⟨mulL (by omega) (by omega), mulR (by omega) (by omega), by omega, ?_⟩
    exact hk _ ⟨_, _, ⟨Int.emod_nonneg _ (by omega), by have := Int.emod_lt_of_pos (s * 30269 + n * 7 + 13) (b := 2147483629) (by omega); omega⟩, rfl⟩
  · obtain ⟨s, a, hs, rfl⟩ := hp
    have hbits : IntMulOk o o := by
      rcases ho with e | e
      · subst e
        exact mulL (by omega) (by omega)
      · exact IntMulOk.of_bits (h3 o e) (h3 o e)
    have fin : ∀ i : Int, 0 ≤ i → ∃ i_1 j k : Int, Rv.fr [D.int i, D.int ((s * 53 + o * o + 17 * t) % 2147483629), D.int 0] = .fr [.int i_1, .int j, .int k] ∧ PInv false i_1 j ∧ Q (.v .pail) := fun i hi =>
      ⟨i, _, 0, rfl, fun _ => ⟨hi, Int.emod_nonneg _ (by omega), by have := Int.emod_lt_of_pos (s * 53 + o * o + 17 * t) (b := 2147483629) (by omega); omega⟩, q⟩
    walk_at "wps"
    by_cases hn : o < 0
    · rw [decide_eq_true hn]
      refine ift ?_
      simp only [if_true]
      refine ⟨mulL (by omega) (by omega), hbits, mulL (by omega) (by omega), by omega, sl_le (by omega), ?_⟩
      rw [if_pos hn]
      exact fin _ (by omega)
    · rw [decide_eq_false hn]
      refine iff_ ?_
      refine ⟨⟨by omega, by omega, by decide⟩, ?_⟩
      have e10 : (10 : Int) ^ (18 : Int).toNat = 1000000000000000000 := by decide
      rw [e10]
      by_cases hg : (1000000000000000000 : Int) ≤ o
      · rw [decide_eq_true hg]
        refine ift ?_
        refine ⟨mulL (by omega) (by omega), hbits, mulL (by omega) (by omega), by omega, sl_le (by omega), ?_⟩
        rw [if_neg hn]
        exact fin _ (by omega)
      · rw [decide_eq_false hg]
        refine iff_ ?_
        refine ⟨mulL (by omega) (by omega), hbits, mulL (by omega) (by omega), by omega, sl_le (by omega), ?_⟩
        exact fin _ (by omega)
theorem atI_t0 {x y z : D} : atI [x, y, z] 0 = some x := rfl
theorem atI_t1 {x y z : D} : atI [x, y, z] 1 = some y := rfl
theorem atI_t2 {x y z : D} : atI [x, y, z] 2 = some z := rfl
theorem cast_w {sub : Sub} : CstOk false (libW sub) 4 lh_cast := by
  intro C m Q hC hm0 hm1 q a i j l hij
  obtain ⟨hi, hj, hj2⟩ := hij rfl
  have hB : (libW sub).Mono := libW_mono sub
  unfold lh_cast startP
  by_cases h : 0 < i
  · refine ss_c (s_if hB hC true ?_ ?_)
    · walk_at "wps"
      refine ⟨_, atI_t0, ?_⟩
      walk_at "wps"
      exact decide_eq_true h
    · refine ss_c ?_
      unfold exS
      walk_at "wps"
      refine ⟨_, _, rfl, _, atI_t0, ?_⟩
      walk_at "wps"
      refine ⟨⟨hm0, hm1⟩, _, _, rfl, _, _, rfl, rfl, ?_⟩
      refine ⟨i / m, j, l, i % m, rfl, rfl, fun _ => ⟨Int.ediv_nonneg hi (by omega), hj, hj2⟩, q _ (Int.emod_nonneg _ (by omega)) (Int.emod_lt_of_pos _ hm0)⟩
  · refine ss_c (s_if hB hC false ?_ (ss_n ?_))
    · walk_at "wps"
      refine ⟨_, atI_t0, ?_⟩
      walk_at "wps"
      exact decide_eq_false h
    · refine ss_c ?_
      unfold exS
      walk_at "wps"
      refine ⟨_, _, rfl, _, atI_t2, ?_⟩
      walk_at "wps"
      refine ⟨_, _, rfl, rfl, ?_⟩
      refine ⟨_, atI_t1, ?_⟩
      refine ⟨D.int (l + 1), rfl, ?_⟩
      have ev : [D.int i, D.int j, D.int l].set (Int.toNat 2) (D.int (l + 1)) = [D.int i, D.int j, D.int (l + 1)] := rfl
      simp only [exSs, exS, evR, evT, evS, evP, evAs, evO, evC, evI, evIF, evF, mkV, mkT, Rvd_v, Rvd_f, varW_z, varW_s, barW_z, barW_zo, barW_s, ex_bl, libW, isi_i, isi_s, isi_t, eqW_i, fzE, fzV, slotOf, bindTg, bindTgs, wip, startD, List.map_cons, List.map_nil, List.replicate, List.length_cons, List.length_nil, List.cons_append, List.nil_append, List.set_cons_zero, List.set_cons_succ, Nat.reduceAdd, Nat.reduceSub, Nat.sub_self, Nat.add_sub_cancel, List.getElem?_cons_zero, List.getElem?_cons_succ, setAll, b_isi, b_lenL, b_lenT, b_lenS, b_lenO, b_all, b_any, b_tupL, b_tupT, b_lstL, b_lstT, b_strO, b_strI, b_strS, b_intI, b_intS, b_abs, b_min, b_max, b_sum, b_dvm, b_boolO, b_reprO, b_reprL, m_joinL, m_joinT, m_split, y_join, y_split, c_lt, c_le, c_gt, c_ge, c_is, c_isn, c_eq, c_ne, c_in, c_nin, i_str, i_tup, i_lst, t_bl, t_int, n_int, o_addI, o_addS, o_addT, o_addL, o_sub, o_mul, o_fdv, o_mod, o_pow, x_lst, x_tup, x_str, l_lst, l_tup, l_str, q_lst, q_tup, q_str, e_lst, e_tup, ev]
      refine ⟨mulL (by omega) (by omega), mulL (by omega) (by omega), D.int (l + 1), rfl, ?_⟩
      walk_at "wps"
      refine ⟨mulL (by omega) (by omega), by omega, _, _, rfl, ?_⟩
      have hs0 := Int.emod_nonneg (j * (36809 + 2 * (l + 1)) + 5303 * (l + 1) + 7) (b := 2147483629) (by omega)
      have hs1 := Int.emod_lt_of_pos (j * (36809 + 2 * (l + 1)) + 5303 * (l + 1) + 7) (b := 2147483629) (by omega)
      generalize (j * (36809 + 2 * (l + 1)) + 5303 * (l + 1) + 7) % 2147483629 = st at hs0 hs1 ⊢
      refine ⟨mulL (by omega) (by omega), D.int (l + 1), rfl, ?_⟩
      walk_at "wps"
      refine ⟨mulL (by omega) (by omega), by omega, _, _, rfl, rfl, ?_⟩
      have ht0 := Int.emod_nonneg (st * 45413 + 3 * (l + 1) + 1) (b := 2147483587) (by omega)
      have ht1 := Int.emod_lt_of_pos (st * 45413 + 3 * (l + 1) + 1) (b := 2147483587) (by omega)
      generalize (st * 45413 + 3 * (l + 1) + 1) % 2147483587 = tt at ht0 ht1 ⊢
      refine ⟨D.int tt, rfl, ?_⟩
      walk_at "wps"
      refine ⟨⟨by omega, by omega⟩, hm0, ?_⟩
      refine ⟨i, tt, l + 1, _, rfl, rfl, fun _ => ⟨hi, ht0, by omega⟩, q _ (Int.emod_nonneg _ (by omega)) (Int.emod_lt_of_pos _ hm0)⟩
end En
namespace En
open PySem L2 PyProof.Rows TL
/-! ### draws -/
structure LgD (fs : List (Str × Fn)) (l : List (Str × Prim)) : Prop where
  noC : fs.lookup ("_law_cast" : Str) = none
  lC : l.lookup ("_law_cast" : Str) = some (pCst false)
  any_of : fs.lookup ("_law_any_of" : Str) = some ⟨2, 2, lh_any_of⟩
  tags : fs.lookup ("_law_tags" : Str) = some ⟨2, 4, lh_tags⟩
  wide : fs.lookup ("_law_wide" : Str) = some ⟨1, 2, lh_wide⟩
  form : fs.lookup ("_law_form" : Str) = some ⟨2, 3, lh_form⟩
end En
namespace En
open PySem L2 PyProof.Rows TL
/-! ### parts of a program, drawn -/
end En
namespace En
open PySem L2 PyProof.Rows TL
/-! ### places by the law; a program built -/
end En
namespace En
open PySem L2 PyProof.Rows TL
/-! ### data that repr shows -/
structure Sz (d : D) (dep w : Nat) : Prop where
  dat : isDat d = true
  shw : (toPy d).showable = true
  dp : (toPy d).depth ≤ dep
  sh : (toPy d).leavesShort 120 = true
  wt : (toPy d).weight ≤ w
structure Szs (ds : List D) (dep w : Nat) : Prop where
  dat : isDats ds = true
  shw : PyData.showableAll (toPys ds) = true
  dp : PyData.depthAll (toPys ds) ≤ dep
  sh : PyData.leavesShortAll 120 (toPys ds) = true
  wt : PyData.weightAll (toPys ds) ≤ w
theorem Sz.le {d : D} {a b a' b' : Nat} (h : Sz d a b) (h1 : a ≤ a') (h2 : b ≤ b') : Sz d a' b' := ⟨h.dat, h.shw, Nat.le_trans h.dp h1, h.sh, Nat.le_trans h.wt h2⟩
theorem Szs.nil {a b : Nat} : Szs [] a b := ⟨rfl, rfl, Nat.zero_le _, rfl, Nat.zero_le _⟩
theorem Szs.cons {d : D} {ds : List D} {a b c : Nat} (h : Sz d a b) (hs : Szs ds a c) : Szs (d :: ds) a (b + 1 + c) where
  dat := by simp only [isDats, h.dat, hs.dat, Bool.and_self]
  shw := by simp only [toPys, PyData.showableAll, h.shw, hs.shw, Bool.and_self]
  dp := by
    simp only [toPys, PyData.depthAll]
    have := h.dp
    have := hs.dp
    omega
  sh := by simp only [toPys, PyData.leavesShortAll, h.sh, hs.sh, Bool.and_self]
  wt := by
    simp only [toPys, PyData.weightAll]
    have := h.wt
    have := hs.wt
    omega
theorem Szs.le {d : List D} {a b a' b' : Nat} (h : Szs d a b) (h1 : a ≤ a') (h2 : b ≤ b') : Szs d a' b' := ⟨h.dat, h.shw, Nat.le_trans h.dp h1, h.sh, Nat.le_trans h.wt h2⟩
theorem Szs.map {α : Type} {f : α → D} {a b : Nat} : ∀ {l : List α}, (∀ x ∈ l, Sz (f x) a b) → Szs (l.map f) a (l.length * (b + 1))
  | [], _ => Szs.nil
  | x :: l, h => by
    have h1 := Szs.cons (h x List.mem_cons_self) (Szs.map fun y hy => h y (List.mem_cons_of_mem _ hy))
    refine h1.le (Nat.le_refl _) ?_
    rw [List.length_cons, Nat.succ_mul]
    omega
theorem Sz.tup {ds : List D} {a b : Nat} (h : Szs ds a b) : Sz (.tup ds) (a + 1) b where
  dat := h.dat
  shw := h.shw
  dp := by
    show PyData.depthAll (toPys ds) + 1 ≤ _
    have := h.dp
    omega
  sh := h.sh
  wt := h.wt
theorem Sz.lst {ds : List D} {a b : Nat} (h : Szs ds a b) : Sz (.lst ds) (a + 1) b where
  dat := h.dat
  shw := h.shw
  dp := by
    show PyData.depthAll (toPys ds) + 1 ≤ _
    have := h.dp
    omega
  sh := h.sh
  wt := h.wt
theorem Sz.bl {b : Bool} : Sz (.bl b) 0 0 := ⟨rfl, rfl, Nat.le_refl _, rfl, Nat.le_refl _⟩
theorem Sz.non : Sz .non 0 0 := ⟨rfl, rfl, Nat.le_refl _, rfl, Nat.le_refl _⟩
theorem Sz.int {i : Int} (h1 : -1000000 ≤ i) (h2 : i ≤ 1000000) : Sz (.int i) 0 21 where
  dat := rfl
  shw := decide_eq_true (log2_small (by omega))
  dp := Nat.le_refl _
  sh := decide_eq_true (Nat.le_trans (PyData.shown_int_le (by omega)) (by omega))
  wt := by
    show (if i == 0 then 0 else i.natAbs.log2 + 1) ≤ 21
    split
    · omega
    · rename_i h
      have hn : i.natAbs ≠ 0 := fun e => h (by have : i = 0 := by omega
                                               subst this
                                               rfl)
      have : i.natAbs.log2 < 20 := (Nat.log2_lt hn).mpr (by omega)
      omega
theorem Sz.big {i : Int} (h : i.natAbs < 10 ^ 118) : Sz (.int i) 0 400 where
  dat := rfl
  shw := by
    refine decide_eq_true ?_
    by_cases hn : i.natAbs = 0
    · rw [hn]
      decide
    · exact (Nat.log2_lt hn).mpr (Nat.lt_trans h (by decide +kernel))
  dp := Nat.le_refl _
  sh := by
    refine decide_eq_true ?_
    have e := int_text_length_le10 (k := 118) (by decide +kernel) h
    show (Str.ofString (toString i)).length ≤ 120
    rw [PySem.ofString_length]
    omega
  wt := by
    show (if i == 0 then 0 else i.natAbs.log2 + 1) ≤ 400
    split
    · omega
    · rename_i hz
      have hn : i.natAbs ≠ 0 := fun e => hz (by have : i = 0 := by omega
                                                subst this
                                                rfl)
      have : i.natAbs.log2 < 399 := (Nat.log2_lt hn).mpr (Nat.lt_trans h (by decide +kernel))
      omega
theorem Sz.str {s : Str} {n : Nat} (h : asc s) (hn : s.length ≤ n) : Sz (.str s) 0 n where
  dat := rfl
  shw := rfl
  dp := Nat.le_refl _
  sh := by
    show (s.cps.toList.all fun c => decide (c < 16 ^ 8)) = true
    rw [List.all_eq_true]
    intro c hc
    have := h c hc
    exact decide_eq_true (by omega)
  wt := hn
end En
namespace En
open PySem L2 PyProof.Rows TL
/-! ### the law itself: all turns are right -/
end En
namespace En
open PySem L2 PyProof.Rows TL
/-! ### == of data without bools; texts of unlike parts are unlike -/
mutual
def pu : D → Bool
  | .int _ => true
  | .str _ => true
  | .tup xs => pus xs
  | .lst xs => pus xs
  | _ => false
def pus : List D → Bool
  | [] => true
  | x :: r => pu x && pus r
end
structure Sh (d : D) : Prop where
  dat : isDat d = true
  lay : (toPy d).canLay0 = true
  p : pu d = true
theorem Sh.int {i : Int} : Sh (.int i) := ⟨rfl, rfl, rfl⟩
theorem Sh.str {x : Str} (h : asc x) : Sh (.str x) := ⟨rfl, by
  show PyData.strOk x = true
  unfold PyData.strOk
  rw [Array.all_eq_true_iff_forall_mem]
  intro c hc
  have := h c (Array.mem_toList_iff.mpr hc)
  exact decide_eq_true (by omega), rfl⟩
theorem Shs {ds : List D} (h : ∀ x ∈ ds, Sh x) : isDats ds = true ∧ PyData.canLayAll0 (toPys ds) = true ∧ pus ds = true := by
  induction ds with
  | nil => exact ⟨rfl, rfl, rfl⟩
  | cons x r ih =>
    have h1 := h x List.mem_cons_self
    obtain ⟨a, b, c⟩ := ih fun y hy => h y (List.mem_cons_of_mem _ hy)
    exact ⟨by simp only [isDats, h1.dat, a, Bool.and_self], by simp only [toPys, PyData.canLayAll0, h1.lay, b, Bool.and_self], by simp only [pus, h1.p, c, Bool.and_self]⟩
theorem Sh.tup {ds : List D} (h : ∀ x ∈ ds, Sh x) : Sh (.tup ds) := ⟨(Shs h).1, (Shs h).2.1, (Shs h).2.2⟩
theorem Sh.lst {ds : List D} (h : ∀ x ∈ ds, Sh x) : Sh (.lst ds) := ⟨(Shs h).1, (Shs h).2.1, (Shs h).2.2⟩
theorem Sh.map {α : Type} {f : α → D} {l : List α} (h : ∀ x ∈ l, Sh (f x)) : ∀ y ∈ l.map f, Sh y := fun y hy => by
  obtain ⟨x, hx, rfl⟩ := List.mem_map.mp hy
  exact h x hx
theorem Sh.c {x : D} {l : List D} (h : Sh x) (hs : ∀ y ∈ l, Sh y) : ∀ y ∈ x :: l, Sh y := List.forall_mem_cons.mpr ⟨h, hs⟩
theorem Sh.n : ∀ y ∈ ([] : List D), Sh y := fun _ h => nomatch h
end En
namespace En
open PySem L2 PyProof.Rows TL
/-! ### more steps of statements -/
section
variable {B : Lib} {C : Call} (hB : B.Mono) (hC : MonoC C)
include hB hC
theorem s_setP {e : Ex} {i : Nat} {N : Nd} {r : Env} {E : XP} {F : Rv → Prop} (h : (evP B C e r).R F E) (q : ∀ x, F x → N.nx (r.set i (some (.val x.d)))) : exS B C (.set i e) N r E := by
  unfold exS
  exact (evP_mono hB hC e r).R _ _ _ _ q (fun _ _ z => z) h
end
end En
namespace En
open PySem L2 PyProof.Rows TL
/-! Xa1: try: body, except (A, B, C) as n: suite, where every exception of the body is of one of the three. -/
open PySem.Spec
end En
namespace En
open PySem L2 PyProof.Rows TL
/-! Xa2: an error that is held, asked within a def that the except suite calls. -/
open PySem.Spec
/-- the error that is held: at a, of the class at D, its dict at dd -/
structure PinX (X : Cx) (a dd Dc : Addr) : Prop where
  ex : ∃ oe, (a, oe) ∈ X.pn ∧ Zc (.ref Dc) (some dd) oe ∧ ∃ vs, oe.data = .fields vs
section
variable {X : Cx} {a dd Dc : Addr} {G : Cfg} {W : WX}
theorem PinX.inst (P : PinX X a dd Dc) {pins : List (Addr × Obj)} {σ : St} {H : Hp} {s : Shared} (I : Inv X pins σ H s) {fs : List (Str × V)} (hd : H dd = some (.xd fs)) :
    ∃ (oe od : Obj) (mA : Str → Option Value), PySem.W.InstAt s.heap a oe Dc (some od) ∧ (∀ name, PySem.W.lookIn name od = some (mA name)) ∧ ∀ f, RelO (fs.lookup f) (mA f) := by
  obtain ⟨oe, hm, hz, vs, hv⟩ := P.ex
  have hp := (I.pin (a, oe) (List.mem_append_left _ hm)).1
  obtain ⟨mA, hns, hr⟩ := (show ObjOk X.prog X.w H s.heap dd (.xd fs) from I.hok dd _ hd)
  obtain ⟨od, ho, hl⟩ := lookIn_ns hns
  exact ⟨oe, od, mA, ⟨hp, hz.1, by unfold PySem.W.notCls; rw [hv] <;> rfl, by rw [hz.2]; exact ho⟩, hl, hr⟩
theorem call_isP (P : PinX X a dd Dc) (C : ExcC X.K Dc) : CallR X (.builtin "isinstance") (fun xs H Q => ∃ (c : V) (cv : Value) (b : Bool) (fs : List (Str × V)), xs = [.ref a, c] ∧ (∀ u, RelV c u → u = cv) ∧ PySem.W.kitOne X.K (.ref Dc) cv = some b ∧ H dd = some (.xd fs) ∧ Q (.bl b) H) := by
  intro pins s σ H xs us Q I r h
  obtain ⟨c, cv, b, fs, rfl, hcv, e, hd, q⟩ := h
  cases r with
  | cons rx rr =>
    cases rr with
    | cons rt rr =>
      cases rr
      cases rx
      have ec := hcv _ rt
      subst ec
      obtain ⟨oe, od, mA, J, _, _⟩ := P.inst I hd
      obtain ⟨cd, hc, _⟩ := PySem.W.any_some C.hd
      exact PySem.W.kia_one (PySem.W.kitx_exc (by rw [hc]; rfl) C.hg C.hk C.hs C.ha C.hn C.ht C.hm) I.kIn J e (fun z => nomatch z) fun tk => ⟨.bl b, H, I.kept (t' := tk) fun _ _ z => z, rfl, q⟩
/-- what is asked of the error: isinstance by the class's name, its value, how many of three are true -/
def CS (a dd : Addr) (f : Str) (d : D) (b : Str → Option Bool) : Call := fun nm ds Q _ =>
  (nm = "!f" ∧ ds = [.exc a dd f d] ∧ Q (.v d)) ∨ (∃ k, b nm = some k ∧ ds = [.exc a dd f d] ∧ Q (.v (.bl k))) ∨ (nm = "!n" ∧ ∃ bs : List Bool, ds = [.lst (bs.map D.bl)] ∧ Q (.v (.int (bs.count true : Nat))))
theorem CS_mono (a dd : Addr) (f : Str) (d : D) (b : Str → Option Bool) : MonoC (CS a dd f d b) := fun nm ds Q Q' E E' hq he z => by
  rcases z with ⟨e1, e2, z⟩ | ⟨k, e1, e2, z⟩ | ⟨e1, bs, e2, z⟩
  · exact .inl ⟨e1, e2, hq _ z⟩
  · exact .inr (.inl ⟨k, e1, e2, hq _ z⟩)
  · exact .inr (.inr ⟨e1, bs, e2, hq _ z⟩)
variable {f : Str} {d : D} {b : Str → Option Bool}
theorem exc_at {H : Hp} {x : D} {v : V} {K : PySem.W.Frag} (h : RD K H (.exc a dd f d) v) : v = .ref a ∧ ∃ y, H dd = some (.xd [(f, y)]) ∧ RD K H d y := by
  cases h with
  | exc h1 h2 => exact ⟨rfl, _, h1, h2⟩
/-- isinstance(e, c) -/
theorem p_isP (P : PinX X a dd Dc) (C : ExcC X.K Dc) (hK : X.K = G.K) {e c : Str} {vc : V} {cv : Value} {k : Bool} {q1 q2 q3 q4 : Pos} (he : ∀ q, PE X (.Name e q) (tVar 0)) (hg : Gl X "isinstance") (hm : X.mg "isinstance" = none) (hc : PE X (.Name c q3) (tC vc)) (hv : ∀ u, RelV vc u → u = cv)
    (hk : PySem.W.kitOne X.K (.ref Dc) cv = some k) (hb : b c = some k) (n1 : c ≠ "!f") (n2 : c ≠ "!n") : PE X (.Call (.Name "isinstance" q1) [.Name e q2, .Name c q3] [] q4) (rdR G (CS a dd f d b) W (.fn c (.cons (.var 0) .nil))) := by
  refine PE.imp (pe_callB (call_isP P C) hg hm (by kernel_rfl) (pa_cons (he q2) (pa_cons hc pa_nil))) fun σ H Q ⟨r, re, tb, z⟩ => ?_
  simp only [evR, evP, mkV, evAs] at z
  obtain ⟨d0, hr, z⟩ := z
  obtain ⟨v, e1, rd⟩ := re.at_ 0 _ hr
  rcases z with ⟨e2, _, _⟩ | ⟨k', e2, e3, zz⟩ | ⟨e2, _⟩
  · exact absurd e2 n1
  · rw [hb] at e2
    cases e2
    have e3 : d0 = .exc a dd f d := by
      injection e3
    subst e3
    obtain ⟨ev, y, h1, h2⟩ := exc_at (x := .non) rd
    subst ev
    exact ⟨_, e1, vc, cv, k, _, rfl, hv, hk, h1, zz _ H (.bl k) (LamX.ExtN.refl H) tb⟩
  · exact absurd e2 n2
/-- e.f -/
theorem p_fldP (P : PinX X a dd Dc) (T : XfC X.K Dc) (hno : PySem.W.findIn X.K (.ref Dc) f = some none) (hb : b "!f" = none) {e : Str} {q1 q2 : Pos} (he : ∀ q, PE X (.Name e q) (tVar 0)) : PE X (.Attribute (.Name e q1) f q2) (rdR G (CS a dd f d b) W (.fn "!f" (.cons (.var 0) .nil))) := by
  refine ⟨fun pins s σ H Q I h => ?_⟩
  obtain ⟨r, re, tb, z⟩ := h
  simp only [evR, evP, mkV, evAs] at z
  obtain ⟨d0, hr, z⟩ := z
  obtain ⟨v, e1, rd⟩ := re.at_ 0 _ hr
  have zz : d0 = .exc a dd f d ∧ ∀ v H', RR G.K H H' (.v d) v → ExN H H' → Tb G H' → Q v H' := by
    rcases z with ⟨_, e3, zz⟩ | ⟨k', e2, _⟩ | ⟨e2, _⟩
    · exact ⟨by injection e3, zz⟩
    · rw [hb] at e2
      cases e2
    · exact absurd e2 (by decide)
  obtain ⟨e3, zz⟩ := zz
  subst e3
  obtain ⟨ev, y, h1, h2⟩ := exc_at (x := .non) rd
  subst ev
  refine attr_of rfl (thn ((he q1).run pins s σ H (fun v H1 => v = .ref a ∧ H1 = H) I ⟨_, e1, rfl, rfl⟩) fun u s1 hh => ?_)
  obtain ⟨x, H1, I1, rx, ex, eH⟩ := hh
  subst ex eH
  obtain rfl : u = Value.ref a := rx
  obtain ⟨oe, od, mA, J, hl, hrl⟩ := P.inst I1 h1
  obtain ⟨w, hw, rw'⟩ := RelO.some_of (v := y) (o := mA f) (by have := hrl f; rw [lookup_put] at this; simpa using this)
  exact HandSPX.exc_get I1.kIn J T.ga T.gg T.exC (PySem.W.findObj_own T.hdC hno rfl (by rw [hl, hw])) (handed_of rw') ⟨y, H1, I1.tok _, rw', zz y H1 h2 (LamX.ExtN.refl H1) tb⟩
/-- bs.count(True) -/
def rCntB (K : PySem.W.Frag) : V → List V → Hp → VK → Prop := fun x xs H Q => ∃ (p : Addr) (bs : List Bool), x = .ref p ∧ xs = [.bl true] ∧ SqL K H p (bs.map V.bl) ∧ Q (.int (bs.count true : Nat)) H
def eqT : Value → Bool
  | .bool k => k == true
  | _ => false
theorem vals_bl : ∀ {bs : List Bool} {us : List Value}, Vals (bs.map V.bl) us → us = bs.map Value.bool
  | [], _, h => by
    cases h
    rfl
  | k :: bs, _, h => by
    cases h with
    | cons r rs =>
      cases r
      rw [vals_bl rs]
      rfl
theorem cnt_bl : ∀ bs : List Bool, (bs.map Value.bool).countP eqT = bs.count true
  | [] => rfl
  | k :: bs => by
    have ih := cnt_bl bs
    rw [List.map_cons, List.countP_cons, List.count_cons, ih]
    rfl
theorem mt_countB : MtR X "list.count" (rCntB X.K) := by
  intro pins s σ H x xs v us Q I rx rxs h
  obtain ⟨p, bs, rfl, rfl, hs, q⟩ := h
  cases rx
  obtain ⟨u, rfl, ru⟩ := rxs.one
  cases ru
  obtain ⟨its, rv, ⟨⟨cls, dd, data, sl⟩, n, ho, hc, hdn, hd⟩, hlen⟩ := I.list hs
  simp only at hc hd
  subst hc hd
  have ei := vals_bl rv
  refine call_meets PySem.F.slot_list_count ⟨_, ho, rfl⟩ PySem.F.entry_list_count (PySem.F.args_list_count_2 _ _)
    (SeqAt.list_countAt p its.toArray n dd sl (.bool true) eqT) ⟨ho, fun y hy => ?_, ?_⟩
  · rw [ei] at hy
    obtain ⟨k, hk, rfl⟩ := List.mem_map.mp (show y ∈ bs.map Value.bool by simpa using hy)
    exact SeqAt.EqAt.bool_bool k true
  · refine ⟨.int (bs.count true : Nat), H, I.tok _, ⟨s.toks, ?_⟩, q⟩
    show Value.int ((its.toArray.toList.countP eqT : Nat) : Int) s.toks = Value.int ((bs.count true : Nat) : Int) s.toks
    rw [ei]
    simp only [List.toList_toArray]
    rw [cnt_bl]
theorem bls_of {K : PySem.W.Frag} {H : Hp} : ∀ {bs : List Bool} {us : List V}, RDs K H (bs.map D.bl) us → us = bs.map V.bl
  | [], _, h => by
    cases h
    rfl
  | k :: bs, _, h => by
    cases h with
    | cons r rs =>
      cases r
      rw [bls_of rs]
      rfl
theorem p_cntP (hK : X.K = G.K) {x : Str} {i kk : Nat} {q1 ap q3 cp : Pos} (hx : PE X (.Name x q1) (tVar i)) (hb : b "!n" = none) (hl : (ap.endLine == cp.line) = true) : PE X (.Call (.Attribute (.Name x q1) "count" ap) [.Constant (.bool true) kk q3] [] cp) (rdR G (CS a dd f d b) W (.fn "!n" (.cons (.var i) .nil))) := by
  refine PE.imp (pe_bm PySem.F.plainAttrs_list PySem.F.slot_list_count PySem.F.type_list_count mt_countB hx (pa_cons pe_bl pa_nil) rfl rfl hl rfl rfl) fun σ H Q ⟨r, re, tb, z⟩ => ?_
  simp only [evR, evP, mkV, evAs] at z
  obtain ⟨d0, hr, z⟩ := z
  obtain ⟨v, e1, rd⟩ := re.at_ i _ hr
  rcases z with ⟨e2, _⟩ | ⟨k', e2, _⟩ | ⟨_, bs, e3, zz⟩
  · exact absurd e2 (by decide)
  · rw [hb] at e2
    cases e2
  · have e3 : d0 = .lst (bs.map D.bl) := by injection e3
    subst e3
    cases (show RD G.K H (.lst (bs.map D.bl)) v from rd) with
    | @lst p us ds hq rs =>
      have e4 := bls_of rs
      subst e4
      have hq2 : SqL X.K H p (bs.map V.bl) := by
        rw [hK]
        exact hq.sq
      refine ⟨_, e1, .inl ⟨rfl, _, hq2⟩, ?_⟩
      exact ⟨_, bs, rfl, rfl, hq2, zz _ H (.int _) (LamX.ExtN.refl H) tb⟩
end
end En
namespace En
open PySem L2 PyProof.Rows TL
/-! Xa3: the def that tells an error by its class and its value. -/
open PySem.Spec
structure SRow where
  c : Str
  f : Str
  p : Nat → Pos
def isC (p : Nat → Pos) (k : Nat) (c : Str) : Expr := .Call (.Name "isinstance" (p k)) [.Name "_law_e" (p (k + 1)), .Name c (p (k + 2))] [] (p (k + 3))
def rowS (r : SRow) : Stmt := .If (isC r.p 0 r.c) [.Expr (.Call (.Attribute (.Name "_law_found" (r.p 4)) "append" (r.p 5)) [.List [.Constant (.str r.c) 0 (r.p 6), .Call (.Name "repr" (r.p 7)) [.Attribute (.Name "_law_e" (r.p 8)) r.f (r.p 9)] [] (r.p 10)] (r.p 11)] [] (r.p 12)) (r.p 13)] [] (r.p 14)
def retS (p : Nat → Pos) : Stmt := .Return (some (.IfExp (.BoolOp .And [.Compare (.Call (.Name "len" (p 33)) [.Name "_law_found" (p 34)] [] (p 35)) [.Eq] [.Constant (.int 1) 0 (p 36)] (p 37), .Compare (.Name "_law_bases" (p 38)) [.Eq] [.Name "_law_plain" (p 39)] (p 40),
  .Compare (.Call (.Attribute (.Name "_law_bases" (p 41)) "count" (p 42)) [.Constant (.bool true) 0 (p 43)] [] (p 44)) [.Eq] [.Constant (.int 1) 0 (p 45)] (p 46)] (p 47)) (.Subscript (.Name "_law_found" (p 48)) (.Constant (.int 0) 0 (p 49)) (p 50)) (.List [.Constant (.str "other") 0 (p 51), .Constant (.str "") 0 (p 52)] (p 53)) (p 54))) (p 55)
def sortB (p : Nat → Pos) (rows : List SRow) : List Stmt :=
  [.Assign [.Name "_law_bases" (p 0)] (.List [isC p 1 "WrongValue", isC p 5 "WrongName", isC p 9 "NotPossible"] (p 13)) (p 14),
   .Assign [.Name "_law_plain" (p 15)] (.List [isC p 16 "ValueError", isC p 20 "LookupError", isC p 24 "ArithmeticError"] (p 28)) (p 29),
   .Assign [.Name "_law_found" (p 30)] (.List [] (p 31)) (p 32)] ++ (rows.map rowS ++ [retS p])
def v0 (c : Str) : Ex := .fn c (.cons (.var 0) .nil)
def rowI (k : Bool) (c : Str) : Sm := .iff (v0 c) (if k = true then .cons (.app 3 (.lst (.cons (.con (.str c)) (.cons (.blt .repr (.cons (v0 "!f") .nil)) .nil)))) .nil else .cons .dead .nil) .nil
def retI : Sm := .ret (.ite (.and (.cmp .Eq (.blt .len (.cons (.var 3) .nil)) (.con (.int 1))) (.and (.cmp .Eq (.var 1) (.var 2)) (.cmp .Eq (.fn "!n" (.cons (.var 1) .nil)) (.con (.int 1))))) (.idx (.var 3) (.con (.int 0))) (.lst (.cons (.con (.str "other")) (.cons (.con (.str "")) .nil))))
def smApp : List Sm → Sms
  | [] => .nil
  | s :: r => .cons s (smApp r)
def sortI (cs : List (Bool × Str)) : Sms := smApp ([.set 1 (.lst (.cons (v0 "WrongValue") (.cons (v0 "WrongName") (.cons (v0 "NotPossible") .nil)))), .set 2 (.lst (.cons (v0 "ValueError") (.cons (v0 "LookupError") (.cons (v0 "ArithmeticError") .nil)))), .own 3 (.lst .nil)] ++ (cs.map (fun c => rowI c.1 c.2) ++ [retI]))
/-- the names of the def's places -/
def sortN : List Str := ["_law_e", "_law_bases", "_law_plain", "_law_found"]
/-- what is known where it runs -/
structure SortX (X : Cx) (G : Cfg) (sub : Sub) (a dd Dc : Addr) (f : Str) (d : D) (b : Str → Option Bool) (rows : List SRow) : Prop where
  P : PinX X a dd Dc
  C : ExcC X.K Dc
  T : XfC X.K Dc
  no : PySem.W.findIn X.K (.ref Dc) f = some none
  K : X.K = G.K
  L : G.B = libW sub
  N : X.N = sortN
  vis : ∀ x ∈ sortN, Loc X.env.scope x
  fn : ∀ x, X.fn x = true
  un : X.A.units + 64 < cLine
  gd : X.A.guards = some []
  blt : ∀ x ∈ [Str.ofString "isinstance", Str.ofString "repr", Str.ofString "len"], Gl X x ∧ X.mg x = none
  bf : b "!f" = none
  bn : b "!n" = none
  is3 : ∀ c ∈ [Str.ofString "WrongValue", Str.ofString "WrongName", Str.ofString "NotPossible", Str.ofString "ValueError", Str.ofString "LookupError", Str.ofString "ArithmeticError"], ∃ vc cv k, (∀ q, PE X (.Name c q) (tC vc)) ∧ (∀ u, RelV vc u → u = cv) ∧ PySem.W.kitOne X.K (.ref Dc) cv = some k ∧ b c = some k
  isR : ∀ r ∈ rows, r.c ≠ "!f" ∧ r.c ≠ "!n" ∧ ((r.p 5).endLine == (r.p 12).line) = true ∧ ∃ vc cv k, (∀ q, PE X (.Name r.c q) (tC vc)) ∧ (∀ u, RelV vc u → u = cv) ∧ PySem.W.kitOne X.K (.ref Dc) cv = some k ∧ b r.c = some k
  rf : ∀ r ∈ rows, b r.c = some true → r.f = f
section
variable {X : Cx} {G : Cfg} {sub : Sub} {a dd Dc : Addr} {f : Str} {d : D} {b : Str → Option Bool} {rows : List SRow} {W : WX} {H0 : Hp} {E : XK}
theorem SortX.vr (S : SortX X G sub a dd Dc f d b rows) {i : Nat} {x : Str} (h : sortN[i]? = some x) (q : Pos) (o : odd x = false) : PE X (.Name x q) (tVar i) := by
  obtain ⟨o1, o2, o3⟩ := odd_cases o
  refine pe_var (by rw [S.N]; exact h) ?_ o1 o2
  exact (S.vis x (List.mem_of_getElem? h)).elim (fun z => .inl z) fun z => .inr (.inl z)
theorem SortX.hB (S : SortX X G sub a dd Dc f d b rows) : G.B.Mono := by rw [S.L]; exact libW_mono sub
theorem SortX.is (S : SortX X G sub a dd Dc f d b rows) {c : Str} (h : c ∈ [Str.ofString "WrongValue", Str.ofString "WrongName", Str.ofString "NotPossible", Str.ofString "ValueError", Str.ofString "LookupError", Str.ofString "ArithmeticError"]) (p : Nat → Pos) (k : Nat) : PE X (isC p k c) (rdR G (CS a dd f d b) W (v0 c)) := by
  obtain ⟨vc, cv, k', h1, h2, h3, h4⟩ := S.is3 c h
  refine p_isP S.P S.C S.K (fun q => S.vr (i := 0) rfl q (by decide)) (S.blt _ (by simp)).1 (S.blt _ (by simp)).2 (h1 _) h2 h3 h4 ?_ ?_
  · rintro rfl
    rw [S.bf] at h4
    cases h4
  · rintro rfl
    rw [S.bn] at h4
    cases h4
theorem SortX.isr (S : SortX X G sub a dd Dc f d b rows) {r : SRow} (h : r ∈ rows) : PE X (isC r.p 0 r.c) (rdR G (CS a dd f d b) W (v0 r.c)) := by
  obtain ⟨n1, n2, _, vc, cv, k', h1, h2, h3, h4⟩ := S.isR r h
  exact p_isP S.P S.C S.K (fun q => S.vr (i := 0) rfl q (by decide)) (S.blt _ (by simp)).1 (S.blt _ (by simp)).2 (h1 _) h2 h3 h4 n1 n2
theorem cons3 {e1 e2 e3 : Expr} {i1 i2 i3 : Ex} {C : Call} (hB : G.B.Mono) (hC : MonoC C) (h1 : PE X e1 (rdR G C W i1)) (h2 : PE X e2 (rdR G C W i2)) (h3 : PE X e3 (rdR G C W i3)) (n1 : isStar e1 = false) (n2 : isStar e2 = false) (n3 : isStar e3 = false) : PA X [e1, e2, e3] (rdA G C W (.cons i1 (.cons i2 (.cons i3 .nil)))) :=
  a_cons hB hC (pe_frz hB hC h1) (a_cons hB hC (pe_frz hB hC h2) (a_cons hB hC (pe_frz hB hC h3) a_nil (starEach_cons n3)) (starEach_cons n2)) (starEach_cons n1)
theorem SortX.asg (S : SortX X G sub a dd Dc f d b rows) {i : Nat} {x : Str} {e : Expr} {te : TE} {q pos : Pos} (hi : sortN[i]? = some x) (he : PE X e te) (hs : swapsWith e (some (.Name x q)) pos.line X.env = pure false) : PS X (.Assign [.Name x q] e pos) (tAsg te (gName i)) := by
  have nd : X.N.Nodup := by rw [S.N]; decide
  exact ps_asg he (pg_name nd (by rw [S.N]; exact hi) (S.vis x (List.mem_of_getElem? hi)) (.inl (S.fn x))) hs
end
section
variable {X : Cx} {G : Cfg} {sub : Sub} {a dd Dc : Addr} {f : Str} {d : D} {b : Str → Option Bool} {rows : List SRow} {W : WX} {H0 : Hp} {E : XK}
theorem CS_obj {c nm : Str} {fs : List D} {Q : Rv → Prop} {E : XP} (z : CS a dd f d b nm [.obj c fs] Q E) : False := by
  rcases z with ⟨_, e, _⟩ | ⟨_, _, e, _⟩ | ⟨_, bs, e, _⟩
  · injection e with e
    cases e
  · injection e with e
    cases e
  · injection e with e
    cases e
theorem SortX.cl (S : SortX X G sub a dd Dc f d b rows) : CallR X (.builtin "len") (rBlt G (bltW sub (CS a dd f d b) .len)) := by
  intro pins s σ H vs us Q I rv ⟨ds, rs, tb, z⟩
  refine len_ok S.K pins s σ H vs us Q I rv ⟨ds, rs, tb, ?_⟩
  cases ds with
  | nil => exact z.elim
  | cons x r =>
    cases r with
    | nil =>
      refine ⟨x, rfl, ?_⟩
      cases x with
      | obj c fs =>
        unfold bltW at z
        exact (CS_obj z).elim
      | _ => exact z
    | cons y r => cases x <;> exact z.elim
theorem SortX.cr (S : SortX X G sub a dd Dc f d b rows) : CallR X (.builtin "repr") (rBlt G (bltW sub (CS a dd f d b) .repr)) := by
  intro pins s σ H vs us Q I rv ⟨ds, rs, tb, z⟩
  refine repr_ok S.K S.un S.gd pins s σ H vs us Q I rv ⟨ds, rs, tb, ?_⟩
  cases ds with
  | nil => exact z.elim
  | cons x r =>
    cases r with
    | nil =>
      refine ⟨x, rfl, ?_⟩
      cases x with
      | obj c fs =>
        unfold bltW at z
        exact (CS_obj z).elim
      | _ => exact z
    | cons y r => cases x <;> exact z.elim
theorem pss_dead {body : List Stmt} : PSs X body (rdMs G (CS a dd f d b) H0 E (.cons .dead .nil)) := ⟨fun pins s σ H D I ⟨r, N, si, no, z⟩ => by
  unfold exSs exS at z
  exact z.elim⟩
theorem SortX.row (S : SortX X G sub a dd Dc f d b rows) {r : SRow} (h : r ∈ rows) : PS X (rowS r) (rdM G (CS a dd f d b) H0 E (rowI (decide (b r.c = some true)) r.c)) := by
  have hB := S.hB
  have hC := CS_mono a dd f d b
  obtain ⟨n1, n2, hl, vc, cv, k, h1, h2, h3, h4⟩ := S.isR r h
  have ht : PT X (isC r.p 0 r.c) (rdT G (CS a dd f d b) (wE E) (v0 r.c)) := t_val hB hC S.K (fun _ _ _ => rfl) (rdR_S hB hC (fun _ z => nomatch z) (S.isr h)) (fun _ => rfl)
  unfold rowI
  by_cases hk : b r.c = some true
  · rw [decide_eq_true hk, if_pos rfl]
    have hf := S.rf r h hk
    refine m_if hB hC ht (m_cons ?_ m_nil) m_nil
    refine m_app hB hC (S.vr (i := 3) rfl _ (by decide)) (pe_frz hB hC (p_lst hB hC (a_cons hB hC (pe_frz hB hC (p_con pe_str fun H => .str _)) (a_cons hB hC (pe_frz hB hC ?_) a_nil rfl) rfl))) rfl hl
    refine blt_call S.L hC (b := .repr) rfl (by kernel_rfl) (S.blt _ (by simp)).2 (S.blt _ (by simp)).1 (by decide) (by simp) (fun e he => by rw [List.mem_singleton] at he; subst he; rfl) S.cr (as_cons hB hC (rdR_S hB hC (fun _ z => nomatch z) ?_) as_nil rfl)
    rw [hf]
    exact p_fldP S.P S.T S.no S.bf fun q => S.vr (i := 0) rfl q (by decide)
  · rw [decide_eq_false hk, if_neg Bool.false_ne_true]
    exact m_if hB hC ht pss_dead m_nil
theorem CS_two {nm : Str} {x y : D} {Q : Rv → Prop} {E : XP} (z : CS a dd f d b nm [x, y] Q E) : False := by
  rcases z with ⟨_, e, _⟩ | ⟨_, _, e, _⟩ | ⟨_, bs, e, _⟩
  · cases e
  · cases e
  · cases e
theorem eqoF : EqoOk X G (CS a dd f d b) := ⟨fun pins s σ H x y v u Q I rx ry ⟨dx, dy, _, _, _, _, _, z⟩ => (CS_two z).elim, fun pins s σ H x y v u Q I rx ry ⟨dx, dy, _, _, _, _, _, z⟩ => (CS_two z).elim, fun n pins s σ H x y v u Q I rx ry ⟨dx, dy, _, _, _, _, z⟩ => (CS_two z).elim, fun n pins s σ H x y v u Q I rx ry ⟨dx, dy, _, _, _, ys, _, ne, _, z⟩ => by
  cases ys with
  | nil => exact absurd rfl ne
  | cons y r => exact (CS_two z.2.2).elim⟩
theorem SortX.ret (S : SortX X G sub a dd Dc f d b rows) {p : Nat → Pos} (hl : ((p 42).endLine == (p 44).line) = true) : PS X (retS p) (rdM G (CS a dd f d b) H0 E retI) := by
  have hB := S.hB
  have hC := CS_mono a dd f d b
  have cmp : ∀ {e1 e2 : Expr} {i1 i2 : Ex} {pos : Pos}, PE X e1 (rdS G (CS a dd f d b) (wE E) i1) → PE X e2 (rdS G (CS a dd f d b) (wE E) i2) → behindInMarks .Eq e2 = false → PT X (.Compare e1 [.Eq] [e2] pos) (rdT G (CS a dd f d b) (wE E) (.cmp .Eq i1 i2)) := by
    intro e1 e2 i1 i2 pos h1 h2 h3
    refine PT.imp (pt_cmpR (op_cmp S.K S.un (eqoF (a := a) (dd := dd) (f := f) (d := d) (b := b)) .Eq) h1 h2 h3) fun σ H Q ⟨r, re, tb, z⟩ => ?_
    refine s_bind hB hC re tb (LamX.ExtN.refl H) z fun dx x H1 rx x1 t1 z1 => s_bind hB hC (re.ext x1) t1 x1 z1 fun dy y H2 ry x2 t2 z2 => ?_
    exact ⟨dx, dy, rx.ext x2, ry, t2, cmpW_mono hC (fun b f H' x3 t3 => ⟨b, rfl, f _ ((x1.trans x2).trans x3) t3⟩) z2⟩
  have con : ∀ {e : Expr} {v : V} {x : D}, PE X e (tC v) → (∀ H, RD G.K H x v) → PE X e (rdS G (CS a dd f d b) (wE E) (.con x)) := fun h1 h2 => rdR_S hB hC (fun _ z => nomatch z) (p_con h1 h2)
  have var : ∀ {i : Nat} {x : Str} (q : Pos), sortN[i]? = some x → odd x = false → PE X (.Name x q) (rdS G (CS a dd f d b) (wE E) (.var i)) := fun q h1 h2 => p_varS (S.vr h1 q h2)
  refine m_ret hB hC (p_ite hB hC ?_ ?_ ?_)
  · refine (w_and hB hC ?_ (w_and hB hC ?_ (pw_and1 ?_))).pt
    · refine cmp (rdR_S hB hC (fun _ z => nomatch z) (blt_call S.L hC (b := .len) rfl (by kernel_rfl) (S.blt _ (by simp)).2 (S.blt _ (by simp)).1 (by decide) (by simp) (fun e he => by rw [List.mem_singleton] at he; subst he; rfl) S.cl (as_cons hB hC (var _ (i := 3) rfl (by decide)) as_nil rfl))) (con pe_int fun H => .int _) rfl
    · exact cmp (var _ (i := 1) rfl (by decide)) (var _ (i := 2) rfl (by decide)) rfl
    · exact cmp (rdR_S hB hC (fun _ z => nomatch z) (p_cntP S.K (S.vr (i := 1) rfl _ (by decide)) S.bn hl)) (con pe_int fun H => .int _) rfl
  · exact p_idx hB hC S.K (var _ (i := 3) rfl (by decide)) (con pe_int fun H => .int _) (fun _ _ => rfl)
  · exact p_lst hB hC (a_cons hB hC (pe_frz hB hC (p_con pe_str fun H => .str _)) (a_cons hB hC (pe_frz hB hC (p_con pe_str fun H => .str _)) a_nil rfl) rfl)
end
section
variable {X : Cx} {G : Cfg} {sub : Sub} {a dd Dc : Addr} {f : Str} {d : D} {b : Str → Option Bool} {rows : List SRow} {H0 : Hp} {E : XK}
theorem SortX.rest (S : SortX X G sub a dd Dc f d b rows) {p : Nat → Pos} (hl : ((p 42).endLine == (p 44).line) = true) : ∀ rs : List SRow, (∀ r ∈ rs, r ∈ rows) → PSs X (rs.map rowS ++ [retS p]) (rdMs G (CS a dd f d b) H0 E (smApp ((rs.map fun r => (decide (b r.c = some true), r.c)).map (fun c => rowI c.1 c.2) ++ [retI])))
  | [], _ => m_cons (S.ret hl) m_nil
  | r :: rs, h => m_cons (S.row (h r List.mem_cons_self)) (SortX.rest S hl rs fun x hx => h x (List.mem_cons_of_mem _ hx))
theorem SortX.all (S : SortX X G sub a dd Dc f d b rows) {p : Nat → Pos} (hl : ((p 42).endLine == (p 44).line) = true) : PSs X (sortB p rows) (rdMs G (CS a dd f d b) H0 E (sortI (rows.map fun r => (decide (b r.c = some true), r.c)))) := by
  have hB := S.hB
  have hC := CS_mono a dd f d b
  refine m_cons (m_set hB hC (S.asg (i := 1) rfl (p_lst hB hC (cons3 hB hC (S.is (by simp) p 1) (S.is (by simp) p 5) (S.is (by simp) p 9) rfl rfl rfl)) rfl)) ?_
  refine m_cons (m_set hB hC (S.asg (i := 2) rfl (p_lst hB hC (cons3 hB hC (S.is (by simp) p 16) (S.is (by simp) p 20) (S.is (by simp) p 24) rfl rfl rfl)) rfl)) ?_
  refine m_cons (m_own hB hC (S.asg (i := 3) rfl (p_lst hB hC a_nil) rfl)) ?_
  exact S.rest hl rows fun _ h => h
end
end En
namespace En
open PySem L2 PyProof.Rows TL
/-! Xa4: what the def that tells an error tells. -/
end En
namespace En
open PySem L2 PyProof.Rows TL
/-! Xa5: the def that tells an error, called within the except suite. -/
open PySem.Spec
def shw (d : D) : Prop := isShw d = true ∧ (toPy d).showable = true ∧ (toPy d).depth ≤ 60 ∧ (toPy d).shown.length ≤ sizeLine
end En
namespace En
open PySem L2 PyProof.Rows TL
/-! Xa6: a lambda handed to the def that answers. -/
open PySem.Spec LamX
end En
namespace En
open PySem L2 PyProof.Rows TL
/-! Xa7: a lambda made and called, where the guards are known. -/
open PySem.Spec LamX
/-! ### the lambdas of a law -/
end En
namespace En
open PySem L2 PyProof.Rows TL
/-! Xa8: the lambdas of a law, at all levels. -/
open PySem.Spec LamX
end En
namespace En
open PySem L2 PyProof.Rows TL
/-! Xh1: the head of a law whose defs make lambdas: the tables of their code objects are empty and out of the written part. -/
/-- the code object of a def and its table -/
def Df.tab (K : PySem.W.Frag) (d : Df) : Addr × Addr := match K.lookup (d.ad K) with
  | some ⟨_, _, .func fd, _⟩ => (match fd.code with
    | .ref c => (c, match K.lookup c with
      | some ⟨_, _, .fields vs, _⟩ => (match (vs[11]? : Option Value) with
        | some (.ref P) => P
        | _ => 0)
      | _ => 0)
    | _ => (0, 0))
  | _ => (0, 0)
structure SaysL (ex : PySem.W.Frag → Bool) (fn tf : List Df) (h : Heap) (K : PySem.W.Frag) : Prop where
  n : SaysN ex fn K
  hd : ∀ d ∈ tf, PySem.W.codeHdIn K (d.tab K).1 (d.tab K).2 = true
  out : ∀ d ∈ tf, K.lookup (d.tab K).2 = none
  empty : ∀ d ∈ tf, h.get? (d.tab K).2 = some { cls := .none, data := .fields #[] }
end En
namespace En
open PySem L2 PyProof.Rows TL
/-! Xh2: what is asked of the errors' classes, checked. -/
open PySem.Spec
def excCB (K : PySem.W.Frag) (C : Addr) : Bool := He.eqO (PySem.W.findIn K (.ref C) "__getattribute__") (some (some (.builtin "BaseException.__getattribute__"))) && (He.eqO (PySem.W.findIn K (.ref C) "__getattr__") (some none) && (decide (PySem.W.subIn K (.ref C) (.type "BaseException") = some true) && (PySem.W.hasDictIn K C &&
  (He.eqO (PySem.W.findIn K (.ref C) "__class__") (some (some (.builtin "object.__class__"))) && (He.eqO (PySem.W.specialIn K (.builtin "object.__class__") "__get__") (some (some (.builtin "getset_descriptor.__get__"))) && (decide (PySem.W.takesIn K (.builtin "object.__class__") = some true) && decide (PySem.W.mroIn K C (.type "object") = some true)))))))
theorem excCB_ok {K : PySem.W.Frag} {C : Addr} (h : excCB K C = true) : ExcC K C := by
  obtain ⟨h1, h⟩ := He.ba h
  obtain ⟨h2, h⟩ := He.ba h
  obtain ⟨h3, h⟩ := He.ba h
  obtain ⟨h4, h⟩ := He.ba h
  obtain ⟨h5, h⟩ := He.ba h
  obtain ⟨h6, h⟩ := He.ba h
  obtain ⟨h7, h8⟩ := He.ba h
  exact ⟨He.eqO_ok h1, He.eqO_ok h2, of_decide_eq_true h3, h4, He.eqO_ok h5, He.eqO_ok h6, of_decide_eq_true h7, of_decide_eq_true h8⟩
/-- the tables of the defs, and the lambdas' names there -/
def tblOf (tf : List Df) (K : PySem.W.Frag) : List (Addr × Str) := tf.map fun d => ((d.tab K).2, (d.qual ++ ".<locals>.") ++ "<lambda>")
end En
namespace En
open PySem L2 PyProof.Rows TL
/-! Xh3: what the top leaves, from the library's own head in pieces. -/
theorem says_k {ex : PySem.W.Frag → Bool} {fn : List Df} {K : Params → PySem.W.Frag} {as : List Addr} {e : ∀ P, as = (K P).map (·.1)} {w : World} {h : Heap} (_ : (PySem.W.kHook K as e).says w h) (h1 : obsN ex fn (K w.params) = valN fn) : SaysL ex fn [] h (K w.params) where
  n := saysN_of h1
  hd := fun d hd => nomatch hd
  out := fun d hd => nomatch hd
  empty := fun d hd => nomatch hd
end En
namespace En
open PySem L2 PyProof.Rows TL
/-! Er1: prims of own errors as values. -/
/-- an own error's class: its field's name (empty: none), the classes over it -/
abbrev EcT : Type := List (Str × Str × List Str)
def isT (ec : EcT) (t c : Str) : Bool := decide (t = c) || (match ec.lookup c with
  | some x => x.2.contains t
  | none => false)
def pIs (ec : EcT) (t : Str) : Prim := fun _ ds Q _ => ∃ d c, ds = [d] ∧ erC d = some c ∧ (ec.lookup c).isSome = true ∧ Q (.v (.bl (isT ec t c)))
theorem pIs_mono (ec : EcT) (t : Str) : PMono (pIs ec t) := fun C hC ds Q Q' E E' hq he ⟨d, c, h1, h2, h3, z⟩ => ⟨d, c, h1, h2, h3, hq _ z⟩
def pE1 (c f : Str) : Prim := fun C ds Q _ => C "!lv" [] (fun _ => True) E0 ∧ ∃ d, ds = [d] ∧ Q (.v (.er1 c f d))
theorem pE1_mono (c f : Str) : PMono (pE1 c f) := fun C hC ds Q Q' E E' hq he ⟨h, d, e, z⟩ => ⟨h, d, e, hq _ z⟩
def pE0 (c : Str) : Prim := fun _ ds Q _ => ds = [] ∧ Q (.v (.er0 c))
theorem pE0_mono (c : Str) : PMono (pE0 c) := fun C hC ds Q Q' E E' hq he ⟨h, z⟩ => ⟨h, hq _ z⟩
def pFd (ec : EcT) (f : Str) : Prim := fun _ ds Q _ => ∃ c x, ds = [.er1 c f x] ∧ (ec.lookup c).isSome = true ∧ Q (.v x)
theorem pFd_mono (ec : EcT) (f : Str) : PMono (pFd ec f) := fun C hC ds Q Q' E E' hq he ⟨c, x, h1, h2, z⟩ => ⟨c, x, h1, h2, hq _ z⟩
/-! what is asked of the written part -/
def tgV (K : PySem.W.Frag) (t : Str × Bool) : Value := if t.2 = true then .ref (He.ga K t.1) else .type t.1.toString
def isB (ec : EcT) (tg : List (Str × Bool)) (K : PySem.W.Frag) : Bool := ec.all fun x => excCB K (He.ga K x.1) && (tg.all fun t => decide (PySem.W.kitOne K (.ref (He.ga K x.1)) (tgV K t) = some (isT ec t.1 x.1)))
def fdB (ec : EcT) (K : PySem.W.Frag) : Bool := ec.all fun x => xfB K (He.ga K x.1) && (decide (PySem.W.findIn K (.ref (He.ga K x.1)) "given" = some none) && decide (PySem.W.findIn K (.ref (He.ga K x.1)) "index" = some none))
theorem lookup_memS {α : Type} {c : Str} : ∀ {l : List (Str × α)}, (l.lookup c).isSome = true → ∃ x, (c, x) ∈ l
  | [], h => by cases h
  | (n, x) :: r, h => by
    rw [List.lookup_cons] at h
    split at h
    · rename_i q
      have : c = n := by simpa using q
      exact ⟨x, by rw [this]; exact List.mem_cons_self⟩
    · obtain ⟨y, hy⟩ := lookup_memS h
      exact ⟨y, List.mem_cons_of_mem _ hy⟩
section
variable {p : Pg} {G : Cfg} {fs : List (Str × Fn)} {l : List (Str × Prim)} {k : Nat} {c f : Str}
theorem lv_two (n1 : fs.lookup ("!lv" : Str) = none) (l1 : l.lookup ("!lv" : Str) = some (pTo "!lv1")) (n2 : fs.lookup ("!lv1" : Str) = none) {Q : Rv → Prop} {E : XP} (z : CW G fs l k "!lv" [] Q E) : ∃ j, k = j + 1 := by
  obtain ⟨j, e1, z⟩ := cw_prim n1 l1 z
  exact ⟨j, e1⟩
theorem c_er1 {nm : Str} (n1 : fs.lookup ("!lv" : Str) = none) (l1 : l.lookup ("!lv" : Str) = some (pTo "!lv1")) (n2 : fs.lookup ("!lv1" : Str) = none) (hn : fs.lookup nm = none) (hl : l.lookup nm = some (pE1 c f)) : ∀ ds Q E, CW G fs l k nm ds Q E → (∃ j, k = j + 2) ∧ ∃ d, ds = [d] ∧ Q (.v (.er1 c f d)) := fun ds Q E z => by
  obtain ⟨j, e, h, d, e2, q⟩ := cw_prim hn hl z
  obtain ⟨j2, e3⟩ := lv_two n1 l1 n2 h
  exact ⟨⟨j2, by omega⟩, d, e2, q⟩
theorem c_er0 {nm : Str} (hn : fs.lookup nm = none) (hl : l.lookup nm = some (pE0 c)) : ∀ ds Q E, CW G fs l k nm ds Q E → ds = [] ∧ Q (.v (.er0 c)) := fun ds Q E z => by
  obtain ⟨j, e, h⟩ := cw_prim hn hl z
  exact h
theorem c_isT {ec : EcT} {tg : List (Str × Bool)} (hb : isB ec tg G.K = true) {t : Str × Bool} (ht : t ∈ tg) (hn : fs.lookup (isErN t.1) = none) (hl : l.lookup (isErN t.1) = some (pIs ec t.1)) :
    ∀ ds Q E, CW G fs l k (isErN t.1) ds Q E → ∃ d c0 b, ds = [d] ∧ erC d = some c0 ∧ ExcC G.K (He.ga G.K c0) ∧ PySem.W.kitOne G.K (.ref (He.ga G.K c0)) (tgV G.K t) = some b ∧ Q (.v (.bl b)) := fun ds Q E z => by
  obtain ⟨j, e, d, c0, h1, h2, h3, q⟩ := cw_prim hn hl z
  obtain ⟨x, hx⟩ := lookup_memS h3
  obtain ⟨a1, a2⟩ := He.ba (List.all_eq_true.mp hb _ hx)
  exact ⟨d, c0, _, h1, h2, excCB_ok a1, of_decide_eq_true (List.all_eq_true.mp a2 t ht), q⟩
theorem c_fd {ec : EcT} (hb : fdB ec G.K = true) (hf : f = Str.ofString "given" ∨ f = Str.ofString "index") (hn : fs.lookup f = none) (hl : l.lookup f = some (pFd ec f)) : ∀ d Q E, CW G fs l k f [d] Q E → ∃ c x, d = .er1 c f x ∧ XfC G.K (He.ga G.K c) ∧ PySem.W.findIn G.K (.ref (He.ga G.K c)) f = some none ∧ Q (.v x) := fun d Q E z => by
  obtain ⟨j, e, c, x, h1, h3, q⟩ := cw_prim hn hl z
  obtain ⟨y, hy⟩ := lookup_memS h3
  obtain ⟨a1, a2⟩ := He.ba (List.all_eq_true.mp hb _ hy)
  obtain ⟨a2, a3⟩ := He.ba a2
  refine ⟨c, x, List.head_eq_of_cons_eq h1, xfB_ok a1, ?_, q⟩
  rcases hf with rfl | rfl
  · exact of_decide_eq_true a2
  · exact of_decide_eq_true a3
end
end En
/-! small forms of helpers of the laws, printed by a program of this repo; each law checks them against its text. -/
namespace En
/-- 1, 2 -/
def lh_thing : Sms := (.cons (.set 1 (.lst (.cons (.con .non) (.cons (.con (.bl true)) (.cons (.con (.bl false)) (.cons (.con (.int 0)) (.cons (.con (.int 1)) (.cons (.neg (.con (.int 1))) (.cons (.con (.int 2)) (.cons (.bin .Add (.bin .Pow (.con (.int 10)) (.con (.int 6))) (.con (.int 1))) (.cons (.neg (.bin .Pow (.con (.int 10)) (.con (.int 39)))) (.cons (.con (.str "")) (.cons (.con (.str "a")) (.cons (.con (.str "vars x")) (.cons (.tup .nil) (.cons (.tup (.cons (.con (.int 0)) .nil)) (.cons (.tup (.cons (.con (.int 1)) (.cons (.con (.int 0)) .nil))) (.cons (.con (.str "9x")) .nil)))))))))))))))))) (.cons (.set 1 (.bin .Add (.var 1) (.lst (.cons (.lst .nil) (.cons (.lst (.cons (.con (.int 1)) .nil)) (.cons (.con (.str "A")) (.cons (.dct []) (.cons (.dct [(.inr "a", (.int 1))]) (.cons (.tup (.cons (.con (.str "x")) .nil)) (.cons (.tup (.cons (.con (.str "a")) (.cons (.tup (.cons (.con (.int 1)) (.cons (.con (.int 0)) .nil))) .nil))) (.cons (.tup (.cons (.tup (.cons (.con (.int 1)) (.cons (.con (.int 0)) .nil))) .nil)) (.cons (.tup (.cons (.con (.str "row")) .nil)) (.cons (.tup (.cons (.con .non) .nil)) (.cons (.con (.str "abcdefghi")) (.cons (.con (.str "x y")) .nil))))))))))))))) (.cons (.ret (.fn "_law_any_of" (.cons (.var 0) (.cons (.var 1) .nil)))) .nil)))
end En
namespace En
open PySem L2 PyProof.Rows TL
/-! Av1: values of any kind. -/
end En
namespace En
open PySem L2 PyProof.Rows TL
/-! Av2: names judged, by the program and by the law. -/
end En
namespace En
open PySem L2 PyProof.Rows TL
/-! Av3: the law's own judgement of names. -/
end En
namespace En
open PySem L2 PyProof.Rows TL
local macro_rules | `(tactic| walk_at "wps") => `(tactic| simp only [exSs, exS, evR, evT, evS, evP, evAs, evO, evC, evI, evIF, evF, mkV, mkT, Rvd_v, Rvd_f, varW_z, varW_s, barW_z, barW_zo, barW_s, ex_bl, libW, isi_i, isi_s, isi_t, eqW_i, fzE, fzV, slotOf, bindTg, bindTgs, wip, startD, List.map_cons, List.map_nil, List.replicate, List.length_cons, List.length_nil, List.cons_append, List.nil_append, List.set_cons_zero, List.set_cons_succ, Nat.reduceAdd, Nat.reduceSub, Nat.sub_self, Nat.add_sub_cancel, List.getElem?_cons_zero, List.getElem?_cons_succ, setAll, b_isi, b_lenL, b_lenT, b_lenS, b_lenO, b_all, b_any, b_tupL, b_tupT, b_lstL, b_lstT, b_strO, b_strI, b_strS, b_intI, b_intS, b_abs, b_min, b_max, b_sum, b_dvm, b_boolO, b_reprO, b_reprL, m_joinL, m_joinT, m_split, y_join, y_split, c_lt, c_le, c_gt, c_ge, c_is, c_isn, c_eq, c_ne, c_in, c_nin, i_str, i_tup, i_lst, t_bl, t_int, n_int, o_addI, o_addS, o_addT, o_addL, o_sub, o_mul, o_fdv, o_mod, o_pow, x_lst, x_tup, x_str, l_lst, l_tup, l_str, q_lst, q_tup, q_str, e_lst, e_tup])
/-! Av4: values of any kind, drawn. -/
/-- draws alone -/
structure LgC (fs : List (Str × Fn)) (l : List (Str × Prim)) : Prop where
  noC : fs.lookup ("_law_cast" : Str) = none
  lC : l.lookup ("_law_cast" : Str) = some (pCst false)
  any_of : fs.lookup ("_law_any_of" : Str) = some ⟨2, 2, lh_any_of⟩
def thing1 : List D := [.non, .bl true, .bl false, .int 0, .int 1, .int (-1), .int 2, .int (10 ^ (6 : Int).toNat + 1), .int (-(10 ^ (39 : Int).toNat)), .str "", .str "a", .str "vars x", .tup [], .tup [.int 0], .tup [.int 1, .int 0], .str "9x"]
def thing2 : List D := [.lst [], .lst [.int 1], .str "A", .dic [], .dic [(.inr "a", .int 1)], .tup [.str "x"], .tup [.str "a", .tup [.int 1, .int 0]], .tup [.tup [.int 1, .int 0]], .tup [.str "row"], .tup [.non], .str "abcdefghi", .str "x y"]
section
variable {sub : Sub} {fs : List (Str × Fn)} {l : List (Str × Prim)} {G : Cfg} (hG : G.B = libW sub) (hm : ∀ k, MonoC (CW G fs l k)) (D' : LgC fs l)
include hG hm D'
theorem castC {k : Nat} {n : Int} (h0 : 0 < n) (h1 : n < 1073741824) {Q : Rv → Prop} {E : XP} (q : ∀ i : Int, 0 ≤ i → i < n → Q (.v (.int i))) : CW G fs l (k + 1) "_law_cast" [.pail, .int n] Q E := cw_prim_mk D'.noC D'.lC ⟨n, rfl, h0, h1, q⟩
theorem anyC {k : Nat} {xs : List D} (h0 : xs ≠ []) (h1 : xs.length < 1000000) {Q : Rv → Prop} {E : XP} (q : ∀ x ∈ xs, Q (.v x)) : CW G fs l (k + 2) "_law_any_of" [.pail, .lst xs] Q E := by
  refine cw_fn_mk D'.any_of rfl ?_
  have hp : xs.length ≠ 0 := fun e => h0 (List.length_eq_zero_iff.mp e)
  rw [hG]
  unfold lh_any_of
  walk_at "wps"
  refine castC hG hm D' (by omega) (by omega) fun i h2 h3 => ?_
  obtain ⟨j, rfl⟩ := Int.eq_ofNat_of_zero_le h2
  have hj : j < xs.length := by omega
  walk_at "wps"
  exact ⟨xs[j], atI_nat (List.getElem?_eq_getElem hj), q _ (List.getElem_mem _)⟩
theorem thing_ok (ht : fs.lookup ("_law_thing" : Str) = some ⟨1, 2, lh_thing⟩) {k : Nat} {Q : Rv → Prop} {E : XP} (q : ∀ x ∈ thing1 ++ thing2, Q (.v x)) : CW G fs l (k + 3) "_law_thing" [.pail] Q E := by
  have hB : G.B.Mono := by rw [hG]; exact libW_mono sub
  refine cw_fn_mk ht rfl ?_
  refine ss_c (s_set hB (hm _) (.fr thing1) ?_ ?_)
  · rw [hG]
    walk_at "wps"
    refine ⟨⟨by decide, by decide, by decide⟩, ⟨by decide, by decide, by decide⟩, ?_⟩
    simp only [sl_le (show 0 ≤ 100000 by decide), sl_le (show 1 ≤ 100000 by decide), sl_le (show 2 ≤ 100000 by decide), true_and]
    exact ⟨sl_le (by decide), rfl⟩
  refine ss_c (s_set hB (hm _) (.fr (thing1 ++ thing2)) ?_ ?_)
  · rw [hG]
    show (evP _ _ _ [some (.val .pail), some (.val (.lst thing1))]).R _ _
    walk_at "wps"
    simp only [sl_le (show 0 ≤ 100000 by decide), sl_le (show 1 ≤ 100000 by decide), sl_le (show 2 ≤ 100000 by decide), true_and]
    exact ⟨sl_le (by decide), sl_le (by decide), rfl⟩
  refine ss_c ?_
  unfold exS
  rw [hG]
  show evR _ _ _ [some (.val .pail), some (.val (.lst (thing1 ++ thing2)))] _ _
  walk_at "wps"
  exact anyC hG hm D' (by decide) (by decide) fun x hx => q x hx
end
end En
namespace En
open PySem L2 PyProof.Rows TL
/-! Av5: a value with one place in it put otherwise. -/
end En
namespace En
open PySem L2 PyProof.Rows TL
/-! Av6: drawn names; programs of wrong names. -/
end En
namespace En
open PySem L2 PyProof.Rows TL
/-! Av7: right names are good ones. -/
theorem lw_blt {sub : Sub} {C : Call} {b : Bf} {ds : List D} {Q : Rv → Prop} {E : XP} : (libW sub).blt C b ds Q E = bltW sub C b ds Q := rfl
theorem lw_mth {sub : Sub} : (libW sub).mth = mthW := rfl
theorem lw_mty {sub : Sub} : (libW sub).mty = mtyW := rfl
theorem lw_mok {sub : Sub} : (libW sub).mok = sub.mok := rfl
end En
/-! small forms of helpers of the laws, printed by a program of this repo; each law checks them against its text. -/
namespace En
end En
namespace En
open PySem L2 PyProof.Rows TL
/-! Av8: forms, sayings of any kind. -/
end En
namespace En
open PySem L2 PyProof.Rows TL
/-! Av9: the first wrong one of a row; sayings of any kind. -/
end En
namespace En
open PySem L2 PyProof.Rows TL
/-! Ava: sayings judged by the law; programs of wrong sayings. -/
end En
namespace En
open PySem L2 PyProof.Rows TL
/-! Avb: more of draws; answers. -/
theorem LgD.c {fs : List (Str × Fn)} {l : List (Str × Prim)} (D' : LgD fs l) : LgC fs l := ⟨D'.noC, D'.lC, D'.any_of⟩
theorem sl2 : (2 ≤ sizeLine) = True := eq_true (sl_le (by omega))
end En
namespace En
open PySem L2 PyProof.Rows TL
/-! Avc: branches of any kind. -/
end En
namespace En
open PySem L2 PyProof.Rows TL
/-! Avd: branches judged in a row; programs of wrong branches. -/
end En
namespace En
open PySem L2 PyProof.Rows TL
/-! Ave: branches judged by the law. -/
end En
/-! small forms of more defs of the program, printed by a program of this repo; each law checks them against its text. -/
namespace En
end En
namespace En
open PySem L2 PyProof.Rows TL
/-! ### the value of a form at a point, the first test below 0, the point behind a branch -/
end En
namespace En
open PySem L2 PyProof.Rows TL
/-! ### what is asked is judged: programs, indexes, places, points -/
end En
namespace En
open PySem L2 PyProof.Rows TL
/-! ### branches taken, refused -/
end En
namespace En
open PySem L2 PyProof.Rows TL
/-! ### what is shown is a text; shown answers compared -/
end En
/-! small forms of helpers of the laws, printed by a program of this repo; each law checks them against its text. -/
namespace En
end En
namespace En
open PySem L2 PyProof.Rows TL
/-! ### small drawn programs -/
/-- a form with numbers up to b -/
def smF (b : Int) (m : Nat) (f : List Int) : Prop := f.length = m + 1 ∧ ∀ c ∈ f, -b ≤ c ∧ c ≤ b
theorem smF.le {b b' : Int} {m : Nat} {f : List Int} (h : smF b m f) (hb : b ≤ b') : smF b' m f := ⟨h.1, fun c hc => by have := h.2 c hc; omega⟩
theorem smF.at {b : Int} {m i : Nat} {f : List Int} (h : smF b m f) (hb : 0 ≤ b) : -b ≤ f.getD i 0 ∧ f.getD i 0 ≤ b := by
  rw [List.getD_eq_getElem?_getD]
  cases e : f[i]? with
  | none => exact ⟨by show -b ≤ 0; omega, by show 0 ≤ b; omega⟩
  | some c => exact h.2 c (List.mem_of_getElem? e)
end En
namespace En
open PySem L2 PyProof.Rows TL
/-! ### small drawn programs, whole; points; this law's sums -/
end En
namespace En
open PySem L2 PyProof.Rows TL
/-! ### drawn points; the laws' sums -/
/-- a point with numbers up to b -/
def ptB (b : Int) (m : Nat) (p : List Int) : Prop := p.length = m ∧ ∀ c ∈ p, -b ≤ c ∧ c ≤ b
theorem ptB.le {b b' : Int} {m : Nat} {f : List Int} (h : ptB b m f) (hb : b ≤ b') : ptB b' m f := ⟨h.1, fun c hc => by have := h.2 c hc; omega⟩
end En
namespace En
open PySem L2 PyProof.Rows TL
/-! ### a program built, by little -/
end En
namespace En
open PySem L2 PyProof.Rows TL
/-! ### all tests of a branch -/
end En
namespace En
open PySem L2 PyProof.Rows TL
/-! ### values shown, of any kind -/
end En
/-! small forms of helpers of the laws, printed by a program of this repo; each law checks them against its text. -/
namespace En
/-- 1, 2 -/
def k01_placed : Sms := (.cons (.set 1 (.lst (.cons (.fn "InvalidText" (.cons (.var 0) .nil)) (.cons (.fn "InvalidName" (.cons (.var 0) .nil)) (.cons (.fn "InvalidIndex" (.cons (.var 0) .nil)) (.cons (.fn "InvalidPlace" (.cons (.var 0) .nil)) (.cons (.fn "InvalidPoint" (.cons (.var 0) .nil)) .nil))))))) (.cons (.set 1 (.bin .Add (.var 1) (.lst (.cons (.fn "InvalidForm" (.cons (.var 0) .nil)) (.cons (.fn "InvalidRank" (.cons (.var 0) .nil)) (.cons (.fn "InvalidWish" (.cons (.var 0) .nil)) (.cons (.fn "NotProgram" (.cons (.var 0) .nil)) .nil))))))) (.cons (.set 1 (.bin .Add (.var 1) (.lst (.cons (.fn "InvalidNames" (.cons (.var 0) .nil)) (.cons (.fn "InvalidSayings" (.cons (.var 0) .nil)) (.cons (.fn "InvalidBranches" (.cons (.var 0) .nil)) (.cons (.fn "InvalidForms" (.cons (.var 0) .nil)) .nil))))))) (.cons (.set 1 (.bin .Add (.var 1) (.lst (.cons (.fn "InvalidRanks" (.cons (.var 0) .nil)) (.cons (.fn "InvalidWalk" (.cons (.var 0) .nil)) (.cons (.fn "InvalidChanges" (.cons (.var 0) .nil)) (.cons (.fn "InvalidWishes" (.cons (.var 0) .nil)) .nil))))))) (.cons (.set 1 (.bin .Add (.var 1) (.lst (.cons (.fn "UnknownName" (.cons (.var 0) .nil)) (.cons (.fn "InUse" (.cons (.var 0) .nil)) (.cons (.fn "Stuck" (.cons (.var 0) .nil)) (.cons (.fn "NoRow" (.cons (.var 0) .nil)) (.cons (.fn "TooMany" (.cons (.var 0) .nil)) .nil)))))))) (.cons (.ret (.bin .Add (.var 1) (.lst (.cons (.fn "NothingToUndo" .nil) (.cons (.fn "Broken" (.cons (.var 0) .nil)) .nil))))) .nil))))))
/-- 1, 2 -/
def k01_named : Sms := (.cons (.set 1 (.lst (.cons (.fnk "InvalidText" [0] .nil (.cons (.var 0) .nil)) (.cons (.fnk "InvalidName" [0] .nil (.cons (.var 0) .nil)) (.cons (.fnk "InvalidIndex" [0] .nil (.cons (.var 0) .nil)) (.cons (.fnk "InvalidPlace" [0] .nil (.cons (.var 0) .nil)) .nil)))))) (.cons (.set 1 (.bin .Add (.var 1) (.lst (.cons (.fnk "InvalidPoint" [0] .nil (.cons (.var 0) .nil)) (.cons (.fnk "InvalidForm" [0] .nil (.cons (.var 0) .nil)) (.cons (.fnk "InvalidRank" [0] .nil (.cons (.var 0) .nil)) .nil)))))) (.cons (.set 1 (.bin .Add (.var 1) (.lst (.cons (.fnk "InvalidWish" [0] .nil (.cons (.var 0) .nil)) (.cons (.fnk "NotProgram" [0] .nil (.cons (.var 0) .nil)) (.cons (.fnk "InvalidNames" [0] .nil (.cons (.var 0) .nil)) .nil)))))) (.cons (.set 1 (.bin .Add (.var 1) (.lst (.cons (.fnk "InvalidSayings" [0] .nil (.cons (.var 0) .nil)) (.cons (.fnk "InvalidBranches" [0] .nil (.cons (.var 0) .nil)) (.cons (.fnk "InvalidForms" [0] .nil (.cons (.var 0) .nil)) .nil)))))) (.cons (.set 1 (.bin .Add (.var 1) (.lst (.cons (.fnk "InvalidRanks" [0] .nil (.cons (.var 0) .nil)) (.cons (.fnk "InvalidWalk" [0] .nil (.cons (.var 0) .nil)) (.cons (.fnk "InvalidChanges" [0] .nil (.cons (.var 0) .nil)) .nil)))))) (.cons (.set 1 (.bin .Add (.var 1) (.lst (.cons (.fnk "InvalidWishes" [0] .nil (.cons (.var 0) .nil)) (.cons (.fnk "UnknownName" [0] .nil (.cons (.var 0) .nil)) (.cons (.fnk "InUse" [0] .nil (.cons (.var 0) .nil)) (.cons (.fnk "Stuck" [0] .nil (.cons (.var 0) .nil)) .nil))))))) (.cons (.ret (.bin .Add (.var 1) (.lst (.cons (.fnk "NoRow" [0] .nil (.cons (.var 0) .nil)) (.cons (.fnk "TooMany" [0] .nil (.cons (.var 0) .nil)) (.cons (.fn "NothingToUndo" .nil) (.cons (.fnk "Broken" [0] .nil (.cons (.var 0) .nil)) .nil))))))) .nil)))))))
/-- 1, 2 -/
def k01_flags : Sms := (.cons (.set 1 (.lst (.cons (.fn "is:InvalidText" (.cons (.var 0) .nil)) (.cons (.fn "is:InvalidName" (.cons (.var 0) .nil)) (.cons (.fn "is:InvalidIndex" (.cons (.var 0) .nil)) .nil))))) (.cons (.set 1 (.bin .Add (.var 1) (.lst (.cons (.fn "is:InvalidPlace" (.cons (.var 0) .nil)) (.cons (.fn "is:InvalidPoint" (.cons (.var 0) .nil)) (.cons (.fn "is:InvalidForm" (.cons (.var 0) .nil)) .nil)))))) (.cons (.set 1 (.bin .Add (.var 1) (.lst (.cons (.fn "is:InvalidRank" (.cons (.var 0) .nil)) (.cons (.fn "is:InvalidWish" (.cons (.var 0) .nil)) (.cons (.fn "is:NotProgram" (.cons (.var 0) .nil)) .nil)))))) (.cons (.set 1 (.bin .Add (.var 1) (.lst (.cons (.fn "is:InvalidNames" (.cons (.var 0) .nil)) (.cons (.fn "is:InvalidSayings" (.cons (.var 0) .nil)) (.cons (.fn "is:InvalidBranches" (.cons (.var 0) .nil)) .nil)))))) (.cons (.set 1 (.bin .Add (.var 1) (.lst (.cons (.fn "is:InvalidForms" (.cons (.var 0) .nil)) (.cons (.fn "is:InvalidRanks" (.cons (.var 0) .nil)) (.cons (.fn "is:InvalidWalk" (.cons (.var 0) .nil)) .nil)))))) (.cons (.set 1 (.bin .Add (.var 1) (.lst (.cons (.fn "is:InvalidChanges" (.cons (.var 0) .nil)) (.cons (.fn "is:InvalidWishes" (.cons (.var 0) .nil)) (.cons (.fn "is:UnknownName" (.cons (.var 0) .nil)) .nil)))))) (.cons (.set 1 (.bin .Add (.var 1) (.lst (.cons (.fn "is:InUse" (.cons (.var 0) .nil)) (.cons (.fn "is:Stuck" (.cons (.var 0) .nil)) (.cons (.fn "is:NoRow" (.cons (.var 0) .nil)) (.cons (.fn "is:TooMany" (.cons (.var 0) .nil)) .nil))))))) (.cons (.ret (.bin .Add (.var 1) (.lst (.cons (.fn "is:NothingToUndo" (.cons (.var 0) .nil)) (.cons (.fn "is:Broken" (.cons (.var 0) .nil)) .nil))))) .nil))))))))
/-- 1, 2 -/
def k01_bases : Sms := (.cons (.set 1 (.lst (.cons (.fn "is:WrongValue" (.cons (.var 0) .nil)) (.cons (.fn "is:WrongName" (.cons (.var 0) .nil)) (.cons (.fn "is:NotPossible" (.cons (.var 0) .nil)) .nil))))) (.cons (.ret (.bin .Add (.var 1) (.lst (.cons (.fn "is:ValueError" (.cons (.var 0) .nil)) (.cons (.fn "is:LookupError" (.cons (.var 0) .nil)) (.cons (.fn "is:ArithmeticError" (.cons (.var 0) .nil)) .nil)))))) .nil))
/-- 2, 2 -/
def k01_held : Sms := (.cons (.ret (.ite (.cmp .In (.var 1) (.lst (.cons (.con (.int 9)) (.cons (.con (.int 10)) (.cons (.con (.int 11)) (.cons (.con (.int 12)) (.cons (.con (.int 13)) (.cons (.con (.int 14)) (.cons (.con (.int 15)) (.cons (.con (.int 16)) (.cons (.con (.int 18)) (.cons (.con (.int 19)) (.cons (.con (.int 23)) .nil))))))))))))) (.att (.var 0) "index") (.att (.var 0) "given"))) .nil)
/-- 2, 5 -/
def k01_some_right : Sms := (.cons (.forr (.nm 2) (.rng1 (.con (.int 24))) (.cons (.set 3 (.ite (.cmp .Lt (.var 2) (.con (.int 17))) (.con (.int 0)) (.ite (.cmp .Lt (.var 2) (.con (.int 19))) (.con (.int 1)) (.con (.int 2))))) (.cons (.iff (.cmp .NotEq (.fn "_law_flags" (.cons (.idx (.var 0) (.var 2)) .nil)) (.lc (.cmp .Eq (.var 4) (.var 2)) (.nm 4) (.rng1 (.con (.int 24))) .no [4])) (.cons (.ret (.con (.bl false))) .nil) .nil) (.cons (.iff (.cmp .NotEq (.fn "_law_bases" (.cons (.idx (.var 0) (.var 2)) .nil)) (.bin .Mult (.lc (.cmp .Eq (.var 4) (.var 3)) (.nm 4) (.rng1 (.con (.int 3))) .no [4]) (.con (.int 2)))) (.cons (.ret (.con (.bl false))) .nil) .nil) (.cons (.iff (.and (.cmp .NotEq (.var 2) (.con (.int 22))) (.cmp .NotEq (.blt .repr (.cons (.fn "_law_held" (.cons (.idx (.var 0) (.var 2)) (.cons (.var 2) .nil))) .nil)) (.blt .repr (.cons (.var 1) .nil)))) (.cons (.ret (.con (.bl false))) .nil) .nil) .nil))))) (.cons (.ret (.cmp .Eq (.blt .len (.cons (.var 0) .nil)) (.con (.int 24)))) .nil))
/-- 1, 5 -/
def k01_right : Sms := (.cons (.forr (.nm 1) (.rng1 (.con (.int 4))) (.cons (.set 2 (.fn "_law_thing" (.cons (.var 0) .nil))) (.cons (.iff (.or (.not (.fn "_law_some_right" (.cons (.fn "_law_placed" (.cons (.var 2) .nil)) (.cons (.var 2) .nil)))) (.not (.fn "_law_some_right" (.cons (.fn "_law_named" (.cons (.var 2) .nil)) (.cons (.var 2) .nil))))) (.cons (.ret (.con (.bl false))) .nil) .nil) .nil))) (.cons (.set 3 (.lc (.slc (.fn "_law_bases" (.cons (.var 4) .nil)) .no (.so (.con (.int 3)))) (.nm 4) (.seq (.lst (.cons (.fn "WrongValue" .nil) (.cons (.fn "WrongName" .nil) (.cons (.fn "NotPossible" .nil) .nil))))) .no [4])) (.cons (.ret (.cmp .Eq (.var 3) (.lst (.cons (.lst (.cons (.con (.bl true)) (.cons (.con (.bl false)) (.cons (.con (.bl false)) .nil)))) (.cons (.lst (.cons (.con (.bl false)) (.cons (.con (.bl true)) (.cons (.con (.bl false)) .nil)))) (.cons (.lst (.cons (.con (.bl false)) (.cons (.con (.bl false)) (.cons (.con (.bl true)) .nil)))) .nil)))))) .nil)))
/-- 1, 3 -/
def k01_law : Sms := (.cons (.set 1 (.lst (.cons (.glo (.int 3)) (.cons (.glo (.int 3)) (.cons (.glo (.int 5)) (.cons (.glo (.int 3)) (.cons (.glo (.int 3)) (.cons (.glo (.int 1000000)) (.cons (.glo (.int 1000)) (.cons (.glo (.int 9)) .nil)))))))))) (.cons (.iff (.cmp .NotEq (.blt .repr (.cons (.bin .Add (.var 1) (.lst (.cons (.glo (.int 6)) .nil))) .nil)) (.blt .repr (.cons (.lst (.cons (.con (.int 3)) (.cons (.con (.int 3)) (.cons (.con (.int 5)) (.cons (.con (.int 3)) (.cons (.con (.int 3)) (.cons (.bin .Pow (.con (.int 10)) (.con (.int 6))) (.cons (.con (.int 1000)) (.cons (.con (.int 9)) (.cons (.con (.int 6)) .nil)))))))))) .nil))) (.cons (.ret (.con (.bl false))) .nil) .nil) (.cons (.ret (.blt .all (.cons (.lc (.fn "_law_right" (.cons (.fn "_law_begun" (.cons (.var 0) (.cons (.var 2) .nil))) .nil)) (.nm 2) (.rng1 (.blt .max (.cons (.con (.int 2)) (.cons (.blt .min (.cons (.blt .len (.cons (.var 0) .nil)) (.cons (.con (.int 5)) .nil))) .nil)))) .no [2]) .nil))) .nil)))
end En
namespace En
open PySem L2 PyProof.Rows TL
local macro_rules | `(tactic| walk_at "wps") => `(tactic| simp only [exSs, exS, evR, evT, evS, evP, evAs, evO, evC, evI, evIF, evF, mkV, mkT, Rvd_v, Rvd_f, varW_z, varW_s, barW_z, barW_zo, barW_s, ex_bl, libW, isi_i, isi_s, isi_t, eqW_i, fzE, fzV, slotOf, bindTg, bindTgs, wip, startD, List.map_cons, List.map_nil, List.replicate, List.length_cons, List.length_nil, List.cons_append, List.nil_append, List.set_cons_zero, List.set_cons_succ, Nat.reduceAdd, Nat.reduceSub, Nat.sub_self, Nat.add_sub_cancel, List.getElem?_cons_zero, List.getElem?_cons_succ, setAll, b_isi, b_lenL, b_lenT, b_lenS, b_lenO, b_all, b_any, b_tupL, b_tupT, b_lstL, b_lstT, b_strO, b_strI, b_strS, b_intI, b_intS, b_abs, b_min, b_max, b_sum, b_dvm, b_boolO, b_reprO, b_reprL, m_joinL, m_joinT, m_split, y_join, y_split, c_lt, c_le, c_gt, c_ge, c_is, c_isn, c_eq, c_ne, c_in, c_nin, i_str, i_tup, i_lst, t_bl, t_int, n_int, o_addI, o_addS, o_addT, o_addL, o_sub, o_mul, o_fdv, o_mod, o_pow, x_lst, x_tup, x_str, l_lst, l_tup, l_str, q_lst, q_tup, q_str, e_lst, e_tup])
/-! K01c: errors as values: contracts of k01's defs. -/
def ec01 : EcT := [(Str.ofString "WrongValue", Str.ofString "", [Str.ofString "ValueError"]), (Str.ofString "InvalidText", Str.ofString "given", [Str.ofString "WrongValue", Str.ofString "ValueError"]), (Str.ofString "InvalidName", Str.ofString "given", [Str.ofString "WrongValue", Str.ofString "ValueError"]), (Str.ofString "InvalidIndex", Str.ofString "given", [Str.ofString "WrongValue", Str.ofString "ValueError"]), (Str.ofString "InvalidPlace", Str.ofString "given", [Str.ofString "WrongValue", Str.ofString "ValueError"]), (Str.ofString "InvalidPoint", Str.ofString "given", [Str.ofString "WrongValue", Str.ofString "ValueError"]), (Str.ofString "InvalidForm", Str.ofString "given", [Str.ofString "WrongValue", Str.ofString "ValueError"]), (Str.ofString "InvalidRank", Str.ofString "given", [Str.ofString "WrongValue", Str.ofString "ValueError"]), (Str.ofString "InvalidWish", Str.ofString "given", [Str.ofString "WrongValue", Str.ofString "ValueError"]), (Str.ofString "NotProgram", Str.ofString "given", [Str.ofString "WrongValue", Str.ofString "ValueError"]), (Str.ofString "InvalidNames", Str.ofString "index", [Str.ofString "WrongValue", Str.ofString "ValueError"]), (Str.ofString "InvalidSayings", Str.ofString "index", [Str.ofString "WrongValue", Str.ofString "ValueError"]), (Str.ofString "InvalidBranches", Str.ofString "index", [Str.ofString "WrongValue", Str.ofString "ValueError"]), (Str.ofString "InvalidForms", Str.ofString "index", [Str.ofString "WrongValue", Str.ofString "ValueError"]), (Str.ofString "InvalidRanks", Str.ofString "index", [Str.ofString "WrongValue", Str.ofString "ValueError"]), (Str.ofString "InvalidWalk", Str.ofString "index", [Str.ofString "WrongValue", Str.ofString "ValueError"]), (Str.ofString "InvalidChanges", Str.ofString "index", [Str.ofString "WrongValue", Str.ofString "ValueError"]), (Str.ofString "InvalidWishes", Str.ofString "index", [Str.ofString "WrongValue", Str.ofString "ValueError"]), (Str.ofString "WrongName", Str.ofString "", [Str.ofString "LookupError"]), (Str.ofString "UnknownName", Str.ofString "given", [Str.ofString "WrongName", Str.ofString "LookupError"]), (Str.ofString "InUse", Str.ofString "index", [Str.ofString "WrongName", Str.ofString "LookupError"]), (Str.ofString "NotPossible", Str.ofString "", [Str.ofString "ArithmeticError"]), (Str.ofString "NoRow", Str.ofString "given", [Str.ofString "NotPossible", Str.ofString "ArithmeticError"]), (Str.ofString "TooMany", Str.ofString "given", [Str.ofString "NotPossible", Str.ofString "ArithmeticError"]), (Str.ofString "Stuck", Str.ofString "index", [Str.ofString "NotPossible", Str.ofString "ArithmeticError"]), (Str.ofString "NothingToUndo", Str.ofString "", [Str.ofString "NotPossible", Str.ofString "ArithmeticError"]), (Str.ofString "Broken", Str.ofString "index", [Str.ofString "NotPossible", Str.ofString "ArithmeticError"])]
def er1T : List (Str × Str) := [(Str.ofString "InvalidText", Str.ofString "given"), (Str.ofString "InvalidName", Str.ofString "given"), (Str.ofString "InvalidIndex", Str.ofString "given"), (Str.ofString "InvalidPlace", Str.ofString "given"), (Str.ofString "InvalidPoint", Str.ofString "given"), (Str.ofString "InvalidForm", Str.ofString "given"), (Str.ofString "InvalidRank", Str.ofString "given"), (Str.ofString "InvalidWish", Str.ofString "given"), (Str.ofString "NotProgram", Str.ofString "given"), (Str.ofString "InvalidNames", Str.ofString "index"), (Str.ofString "InvalidSayings", Str.ofString "index"), (Str.ofString "InvalidBranches", Str.ofString "index"), (Str.ofString "InvalidForms", Str.ofString "index"), (Str.ofString "InvalidRanks", Str.ofString "index"), (Str.ofString "InvalidWalk", Str.ofString "index"), (Str.ofString "InvalidChanges", Str.ofString "index"), (Str.ofString "InvalidWishes", Str.ofString "index"), (Str.ofString "UnknownName", Str.ofString "given"), (Str.ofString "InUse", Str.ofString "index"), (Str.ofString "NoRow", Str.ofString "given"), (Str.ofString "TooMany", Str.ofString "given"), (Str.ofString "Stuck", Str.ofString "index"), (Str.ofString "Broken", Str.ofString "index")]
def er0T : List Str := [Str.ofString "WrongValue", Str.ofString "WrongName", Str.ofString "NotPossible", Str.ofString "NothingToUndo"]
def isN : List (Str × Str) := [(Str.ofString "is:WrongValue", Str.ofString "WrongValue"), (Str.ofString "is:InvalidText", Str.ofString "InvalidText"), (Str.ofString "is:InvalidName", Str.ofString "InvalidName"), (Str.ofString "is:InvalidIndex", Str.ofString "InvalidIndex"), (Str.ofString "is:InvalidPlace", Str.ofString "InvalidPlace"), (Str.ofString "is:InvalidPoint", Str.ofString "InvalidPoint"), (Str.ofString "is:InvalidForm", Str.ofString "InvalidForm"), (Str.ofString "is:InvalidRank", Str.ofString "InvalidRank"), (Str.ofString "is:InvalidWish", Str.ofString "InvalidWish"), (Str.ofString "is:NotProgram", Str.ofString "NotProgram"), (Str.ofString "is:InvalidNames", Str.ofString "InvalidNames"), (Str.ofString "is:InvalidSayings", Str.ofString "InvalidSayings"), (Str.ofString "is:InvalidBranches", Str.ofString "InvalidBranches"), (Str.ofString "is:InvalidForms", Str.ofString "InvalidForms"), (Str.ofString "is:InvalidRanks", Str.ofString "InvalidRanks"), (Str.ofString "is:InvalidWalk", Str.ofString "InvalidWalk"), (Str.ofString "is:InvalidChanges", Str.ofString "InvalidChanges"), (Str.ofString "is:InvalidWishes", Str.ofString "InvalidWishes"), (Str.ofString "is:WrongName", Str.ofString "WrongName"), (Str.ofString "is:UnknownName", Str.ofString "UnknownName"), (Str.ofString "is:InUse", Str.ofString "InUse"), (Str.ofString "is:NotPossible", Str.ofString "NotPossible"), (Str.ofString "is:NoRow", Str.ofString "NoRow"), (Str.ofString "is:TooMany", Str.ofString "TooMany"), (Str.ofString "is:Stuck", Str.ofString "Stuck"), (Str.ofString "is:NothingToUndo", Str.ofString "NothingToUndo"), (Str.ofString "is:Broken", Str.ofString "Broken"), (Str.ofString "is:ValueError", Str.ofString "ValueError"), (Str.ofString "is:LookupError", Str.ofString "LookupError"), (Str.ofString "is:ArithmeticError", Str.ofString "ArithmeticError")]
def er01T : List (Str × Str) := [(Str.ofString "InvalidText", Str.ofString "given"), (Str.ofString "InvalidName", Str.ofString "given"), (Str.ofString "InvalidIndex", Str.ofString "given"), (Str.ofString "InvalidPlace", Str.ofString "given"), (Str.ofString "InvalidPoint", Str.ofString "given"), (Str.ofString "InvalidForm", Str.ofString "given"), (Str.ofString "InvalidRank", Str.ofString "given"), (Str.ofString "InvalidWish", Str.ofString "given"), (Str.ofString "NotProgram", Str.ofString "given"), (Str.ofString "InvalidNames", Str.ofString "index"), (Str.ofString "InvalidSayings", Str.ofString "index"), (Str.ofString "InvalidBranches", Str.ofString "index"), (Str.ofString "InvalidForms", Str.ofString "index"), (Str.ofString "InvalidRanks", Str.ofString "index"), (Str.ofString "InvalidWalk", Str.ofString "index"), (Str.ofString "InvalidChanges", Str.ofString "index"), (Str.ofString "InvalidWishes", Str.ofString "index"), (Str.ofString "UnknownName", Str.ofString "given"), (Str.ofString "InUse", Str.ofString "index"), (Str.ofString "Stuck", Str.ofString "index"), (Str.ofString "NoRow", Str.ofString "given"), (Str.ofString "TooMany", Str.ofString "given"), (Str.ofString "NothingToUndo", Str.ofString ""), (Str.ofString "Broken", Str.ofString "index")]
def flN : List Str := [Str.ofString "InvalidText", Str.ofString "InvalidName", Str.ofString "InvalidIndex", Str.ofString "InvalidPlace", Str.ofString "InvalidPoint", Str.ofString "InvalidForm", Str.ofString "InvalidRank", Str.ofString "InvalidWish", Str.ofString "NotProgram", Str.ofString "InvalidNames", Str.ofString "InvalidSayings", Str.ofString "InvalidBranches", Str.ofString "InvalidForms", Str.ofString "InvalidRanks", Str.ofString "InvalidWalk", Str.ofString "InvalidChanges", Str.ofString "InvalidWishes", Str.ofString "UnknownName", Str.ofString "InUse", Str.ofString "Stuck", Str.ofString "NoRow", Str.ofString "TooMany", Str.ofString "NothingToUndo", Str.ofString "Broken"]
def bsN : List Str := [Str.ofString "WrongValue", Str.ofString "WrongName", Str.ofString "NotPossible", Str.ofString "ValueError", Str.ofString "LookupError", Str.ofString "ArithmeticError"]
def mkD (d : D) (x : Str × Str) : D := if x.2 = Str.empty then .er0 x.1 else .er1 x.1 x.2 d
def er01 (d : D) : List D := er01T.map (mkD d)
theorem er01_eq (d : D) : er01 d = [.er1 (Str.ofString "InvalidText") (Str.ofString "given") d, .er1 (Str.ofString "InvalidName") (Str.ofString "given") d, .er1 (Str.ofString "InvalidIndex") (Str.ofString "given") d, .er1 (Str.ofString "InvalidPlace") (Str.ofString "given") d, .er1 (Str.ofString "InvalidPoint") (Str.ofString "given") d, .er1 (Str.ofString "InvalidForm") (Str.ofString "given") d, .er1 (Str.ofString "InvalidRank") (Str.ofString "given") d, .er1 (Str.ofString "InvalidWish") (Str.ofString "given") d, .er1 (Str.ofString "NotProgram") (Str.ofString "given") d, .er1 (Str.ofString "InvalidNames") (Str.ofString "index") d, .er1 (Str.ofString "InvalidSayings") (Str.ofString "index") d, .er1 (Str.ofString "InvalidBranches") (Str.ofString "index") d, .er1 (Str.ofString "InvalidForms") (Str.ofString "index") d, .er1 (Str.ofString "InvalidRanks") (Str.ofString "index") d, .er1 (Str.ofString "InvalidWalk") (Str.ofString "index") d, .er1 (Str.ofString "InvalidChanges") (Str.ofString "index") d, .er1 (Str.ofString "InvalidWishes") (Str.ofString "index") d, .er1 (Str.ofString "UnknownName") (Str.ofString "given") d, .er1 (Str.ofString "InUse") (Str.ofString "index") d, .er1 (Str.ofString "Stuck") (Str.ofString "index") d, .er1 (Str.ofString "NoRow") (Str.ofString "given") d, .er1 (Str.ofString "TooMany") (Str.ofString "given") d, .er0 (Str.ofString "NothingToUndo"), .er1 (Str.ofString "Broken") (Str.ofString "index") d] := by kernel_rfl
theorem erC_mk (d : D) (x : Str × Str) : erC (mkD d x) = some x.1 := by
  unfold mkD
  split <;> rfl
structure EcL (fs : List (Str × Fn)) (l : List (Str × Prim)) : Prop where
  er1 : ∀ x ∈ er1T, fs.lookup x.1 = none ∧ l.lookup x.1 = some (pE1 x.1 x.2)
  er0 : ∀ x ∈ er0T, fs.lookup x = none ∧ l.lookup x = some (pE0 x)
  is : ∀ x ∈ isN, fs.lookup x.1 = none ∧ l.lookup x.1 = some (pIs ec01 x.2)
  gv : fs.lookup (Str.ofString "given") = none ∧ l.lookup (Str.ofString "given") = some (pFd ec01 (Str.ofString "given"))
  ix : fs.lookup (Str.ofString "index") = none ∧ l.lookup (Str.ofString "index") = some (pFd ec01 (Str.ofString "index"))
  lv : fs.lookup ("!lv" : Str) = none ∧ l.lookup ("!lv" : Str) = some (pTo "!lv1") ∧ fs.lookup ("!lv1" : Str) = none ∧ l.lookup ("!lv1" : Str) = some pOk
section
variable {sub : Sub} {fs : List (Str × Fn)} {l : List (Str × Prim)} {G : Cfg} (hG : G.B = libW sub) (hm : ∀ k, MonoC (CW G fs l k)) (H : EcL fs l)
include H in
theorem mkE {k i : Nat} {c f : Str} {d : D} (hc : er1T[i]? = some (c, f)) {Q : Rv → Prop} {E : XP} (q : Q (.v (.er1 c f d))) : CW G fs l (k + 3) c [d] Q E := by
  obtain ⟨h1, h2⟩ := H.er1 _ (List.mem_of_getElem? hc)
  obtain ⟨l1, l2, l3, l4⟩ := H.lv
  have z1 : CW G fs l (k + 1) ("!lv1" : Str) [] (fun _ => True) E0 := cw_prim_mk l3 l4 (show (fun _ : Rv => True) (.v .non) from trivial)
  have z2 : CW G fs l (k + 2) ("!lv" : Str) [] (fun _ => True) E0 := cw_prim_mk l1 l2 z1
  exact cw_prim_mk h1 h2 ⟨z2, d, rfl, q⟩
include H in
theorem mkZ {k i : Nat} {c : Str} (hc : er0T[i]? = some c) {Q : Rv → Prop} {E : XP} (q : Q (.v (.er0 c))) : CW G fs l (k + 1) c [] Q E := by
  obtain ⟨h1, h2⟩ := H.er0 _ (List.mem_of_getElem? hc)
  exact cw_prim_mk h1 h2 ⟨rfl, q⟩
include H in
theorem isE {k i : Nat} {n t c : Str} {d : D} (hi : isN[i]? = some (n, t)) (hc : erC d = some c) (hl : (ec01.lookup c).isSome = true) {Q : Rv → Prop} {E : XP} (q : Q (.v (.bl (isT ec01 t c)))) : CW G fs l (k + 1) n [d] Q E := by
  obtain ⟨h1, h2⟩ := H.is _ (List.mem_of_getElem? hi)
  exact cw_prim_mk h1 h2 ⟨d, c, rfl, hc, hl, q⟩
include hG hm H in
theorem k01_placed_ok (hf : fs.lookup ("_law_placed" : Str) = some ⟨1, 2, k01_placed⟩) {k : Nat} {d : D} {Q : Rv → Prop} {E : XP} (q : Q (.fr (er01 d))) : CW G fs l (k + 4) "_law_placed" [d] Q E := by
  refine cw_fn_mk hf rfl ?_
  rw [hG]
  unfold k01_placed
  walk_at "wps"
  refine mkE H (i := 0) rfl ?_
  refine mkE H (i := 1) rfl ?_
  refine mkE H (i := 2) rfl ?_
  refine mkE H (i := 3) rfl ?_
  refine mkE H (i := 4) rfl ?_
  refine ⟨sl_le (by decide), ?_⟩
  refine mkE H (i := 5) rfl ?_
  refine mkE H (i := 6) rfl ?_
  refine mkE H (i := 7) rfl ?_
  refine mkE H (i := 8) rfl ?_
  refine ⟨sl_le (by decide), ?_⟩
  refine ⟨sl_le (by simp), ?_⟩
  refine mkE H (i := 9) rfl ?_
  refine mkE H (i := 10) rfl ?_
  refine mkE H (i := 11) rfl ?_
  refine mkE H (i := 12) rfl ?_
  refine ⟨sl_le (by decide), ?_⟩
  refine ⟨sl_le (by simp), ?_⟩
  refine mkE H (i := 13) rfl ?_
  refine mkE H (i := 14) rfl ?_
  refine mkE H (i := 15) rfl ?_
  refine mkE H (i := 16) rfl ?_
  refine ⟨sl_le (by decide), ?_⟩
  refine ⟨sl_le (by simp), ?_⟩
  refine mkE H (i := 17) rfl ?_
  refine mkE H (i := 18) rfl ?_
  refine mkE H (i := 21) rfl ?_
  refine mkE H (i := 19) rfl ?_
  refine mkE H (i := 20) rfl ?_
  refine ⟨sl_le (by decide), ?_⟩
  refine ⟨sl_le (by simp), ?_⟩
  refine mkZ H (i := 3) rfl ?_
  refine mkE H (i := 22) rfl ?_
  refine ⟨sl_le (by decide), ?_⟩
  refine ⟨sl_le (by simp), ?_⟩
  rw [er01_eq] at q
  exact q
include hG hm H in
theorem k01_named_ok (hf : fs.lookup ("_law_named" : Str) = some ⟨1, 2, k01_named⟩) {k : Nat} {d : D} {Q : Rv → Prop} {E : XP} (q : Q (.fr (er01 d))) : CW G fs l (k + 4) "_law_named" [d] Q E := by
  refine cw_fn_mk hf rfl ?_
  rw [hG]
  unfold k01_named
  walk_at "wps"
  refine mkE H (i := 0) rfl ?_
  refine mkE H (i := 1) rfl ?_
  refine mkE H (i := 2) rfl ?_
  refine mkE H (i := 3) rfl ?_
  refine ⟨sl_le (by decide), ?_⟩
  refine mkE H (i := 4) rfl ?_
  refine mkE H (i := 5) rfl ?_
  refine mkE H (i := 6) rfl ?_
  refine ⟨sl_le (by decide), ?_⟩
  refine ⟨sl_le (by simp), ?_⟩
  refine mkE H (i := 7) rfl ?_
  refine mkE H (i := 8) rfl ?_
  refine mkE H (i := 9) rfl ?_
  refine ⟨sl_le (by decide), ?_⟩
  refine ⟨sl_le (by simp), ?_⟩
  refine mkE H (i := 10) rfl ?_
  refine mkE H (i := 11) rfl ?_
  refine mkE H (i := 12) rfl ?_
  refine ⟨sl_le (by decide), ?_⟩
  refine ⟨sl_le (by simp), ?_⟩
  refine mkE H (i := 13) rfl ?_
  refine mkE H (i := 14) rfl ?_
  refine mkE H (i := 15) rfl ?_
  refine ⟨sl_le (by decide), ?_⟩
  refine ⟨sl_le (by simp), ?_⟩
  refine mkE H (i := 16) rfl ?_
  refine mkE H (i := 17) rfl ?_
  refine mkE H (i := 18) rfl ?_
  refine mkE H (i := 21) rfl ?_
  refine ⟨sl_le (by decide), ?_⟩
  refine ⟨sl_le (by simp), ?_⟩
  refine mkE H (i := 19) rfl ?_
  refine mkE H (i := 20) rfl ?_
  refine mkZ H (i := 3) rfl ?_
  refine mkE H (i := 22) rfl ?_
  refine ⟨sl_le (by decide), ?_⟩
  refine ⟨sl_le (by simp), ?_⟩
  rw [er01_eq] at q
  exact q
include hG hm H in
theorem k01_flags_ok (hf : fs.lookup ("_law_flags" : Str) = some ⟨1, 2, k01_flags⟩) {k : Nat} {d : D} {c : Str} (hc : erC d = some c) (hl : (ec01.lookup c).isSome = true) {Q : Rv → Prop} {E : XP} (q : Q (.fr (flN.map fun t => D.bl (isT ec01 t c)))) : CW G fs l (k + 2) "_law_flags" [d] Q E := by
  refine cw_fn_mk hf rfl ?_
  rw [hG]
  unfold k01_flags
  walk_at "wps"
  refine isE H (i := 1) rfl hc hl ?_
  refine isE H (i := 2) rfl hc hl ?_
  refine isE H (i := 3) rfl hc hl ?_
  refine ⟨sl_le (by decide), ?_⟩
  refine isE H (i := 4) rfl hc hl ?_
  refine isE H (i := 5) rfl hc hl ?_
  refine isE H (i := 6) rfl hc hl ?_
  refine ⟨sl_le (by decide), ?_⟩
  refine ⟨sl_le (by simp), ?_⟩
  refine isE H (i := 7) rfl hc hl ?_
  refine isE H (i := 8) rfl hc hl ?_
  refine isE H (i := 9) rfl hc hl ?_
  refine ⟨sl_le (by decide), ?_⟩
  refine ⟨sl_le (by simp), ?_⟩
  refine isE H (i := 10) rfl hc hl ?_
  refine isE H (i := 11) rfl hc hl ?_
  refine isE H (i := 12) rfl hc hl ?_
  refine ⟨sl_le (by decide), ?_⟩
  refine ⟨sl_le (by simp), ?_⟩
  refine isE H (i := 13) rfl hc hl ?_
  refine isE H (i := 14) rfl hc hl ?_
  refine isE H (i := 15) rfl hc hl ?_
  refine ⟨sl_le (by decide), ?_⟩
  refine ⟨sl_le (by simp), ?_⟩
  refine isE H (i := 16) rfl hc hl ?_
  refine isE H (i := 17) rfl hc hl ?_
  refine isE H (i := 19) rfl hc hl ?_
  refine ⟨sl_le (by decide), ?_⟩
  refine ⟨sl_le (by simp), ?_⟩
  refine isE H (i := 20) rfl hc hl ?_
  refine isE H (i := 24) rfl hc hl ?_
  refine isE H (i := 22) rfl hc hl ?_
  refine isE H (i := 23) rfl hc hl ?_
  refine ⟨sl_le (by decide), ?_⟩
  refine ⟨sl_le (by simp), ?_⟩
  refine isE H (i := 25) rfl hc hl ?_
  refine isE H (i := 26) rfl hc hl ?_
  refine ⟨sl_le (by decide), ?_⟩
  refine ⟨sl_le (by simp), ?_⟩
  exact q
include hG hm H in
theorem k01_bases_ok (hf : fs.lookup ("_law_bases" : Str) = some ⟨1, 2, k01_bases⟩) {k : Nat} {d : D} {c : Str} (hc : erC d = some c) (hl : (ec01.lookup c).isSome = true) {Q : Rv → Prop} {E : XP} (q : Q (.fr (bsN.map fun t => D.bl (isT ec01 t c)))) : CW G fs l (k + 2) "_law_bases" [d] Q E := by
  refine cw_fn_mk hf rfl ?_
  rw [hG]
  unfold k01_bases
  walk_at "wps"
  refine isE H (i := 0) rfl hc hl ?_
  refine isE H (i := 18) rfl hc hl ?_
  refine isE H (i := 21) rfl hc hl ?_
  refine ⟨sl_le (by decide), ?_⟩
  refine isE H (i := 27) rfl hc hl ?_
  refine isE H (i := 28) rfl hc hl ?_
  refine isE H (i := 29) rfl hc hl ?_
  refine ⟨sl_le (by decide), ?_⟩
  refine ⟨sl_le (by simp), ?_⟩
  exact q
end
end En
namespace En
open PySem L2 PyProof.Rows TL
local macro_rules | `(tactic| walk_at "wpe") => `(tactic| simp only [evR, evT, evS, evP, evAs, evO, evC, evI, evIF, evF, mkV, mkT, Rvd_v, Rvd_f, varW_z, varW_s, barW_z, barW_zo, barW_s, ex_bl, lw_blt, lw_mth, lw_mty, lw_mok, isi_i, isi_s, isi_t, eqW_i, fzE, fzV, slotOf, bindTg, bindTgs, wip, startD, List.map_cons, List.map_nil, List.replicate, List.length_cons, List.length_nil, List.cons_append, List.nil_append, List.set_cons_zero, List.set_cons_succ, Nat.reduceAdd, Nat.reduceSub, Nat.sub_self, Nat.add_sub_cancel, List.getElem?_cons_zero, List.getElem?_cons_succ, setAll, b_isi, b_lenL, b_lenT, b_lenS, b_lenO, b_all, b_any, b_tupL, b_tupT, b_lstL, b_lstT, b_strO, b_strI, b_strS, b_intI, b_intS, b_abs, b_min, b_max, b_sum, b_dvm, b_boolO, b_reprO, b_reprL, m_joinL, m_joinT, m_split, y_join, y_split, c_lt, c_le, c_gt, c_ge, c_is, c_isn, c_eq, c_ne, c_in, c_nin, i_str, i_tup, i_lst, t_bl, t_int, n_int, o_addI, o_addS, o_addT, o_addL, o_sub, o_mul, o_fdv, o_mod, o_pow, x_lst, x_tup, x_str, l_lst, l_tup, l_str, q_lst, q_tup, q_str, e_lst, e_tup])
local macro_rules | `(tactic| walk_at "wps") => `(tactic| simp only [exSs, exS, evR, evT, evS, evP, evAs, evO, evC, evI, evIF, evF, mkV, mkT, Rvd_v, Rvd_f, varW_z, varW_s, barW_z, barW_zo, barW_s, ex_bl, libW, isi_i, isi_s, isi_t, eqW_i, fzE, fzV, slotOf, bindTg, bindTgs, wip, startD, List.map_cons, List.map_nil, List.replicate, List.length_cons, List.length_nil, List.cons_append, List.nil_append, List.set_cons_zero, List.set_cons_succ, Nat.reduceAdd, Nat.reduceSub, Nat.sub_self, Nat.add_sub_cancel, List.getElem?_cons_zero, List.getElem?_cons_succ, setAll, b_isi, b_lenL, b_lenT, b_lenS, b_lenO, b_all, b_any, b_tupL, b_tupT, b_lstL, b_lstT, b_strO, b_strI, b_strS, b_intI, b_intS, b_abs, b_min, b_max, b_sum, b_dvm, b_boolO, b_reprO, b_reprL, m_joinL, m_joinT, m_split, y_join, y_split, c_lt, c_le, c_gt, c_ge, c_is, c_isn, c_eq, c_ne, c_in, c_nin, i_str, i_tup, i_lst, t_bl, t_int, n_int, o_addI, o_addS, o_addT, o_addL, o_sub, o_mul, o_fdv, o_mod, o_pow, x_lst, x_tup, x_str, l_lst, l_tup, l_str, q_lst, q_tup, q_str, e_lst, e_tup])
/-! K01f: errors as values: all of a kind right. -/
def inB (i : Nat) : Bool := ([D.int 9, D.int 10, D.int 11, D.int 12, D.int 13, D.int 14, D.int 15, D.int 16, D.int 18, D.int 19, D.int 23] : List D).any fun y => eqF y (.int (i : Nat))
def eqI (i : Int) : D → D
  | .int k => .bl (decide (k = i))
  | _ => .non
def rgL (n : Nat) (i : Int) : List D := ((List.range n).map fun k => D.int (k : Nat)).map (eqI i)
def eqB (x y : D) : Bool := isDat x && (isDat y && (SeqAt.shaped (toPy x) && (SeqAt.shaped (toPy y) && PyData.eqv (toPy x) (toPy y))))
theorem eqW_B {C : Call} {x y : D} {Q : Bool → Prop} (h : eqB x y = true) (q : Q true) : eqW C x y Q := by
  obtain ⟨h1, h⟩ := He.ba h
  obtain ⟨h2, h⟩ := He.ba h
  obtain ⟨h3, h⟩ := He.ba h
  obtain ⟨h4, h5⟩ := He.ba h
  exact .inr (.inl ⟨h1, h2, h3, h4, by rw [h5]; exact q⟩)
def clA (i : Nat) : Str × Str := er01T.getD i (Str.empty, Str.empty)
def basA (i : Nat) : Int := if i < 17 then 0 else if i < 19 then 1 else 2
theorem tab_held : ((List.range 24).all fun i => (i == 22) || ((ec01.lookup (clA i).1).isSome && (!decide ((clA i).2 = Str.empty) && decide ((clA i).2 = if inB i then Str.ofString "index" else Str.ofString "given")))) = true := by decide +kernel
theorem tab_flags : ((List.range 24).all fun i => (ec01.lookup (clA i).1).isSome && (eqB (.lst (flN.map fun t => D.bl (isT ec01 t (clA i).1))) (.lst (rgL 24 i)) && eqB (.lst (bsN.map fun t => D.bl (isT ec01 t (clA i).1))) (.lst (List.replicate 2 (rgL 3 (basA i))).flatten))) = true := by decide +kernel
theorem tab_len : er01T.length = 24 := by decide +kernel
theorem er01_at {i : Nat} (d : D) (h : i < 24) : (er01 d)[i]? = some (mkD d (clA i)) := by
  unfold er01 clA
  have hl : i < er01T.length := by rw [tab_len]; exact h
  rw [List.getElem?_map, List.getElem?_eq_getElem hl, List.getD_eq_getElem?_getD, List.getElem?_eq_getElem hl]
  rfl
section
variable {sub : Sub} {fs : List (Str × Fn)} {l : List (Str × Prim)} {G : Cfg} (hG : G.B = libW sub) (hm : ∀ k, MonoC (CW G fs l k)) (H : EcL fs l)
include hG hm H in
theorem k01_held_ok (hf : fs.lookup ("_law_held" : Str) = some ⟨2, 2, k01_held⟩) {k i : Nat} {d : D} (hi : i < 24) (h22 : i ≠ 22) {Q : Rv → Prop} {E : XP} (q : Q (.v d)) : CW G fs l (k + 2) "_law_held" [mkD d (clA i), .int (i : Nat)] Q E := by
  refine cw_fn_mk hf rfl ?_
  rw [hG]
  have key := List.all_eq_true.mp tab_held i (List.mem_range.mpr hi)
  simp only [Bool.or_eq_true, beq_iff_eq, h22, false_or, Bool.and_eq_true, Bool.not_eq_true', decide_eq_false_iff_not, decide_eq_true_eq] at key
  obtain ⟨h1, h2, h3⟩ := key
  have em : mkD d (clA i) = .er1 (clA i).1 (clA i).2 d := by
    unfold mkD
    rw [if_neg h2]
  rw [em]
  unfold k01_held
  walk_at "wps"
  refine ⟨sl_le (by decide), rfl, rfl, ?_⟩
  show if inB i = true then _ else _
  cases hb : inB i with
  | true =>
    rw [if_pos rfl]
    rw [hb, if_pos rfl] at h3
    rw [h3]
    exact cw_prim_mk H.ix.1 H.ix.2 ⟨_, _, rfl, h1, q⟩
  | false =>
    rw [if_neg (by decide)]
    rw [hb, if_neg (by decide)] at h3
    rw [h3]
    exact cw_prim_mk H.gv.1 H.gv.2 ⟨_, _, rfl, h1, q⟩
/-- what repr tells -/
def Rep (d : D) (s : Str) : Prop := ∀ (sub : Sub) (C : Call) (Q : Rv → Prop), Q (.v (.str s)) → bltW sub C .repr [d] Q
theorem rep_of {d : D} (h1 : isShw d = true) (h2 : (toPy d).showable = true) (h3 : (toPy d).depth ≤ 60) (h4 : (toPy d).shown.length ≤ sizeLine) : Rep d (toPy d).shown := fun sub C Q q => by
  cases d <;> first
    | exact ⟨h1, h2, h3, h4, q⟩
    | cases h1
include hG hm H in
theorem k01_some_ok (hf : fs.lookup ("_law_some_right" : Str) = some ⟨2, 5, k01_some_right⟩) (hfl : fs.lookup ("_law_flags" : Str) = some ⟨1, 2, k01_flags⟩) (hbs : fs.lookup ("_law_bases" : Str) = some ⟨1, 2, k01_bases⟩) (hhd : fs.lookup ("_law_held" : Str) = some ⟨2, 2, k01_held⟩)
    {k : Nat} {d : D} {s : Str} (hr : Rep d s) {Q : Rv → Prop} {E : XP} (q : Q (.v (.bl true))) : CW G fs l (k + 4) "_law_some_right" [.lst (er01 d), d] Q E := by
  refine cw_fn_mk hf rfl ?_
  rw [hG]
  have hB : (libW sub).Mono := libW_mono sub
  have hC := hm (k + 3)
  unfold k01_some_right
  refine ss_c ?_
  unfold exS
  walk_at "wpe"
  refine ⟨_, rfl, ⟨by omega, by omega⟩, ?_⟩
  refine for_inv (fun i r => ∃ s2 s3 s4 : Option Slot, r = [some (.val (.lst (er01 d))), some (.val d), s2, s3, s4]) ⟨_, _, _, rfl⟩ (fun i x r hx hp K hk => ?_) fun r hp => ?_
  · obtain ⟨s2, s3, s4, rfl⟩ := hp
    obtain ⟨hi, rfl⟩ : i < 24 ∧ x = .int (i : Nat) := by
      have hx : ((List.range 24).map fun k => D.int (k : Nat))[i]? = some x := hx
      rw [List.getElem?_map] at hx
      rcases Nat.lt_or_ge i 24 with h | h
      · rw [List.getElem?_range h] at hx
        exact ⟨h, (Option.some.inj hx).symm⟩
      · rw [List.getElem?_eq_none (by simpa using h)] at hx
        cases hx
    have key := List.all_eq_true.mp tab_flags i (List.mem_range.mpr hi)
    simp only [Bool.and_eq_true] at key
    obtain ⟨k1, k2, k3⟩ := key
    have at1 : atI (er01 d) (i : Int) = some (mkD d (clA i)) := atI_nat (er01_at d hi)
    simp only [List.set_cons_succ, List.set_cons_zero]
    refine ss_c (s_set hB hC (.v (.int (basA i))) ?_ ?_)
    · walk_at "wps"
      unfold basA
      by_cases h1 : i < 17
      · rw [if_pos (by simp; omega), if_pos h1]
      · rw [if_neg (by simp; omega), if_neg h1]
        by_cases h2 : i < 19
        · rw [if_pos (by simp; omega), if_pos h2]
        · rw [if_neg (by simp; omega), if_neg h2]
    simp only [Rvd_v, List.set_cons_succ, List.set_cons_zero]
    refine ss_c (s_if hB hC false ?_ ?_)
    · walk_at "wps"
      refine ⟨_, at1, ?_⟩
      refine k01_flags_ok hG hm H hfl (erC_mk _ _) k1 ?_
      walk_at "wps"
      refine ⟨_, rfl, ⟨by omega, by omega⟩, sl_le (by simp), ?_⟩
      refine fold_map (f := eqI i) _ _ (fun x hx acc K hK => ?_) ?_
      · obtain ⟨j, _, rfl⟩ := List.mem_map.mp hx
        walk_at "wps"
        exact hK
      · exact eqW_B k2 rfl
    rw [if_neg (by decide)]
    refine ss_n ?_
    refine ss_c (s_if hB hC false ?_ ?_)
    · walk_at "wps"
      refine ⟨_, at1, ?_⟩
      refine k01_bases_ok hG hm H hbs (erC_mk _ _) k1 ?_
      walk_at "wps"
      refine ⟨_, rfl, ⟨by omega, by omega⟩, sl_le (by simp), ?_⟩
      refine fold_map (f := eqI (basA i)) _ _ (fun x hx acc K hK => ?_) ?_
      · obtain ⟨j, _, rfl⟩ := List.mem_map.mp hx
        walk_at "wps"
        exact hK
      · refine ⟨by decide, by decide, by simp, ?_⟩
        exact eqW_B k3 rfl
    rw [if_neg (by decide)]
    refine ss_n ?_
    refine ss_c (s_if hB hC false ?_ ?_)
    · walk_at "wps"
      by_cases h22 : i = 22
      · subst h22
        simp
      · rw [if_pos (by simp; omega)]
        refine ⟨_, at1, ?_⟩
        refine k01_held_ok hG hm H hhd hi h22 ?_
        refine hr sub _ _ ?_
        refine hr sub _ _ ?_
        walk_at "wps"
        simp [eqW_ss]
    rw [if_neg (by decide)]
    refine ss_n ?_
    exact hk _ ⟨_, _, _, rfl⟩
  · obtain ⟨s2, s3, s4, rfl⟩ := hp
    refine ss_c ?_
    unfold exS
    walk_at "wps"
    have e : (er01 d).length = 24 := by unfold er01; rw [List.length_map, tab_len]
    rw [e]
    exact q
end
end En
namespace En
open PySem L2 PyProof.Rows TL
local macro_rules | `(tactic| walk_at "wpe") => `(tactic| simp only [evR, evT, evS, evP, evAs, evO, evC, evI, evIF, evF, mkV, mkT, Rvd_v, Rvd_f, varW_z, varW_s, barW_z, barW_zo, barW_s, ex_bl, lw_blt, lw_mth, lw_mty, lw_mok, isi_i, isi_s, isi_t, eqW_i, fzE, fzV, slotOf, bindTg, bindTgs, wip, startD, List.map_cons, List.map_nil, List.replicate, List.length_cons, List.length_nil, List.cons_append, List.nil_append, List.set_cons_zero, List.set_cons_succ, Nat.reduceAdd, Nat.reduceSub, Nat.sub_self, Nat.add_sub_cancel, List.getElem?_cons_zero, List.getElem?_cons_succ, setAll, b_isi, b_lenL, b_lenT, b_lenS, b_lenO, b_all, b_any, b_tupL, b_tupT, b_lstL, b_lstT, b_strO, b_strI, b_strS, b_intI, b_intS, b_abs, b_min, b_max, b_sum, b_dvm, b_boolO, b_reprO, b_reprL, m_joinL, m_joinT, m_split, y_join, y_split, c_lt, c_le, c_gt, c_ge, c_is, c_isn, c_eq, c_ne, c_in, c_nin, i_str, i_tup, i_lst, t_bl, t_int, n_int, o_addI, o_addS, o_addT, o_addL, o_sub, o_mul, o_fdv, o_mod, o_pow, x_lst, x_tup, x_str, l_lst, l_tup, l_str, q_lst, q_tup, q_str, e_lst, e_tup])
local macro_rules | `(tactic| walk_at "wps") => `(tactic| simp only [exSs, exS, evR, evT, evS, evP, evAs, evO, evC, evI, evIF, evF, mkV, mkT, Rvd_v, Rvd_f, varW_z, varW_s, barW_z, barW_zo, barW_s, ex_bl, libW, isi_i, isi_s, isi_t, eqW_i, fzE, fzV, slotOf, bindTg, bindTgs, wip, startD, List.map_cons, List.map_nil, List.replicate, List.length_cons, List.length_nil, List.cons_append, List.nil_append, List.set_cons_zero, List.set_cons_succ, Nat.reduceAdd, Nat.reduceSub, Nat.sub_self, Nat.add_sub_cancel, List.getElem?_cons_zero, List.getElem?_cons_succ, setAll, b_isi, b_lenL, b_lenT, b_lenS, b_lenO, b_all, b_any, b_tupL, b_tupT, b_lstL, b_lstT, b_strO, b_strI, b_strS, b_intI, b_intS, b_abs, b_min, b_max, b_sum, b_dvm, b_boolO, b_reprO, b_reprL, m_joinL, m_joinT, m_split, y_join, y_split, c_lt, c_le, c_gt, c_ge, c_is, c_isn, c_eq, c_ne, c_in, c_nin, i_str, i_tup, i_lst, t_bl, t_int, n_int, o_addI, o_addS, o_addT, o_addL, o_sub, o_mul, o_fdv, o_mod, o_pow, x_lst, x_tup, x_str, l_lst, l_tup, l_str, q_lst, q_tup, q_str, e_lst, e_tup])
/-! K01g: the law's defs. -/
theorem thing_rep : ((thing1 ++ thing2).all fun d => isShw d && ((toPy d).showable && (decide ((toPy d).depth ≤ 60) && decide ((toPy d).shown.length ≤ 16777216)))) = true := by decide +kernel
def e3 : List D := [.er0 (Str.ofString "WrongValue"), .er0 (Str.ofString "WrongName"), .er0 (Str.ofString "NotPossible")]
def b3 (d : D) : D := match erC d with
  | some c => .lst ((bsN.map fun t => D.bl (isT ec01 t c)).take 3)
  | none => .non
theorem tab_e3 : (e3.all fun d => match erC d with
  | some c => (ec01.lookup c).isSome
  | none => false) = true := by decide +kernel
theorem tab_b3 : eqB (.lst (e3.map b3)) (.lst [.lst [.bl true, .bl false, .bl false], .lst [.bl false, .bl true, .bl false], .lst [.bl false, .bl false, .bl true]]) = true := by decide +kernel
structure K01L (fs : List (Str × Fn)) (l : List (Str × Prim)) : Prop where
  c : LgC fs l
  e : EcL fs l
  th : fs.lookup ("_law_thing" : Str) = some ⟨1, 2, lh_thing⟩
  pl : fs.lookup ("_law_placed" : Str) = some ⟨1, 2, k01_placed⟩
  nm : fs.lookup ("_law_named" : Str) = some ⟨1, 2, k01_named⟩
  fl : fs.lookup ("_law_flags" : Str) = some ⟨1, 2, k01_flags⟩
  bs : fs.lookup ("_law_bases" : Str) = some ⟨1, 2, k01_bases⟩
  hd : fs.lookup ("_law_held" : Str) = some ⟨2, 2, k01_held⟩
  so : fs.lookup ("_law_some_right" : Str) = some ⟨2, 5, k01_some_right⟩
  rt : fs.lookup ("_law_right" : Str) = some ⟨1, 5, k01_right⟩
  lw : fs.lookup ("law" : Str) = some ⟨1, 3, k01_law⟩
section
variable {sub : Sub} {fs : List (Str × Fn)} {l : List (Str × Prim)} {G : Cfg} (hG : G.B = libW sub) (hm : ∀ k, MonoC (CW G fs l k)) (H : K01L fs l)
include hG hm H
theorem k01_right_ok {k : Nat} {Q : Rv → Prop} {E : XP} (q : Q (.v (.bl true))) : CW G fs l (k + 6) "_law_right" [.pail] Q E := by
  refine cw_fn_mk H.rt rfl ?_
  rw [hG]
  have hB : (libW sub).Mono := libW_mono sub
  have hC := hm (k + 5)
  unfold k01_right
  refine ss_c ?_
  unfold exS
  walk_at "wpe"
  refine ⟨_, rfl, ⟨by omega, by omega⟩, ?_⟩
  refine for_inv (fun i r => ∃ s1 s2 s3 s4 : Option Slot, r = [some (.val .pail), s1, s2, s3, s4]) ⟨_, _, _, _, rfl⟩ (fun i x r hx hp K hk => ?_) fun r hp => ?_
  · obtain ⟨s1, s2, s3, s4, rfl⟩ := hp
    simp only [List.set_cons_succ, List.set_cons_zero]
    refine ss_c (s_setP hB hC (F := fun x => ∃ d, d ∈ thing1 ++ thing2 ∧ x = .v d) ?_ fun x hx => ?_)
    · walk_at "wps"
      exact thing_ok hG hm H.c H.th fun d hd => ⟨d, hd, rfl⟩
    obtain ⟨d, hd, rfl⟩ := hx
    have hr := List.all_eq_true.mp thing_rep d hd
    simp only [Bool.and_eq_true, decide_eq_true_eq] at hr
    have hr : Rep d _ := rep_of hr.1 hr.2.1 hr.2.2.1 (by rw [sizeLine_eq]; exact hr.2.2.2)
    simp only [Rvd_v, List.set_cons_succ, List.set_cons_zero]
    refine ss_c (s_if hB hC false ?_ ?_)
    · walk_at "wps"
      refine k01_placed_ok hG hm H.e H.pl (k := k + 1) ?_
      walk_at "wps"
      refine k01_some_ok hG hm H.e H.so H.fl H.bs H.hd (k := k + 1) hr ?_
      walk_at "wps"
      rw [if_neg (by decide)]
      refine k01_named_ok hG hm H.e H.nm (k := k + 1) ?_
      walk_at "wps"
      refine k01_some_ok hG hm H.e H.so H.fl H.bs H.hd (k := k + 1) hr ?_
      exact (rfl : (!true) = false)
    rw [if_neg (by decide)]
    refine ss_n ?_
    exact hk _ ⟨_, _, _, _, rfl⟩
  · obtain ⟨s1, s2, s3, s4, rfl⟩ := hp
    refine ss_c (s_set hB hC (.fr (e3.map b3)) ?_ ?_)
    · walk_at "wps"
      refine mkZ H.e (k := k + 4) (i := 0) rfl ?_
      refine mkZ H.e (k := k + 4) (i := 1) rfl ?_
      refine mkZ H.e (k := k + 4) (i := 2) rfl ?_
      refine ⟨sl_le (by decide), ?_⟩
      refine ⟨sl_le (by decide), ?_⟩
      refine fold_map (f := b3) _ _ (fun x hx acc K hK => ?_) rfl
      have h1 := List.all_eq_true.mp tab_e3 x hx
      cases ec : erC x with
      | none =>
        rw [ec] at h1
        cases h1
      | some c =>
        rw [ec] at h1
        rw [if_pos trivial]
        refine k01_bases_ok hG hm H.e H.bs (k := k + 3) ec h1 ?_
        walk_at "wps"
        unfold b3 at hK
        rw [ec] at hK
        refine ⟨3, rfl, ?_⟩
        rw [show cutD (bsN.map fun t => D.bl (isT ec01 t c)) none (some 3) = _ from cut_take (i := 3)]
        exact hK
    simp only [Rvd_f, List.set_cons_succ, List.set_cons_zero]
    refine ss_c (s_ret hB hC (.v (.bl true)) ?_ q)
    walk_at "wps"
    refine ⟨sl_le (by decide), sl_le (by decide), sl_le (by decide), sl_le (by decide), ?_⟩
    exact eqW_B tab_b3 rfl
theorem k01_law_ok (noB : fs.lookup ("_law_begun" : Str) = none) (lB : l.lookup ("_law_begun" : Str) = some (pBeg false)) {k : Nat} {ns : List Int} (h1 : ns.length ≤ 63) (h2 : ∀ n ∈ ns, Builtin.Int.intBits n ≤ 1048576) {Q : Rv → Prop} {E : XP} (q : Q (.v (.bl true))) :
    CW G fs l (k + 7) "law" [.lst (ns.map D.int)] Q E := by
  refine cw_fn_mk H.lw rfl ?_
  rw [hG]
  have hB : (libW sub).Mono := libW_mono sub
  have hC := hm (k + 6)
  unfold k01_law
  refine ss_c (s_set hB hC (.fr [.int 3, .int 3, .int 5, .int 3, .int 3, .int 1000000, .int 1000, .int 9]) ?_ ?_)
  · walk_at "wps"
    exact ⟨sl_le (by decide), trivial⟩
  simp only [Rvd_f, startD, List.map_cons, List.map_nil, List.length_cons, List.length_nil, List.replicate, List.cons_append, List.nil_append, List.set_cons_succ, List.set_cons_zero]
  refine ss_c (s_if hB hC false ?_ ?_)
  · walk_at "wps"
    refine ⟨sl_le (by decide), sl_le (by decide), by decide +kernel, by decide +kernel, by decide +kernel, by rw [sizeLine_eq]; decide +kernel, ?_, sl_le (by decide), by decide +kernel, by decide +kernel, by decide +kernel, by rw [sizeLine_eq]; decide +kernel, ?_⟩
    · exact ⟨by decide, by decide, by decide⟩
    · exact eqW_ss.mpr (by decide +kernel)
  rw [if_neg (by decide)]
  refine ss_n ?_
  refine ss_c ?_
  unfold exS
  walk_at "wpe"
  refine ⟨_, rfl, ?_⟩
  have hb : ∃ m : Nat, m ≤ 63 ∧ (if (if (5 : Int) < ((ns.map D.int).length : Int) then (5 : Int) else ((ns.map D.int).length : Int)) > 2 then (if (5 : Int) < ((ns.map D.int).length : Int) then (5 : Int) else ((ns.map D.int).length : Int)) else 2) = (m : Int) := by
    refine ⟨(if (if (5 : Int) < ((ns.map D.int).length : Int) then (5 : Int) else ((ns.map D.int).length : Int)) > 2 then (if (5 : Int) < ((ns.map D.int).length : Int) then (5 : Int) else ((ns.map D.int).length : Int)) else 2).toNat, ?_, ?_⟩
    · split <;> split <;> omega
    · split <;> split <;> omega
  obtain ⟨m, hm', e⟩ := hb
  rw [e]
  refine ⟨⟨by omega, by omega⟩, ?_⟩
  rw [Int.toNat_natCast, List.length_map, List.length_range]
  refine ⟨sl_le (by omega), ?_⟩
  refine fold_map2 (h := fun _ => D.bl true) (List.range m) _ (fun i hi acc K hk => ?_) ?_
  · rw [if_pos trivial]
    have hi := List.mem_range.mp hi
    refine cw_prim_mk (P := (pBeg false)) noB lB ⟨ns, _, rfl, by omega, by omega, h1, h2, ?_⟩
    exact k01_right_ok hG hm H (k := k) hk
  · refine ⟨_, unBl_map (f := fun _ => true) _, ?_⟩
    have : ((List.range m).map fun _ => true).all id = true := by simp
    rw [this]
    exact q
end
end En
namespace K01
open PySem L2 PyProof.Rows En
def top (i : Nat) : Stmt := PySem.Challenge.pw_fallranks_k01_limits_and_errors.main.body.getD i (.Pass ⟨0, 0, 0, 0⟩)
def clsB : Stmt → List Stmt
  | .ClassDef _ _ _ body _ _ _ _ _ _ _ => body
  | _ => []
def meth (i j : Nat) : Stmt := (clsB (top i)).getD j (.Pass ⟨0, 0, 0, 0⟩)
def mG (c f : Str) (K : PySem.W.Frag) : Addr := He.ma K (He.ga K c) f
def dfT (n : Str) (st : Stmt) : Df := ⟨fun K => He.ga K n, n, n, defArgs st, defBody st, defScope st⟩
def dfM (ad : PySem.W.Frag → Addr) (n ql : Str) (st : Stmt) : Df := ⟨ad, n, ql, defArgs st, defBody st, defScope st⟩
def gP : Gi where
  con := [("int", (.ty .int)), ("bool", (.ty .bool)), ("str", (.ty .str)), ("tuple", (.ty .tuple)), ("list", (.ty .list)), ("dict", (.ty .dict)), ("MOST_VARIABLES", (.int 3)), ("MOST_PLACES", (.int 3)), ("MOST_BRANCHES", (.int 5)), ("MOST_TESTS", (.int 3)), ("MOST_SAYINGS", (.int 3)), ("MOST_NUMBER", (.int 1000000)), ("MOST_STATES", (.int 1000)), ("MOST_FORMS", (.int 9)), ("MOST_CHANGES", (.int 6))]
  fns := [Str.ofString "WrongValue", Str.ofString "InvalidText", Str.ofString "InvalidName", Str.ofString "InvalidIndex", Str.ofString "InvalidPlace", Str.ofString "InvalidPoint", Str.ofString "InvalidForm", Str.ofString "InvalidRank", Str.ofString "InvalidWish", Str.ofString "NotProgram", Str.ofString "InvalidNames", Str.ofString "InvalidSayings", Str.ofString "InvalidBranches", Str.ofString "InvalidForms", Str.ofString "InvalidRanks", Str.ofString "InvalidWalk", Str.ofString "InvalidChanges", Str.ofString "InvalidWishes", Str.ofString "WrongName", Str.ofString "UnknownName", Str.ofString "InUse", Str.ofString "NotPossible", Str.ofString "NoRow", Str.ofString "TooMany", Str.ofString "Stuck", Str.ofString "NothingToUndo", Str.ofString "Broken"]
  kws := [("InvalidText", [some "given"], 0, [0]), ("InvalidName", [some "given"], 0, [0]), ("InvalidIndex", [some "given"], 0, [0]), ("InvalidPlace", [some "given"], 0, [0]), ("InvalidPoint", [some "given"], 0, [0]), ("InvalidForm", [some "given"], 0, [0]), ("InvalidRank", [some "given"], 0, [0]), ("InvalidWish", [some "given"], 0, [0]), ("NotProgram", [some "given"], 0, [0]), ("InvalidNames", [some "index"], 0, [0]), ("InvalidSayings", [some "index"], 0, [0]), ("InvalidBranches", [some "index"], 0, [0]), ("InvalidForms", [some "index"], 0, [0]), ("InvalidRanks", [some "index"], 0, [0]), ("InvalidWalk", [some "index"], 0, [0]), ("InvalidChanges", [some "index"], 0, [0]), ("InvalidWishes", [some "index"], 0, [0]), ("UnknownName", [some "given"], 0, [0]), ("InUse", [some "index"], 0, [0]), ("Stuck", [some "index"], 0, [0]), ("NoRow", [some "given"], 0, [0]), ("TooMany", [some "given"], 0, [0]), ("Broken", [some "index"], 0, [0])]
  its := ["range", "enumerate"]
  blt := [("isinstance", .isi), ("len", .len), ("all", .all), ("any", .any), ("tuple", .tup), ("str", .str), ("int", .int), ("abs", .abs)]
  mth := [("join", .join), ("split", .split)]
  mcl := []
  mkw := []
  att := [("given", "given"), ("index", "index")]
  err := []
  exs := [Str.ofString "WrongValue", Str.ofString "InvalidText", Str.ofString "InvalidName", Str.ofString "InvalidIndex", Str.ofString "InvalidPlace", Str.ofString "InvalidPoint", Str.ofString "InvalidForm", Str.ofString "InvalidRank", Str.ofString "InvalidWish", Str.ofString "NotProgram", Str.ofString "InvalidNames", Str.ofString "InvalidSayings", Str.ofString "InvalidBranches", Str.ofString "InvalidForms", Str.ofString "InvalidRanks", Str.ofString "InvalidWalk", Str.ofString "InvalidChanges", Str.ofString "InvalidWishes", Str.ofString "WrongName", Str.ofString "UnknownName", Str.ofString "InUse", Str.ofString "NotPossible", Str.ofString "NoRow", Str.ofString "TooMany", Str.ofString "Stuck", Str.ofString "NothingToUndo", Str.ofString "Broken", Str.ofString "ValueError", Str.ofString "LookupError", Str.ofString "ArithmeticError"]
def gL : Gi where
  con := [("int", (.ty .int)), ("bool", (.ty .bool)), ("str", (.ty .str)), ("tuple", (.ty .tuple)), ("list", (.ty .list)), ("dict", (.ty .dict)), ("MOST_VARIABLES", (.int 3)), ("MOST_PLACES", (.int 3)), ("MOST_BRANCHES", (.int 5)), ("MOST_TESTS", (.int 3)), ("MOST_SAYINGS", (.int 3)), ("MOST_NUMBER", (.int 1000000)), ("MOST_STATES", (.int 1000)), ("MOST_FORMS", (.int 9)), ("MOST_CHANGES", (.int 6))]
  fns := [Str.ofString "WrongValue", Str.ofString "InvalidText", Str.ofString "InvalidName", Str.ofString "InvalidIndex", Str.ofString "InvalidPlace", Str.ofString "InvalidPoint", Str.ofString "InvalidForm", Str.ofString "InvalidRank", Str.ofString "InvalidWish", Str.ofString "NotProgram", Str.ofString "InvalidNames", Str.ofString "InvalidSayings", Str.ofString "InvalidBranches", Str.ofString "InvalidForms", Str.ofString "InvalidRanks", Str.ofString "InvalidWalk", Str.ofString "InvalidChanges", Str.ofString "InvalidWishes", Str.ofString "WrongName", Str.ofString "UnknownName", Str.ofString "InUse", Str.ofString "NotPossible", Str.ofString "NoRow", Str.ofString "TooMany", Str.ofString "Stuck", Str.ofString "NothingToUndo", Str.ofString "Broken", Str.ofString "_law_begun", Str.ofString "_law_cast", Str.ofString "_law_any_of", Str.ofString "_law_thing", Str.ofString "_law_placed", Str.ofString "_law_named", Str.ofString "_law_flags", Str.ofString "_law_bases", Str.ofString "_law_held", Str.ofString "_law_some_right", Str.ofString "_law_right", Str.ofString "law"]
  kws := [("InvalidText", [some "given"], 0, [0]), ("InvalidName", [some "given"], 0, [0]), ("InvalidIndex", [some "given"], 0, [0]), ("InvalidPlace", [some "given"], 0, [0]), ("InvalidPoint", [some "given"], 0, [0]), ("InvalidForm", [some "given"], 0, [0]), ("InvalidRank", [some "given"], 0, [0]), ("InvalidWish", [some "given"], 0, [0]), ("NotProgram", [some "given"], 0, [0]), ("InvalidNames", [some "index"], 0, [0]), ("InvalidSayings", [some "index"], 0, [0]), ("InvalidBranches", [some "index"], 0, [0]), ("InvalidForms", [some "index"], 0, [0]), ("InvalidRanks", [some "index"], 0, [0]), ("InvalidWalk", [some "index"], 0, [0]), ("InvalidChanges", [some "index"], 0, [0]), ("InvalidWishes", [some "index"], 0, [0]), ("UnknownName", [some "given"], 0, [0]), ("InUse", [some "index"], 0, [0]), ("Stuck", [some "index"], 0, [0]), ("NoRow", [some "given"], 0, [0]), ("TooMany", [some "given"], 0, [0]), ("Broken", [some "index"], 0, [0])]
  its := ["range", "enumerate"]
  blt := [("isinstance", .isi), ("len", .len), ("all", .all), ("any", .any), ("tuple", .tup), ("str", .str), ("int", .int), ("abs", .abs), ("max", .max), ("min", .min), ("repr", .repr), ("bool", .bool), ("divmod", .divmod)]
  mth := [("join", .join), ("split", .split)]
  mcl := []
  mkw := []
  att := [("given", "given"), ("index", "index")]
  err := []
  exs := [Str.ofString "WrongValue", Str.ofString "InvalidText", Str.ofString "InvalidName", Str.ofString "InvalidIndex", Str.ofString "InvalidPlace", Str.ofString "InvalidPoint", Str.ofString "InvalidForm", Str.ofString "InvalidRank", Str.ofString "InvalidWish", Str.ofString "NotProgram", Str.ofString "InvalidNames", Str.ofString "InvalidSayings", Str.ofString "InvalidBranches", Str.ofString "InvalidForms", Str.ofString "InvalidRanks", Str.ofString "InvalidWalk", Str.ofString "InvalidChanges", Str.ofString "InvalidWishes", Str.ofString "WrongName", Str.ofString "UnknownName", Str.ofString "InUse", Str.ofString "NotPossible", Str.ofString "NoRow", Str.ofString "TooMany", Str.ofString "Stuck", Str.ofString "NothingToUndo", Str.ofString "Broken", Str.ofString "ValueError", Str.ofString "LookupError", Str.ofString "ArithmeticError"]
def e__law_begun : Fe := ⟨dfT "_law_begun" (top 38), "_law_begun", ["_law_script", "_law_turn"], ["_law_script", "_law_turn", "_law_own", "_law_state", "_law_cell"], [], lh_begun⟩
theorem c__law_begun : FeC gL.noA e__law_begun := ⟨⟨rfl, rfl, rfl, by decide +kernel, rfl, by decide +kernel, by decide +kernel⟩, by kernel_rfl, by kernel_rfl, by decide +kernel⟩
def e__law_cast : Fe := ⟨dfT "_law_cast" (top 39), "_law_cast", ["_law_pail", "_law_many"], ["_law_pail", "_law_many", "_law_figure", "_law_state"], ["_law_pail"], lh_cast⟩
theorem c__law_cast : FeC gL.noA e__law_cast := ⟨⟨rfl, rfl, rfl, by decide +kernel, rfl, by decide +kernel, by decide +kernel⟩, by kernel_rfl, by kernel_rfl, by decide +kernel⟩
def e__law_any_of : Fe := ⟨dfT "_law_any_of" (top 40), "_law_any_of", ["_law_pail", "_law_some"], ["_law_pail", "_law_some"], [], lh_any_of⟩
theorem c__law_any_of : FeC gL.noA e__law_any_of := ⟨⟨rfl, rfl, rfl, by decide +kernel, rfl, by decide +kernel, by decide +kernel⟩, by kernel_rfl, by kernel_rfl, by decide +kernel⟩
def e__law_thing : Fe := ⟨dfT "_law_thing" (top 41), "_law_thing", ["_law_pail"], ["_law_pail", "_law_menu"], [], lh_thing⟩
theorem c__law_thing : FeC gL.noA e__law_thing := ⟨⟨rfl, rfl, rfl, by decide +kernel, rfl, by decide +kernel, by decide +kernel⟩, by kernel_rfl, by kernel_rfl, by decide +kernel⟩
def e__law_placed : Fe := ⟨dfT "_law_placed" (top 42), "_law_placed", ["_law_thing_here"], ["_law_thing_here", "_law_found"], [], k01_placed⟩
theorem c__law_placed : FeC gL.noA e__law_placed := ⟨⟨rfl, rfl, rfl, by decide +kernel, rfl, by decide +kernel, by decide +kernel⟩, by kernel_rfl, by kernel_rfl, by decide +kernel⟩
def e__law_named : Fe := ⟨dfT "_law_named" (top 43), "_law_named", ["_law_thing_here"], ["_law_thing_here", "_law_found"], [], k01_named⟩
theorem c__law_named : FeC gL.noA e__law_named := ⟨⟨rfl, rfl, rfl, by decide +kernel, rfl, by decide +kernel, by decide +kernel⟩, by kernel_rfl, by kernel_rfl, by decide +kernel⟩
def e__law_flags : Fe := ⟨dfT "_law_flags" (top 44), "_law_flags", ["_law_e"], ["_law_e", "_law_found"], [], k01_flags⟩
theorem c__law_flags : FeC gL.noA e__law_flags := ⟨⟨rfl, rfl, rfl, by decide +kernel, rfl, by decide +kernel, by decide +kernel⟩, by kernel_rfl, by kernel_rfl, by decide +kernel⟩
def e__law_bases : Fe := ⟨dfT "_law_bases" (top 45), "_law_bases", ["_law_e"], ["_law_e", "_law_found"], [], k01_bases⟩
theorem c__law_bases : FeC gL.noA e__law_bases := ⟨⟨rfl, rfl, rfl, by decide +kernel, rfl, by decide +kernel, by decide +kernel⟩, by kernel_rfl, by kernel_rfl, by decide +kernel⟩
def e__law_held : Fe := ⟨dfT "_law_held" (top 46), "_law_held", ["_law_e", "_law_at"], ["_law_e", "_law_at"], [], k01_held⟩
theorem c__law_held : FeC gL.noA e__law_held := ⟨⟨rfl, rfl, rfl, by decide +kernel, rfl, by decide +kernel, by decide +kernel⟩, by kernel_rfl, by kernel_rfl, by decide +kernel⟩
def e__law_some_right : Fe := ⟨dfT "_law_some_right" (top 47), "_law_some_right", ["_law_some", "_law_thing_here"], ["_law_some", "_law_thing_here", "_law_at", "_law_base", "_law_k"], [], k01_some_right⟩
theorem c__law_some_right : FeC gL.noA e__law_some_right := ⟨⟨rfl, rfl, rfl, by decide +kernel, rfl, by decide +kernel, by decide +kernel⟩, by kernel_rfl, by kernel_rfl, by decide +kernel⟩
def e__law_right : Fe := ⟨dfT "_law_right" (top 48), "_law_right", ["_law_pail"], ["_law_pail", "_law_turn", "_law_thing_here", "_law_told", "_law_e"], [], k01_right⟩
theorem c__law_right : FeC gL.noA e__law_right := ⟨⟨rfl, rfl, rfl, by decide +kernel, rfl, by decide +kernel, by decide +kernel⟩, by kernel_rfl, by kernel_rfl, by decide +kernel⟩
def e_law : Fe := ⟨dfT "law" (top 49), "law", ["_law_script"], ["_law_script", "_law_some", "_law_turn"], [], k01_law⟩
theorem c_law : FeC gL.noA e_law := ⟨⟨rfl, rfl, rfl, by decide +kernel, rfl, by decide +kernel, by decide +kernel⟩, by kernel_rfl, by kernel_rfl, by decide +kernel⟩
def d_InvalidText : Df := dfM (mG "InvalidText" "__init__") "__init__" "InvalidText.__init__" (meth 2 0)
def d_InvalidName : Df := dfM (mG "InvalidName" "__init__") "__init__" "InvalidName.__init__" (meth 3 0)
def d_InvalidIndex : Df := dfM (mG "InvalidIndex" "__init__") "__init__" "InvalidIndex.__init__" (meth 4 0)
def d_InvalidPlace : Df := dfM (mG "InvalidPlace" "__init__") "__init__" "InvalidPlace.__init__" (meth 5 0)
def d_InvalidPoint : Df := dfM (mG "InvalidPoint" "__init__") "__init__" "InvalidPoint.__init__" (meth 6 0)
def d_InvalidForm : Df := dfM (mG "InvalidForm" "__init__") "__init__" "InvalidForm.__init__" (meth 7 0)
def d_InvalidRank : Df := dfM (mG "InvalidRank" "__init__") "__init__" "InvalidRank.__init__" (meth 8 0)
def d_InvalidWish : Df := dfM (mG "InvalidWish" "__init__") "__init__" "InvalidWish.__init__" (meth 9 0)
def d_NotProgram : Df := dfM (mG "NotProgram" "__init__") "__init__" "NotProgram.__init__" (meth 10 0)
def d_InvalidNames : Df := dfM (mG "InvalidNames" "__init__") "__init__" "InvalidNames.__init__" (meth 11 0)
def d_InvalidSayings : Df := dfM (mG "InvalidSayings" "__init__") "__init__" "InvalidSayings.__init__" (meth 12 0)
def d_InvalidBranches : Df := dfM (mG "InvalidBranches" "__init__") "__init__" "InvalidBranches.__init__" (meth 13 0)
def d_InvalidForms : Df := dfM (mG "InvalidForms" "__init__") "__init__" "InvalidForms.__init__" (meth 14 0)
def d_InvalidRanks : Df := dfM (mG "InvalidRanks" "__init__") "__init__" "InvalidRanks.__init__" (meth 15 0)
def d_InvalidWalk : Df := dfM (mG "InvalidWalk" "__init__") "__init__" "InvalidWalk.__init__" (meth 16 0)
def d_InvalidChanges : Df := dfM (mG "InvalidChanges" "__init__") "__init__" "InvalidChanges.__init__" (meth 17 0)
def d_InvalidWishes : Df := dfM (mG "InvalidWishes" "__init__") "__init__" "InvalidWishes.__init__" (meth 18 0)
def d_UnknownName : Df := dfM (mG "UnknownName" "__init__") "__init__" "UnknownName.__init__" (meth 20 0)
def d_InUse : Df := dfM (mG "InUse" "__init__") "__init__" "InUse.__init__" (meth 21 0)
def d_NoRow : Df := dfM (mG "NoRow" "__init__") "__init__" "NoRow.__init__" (meth 23 0)
def d_TooMany : Df := dfM (mG "TooMany" "__init__") "__init__" "TooMany.__init__" (meth 24 0)
def d_Stuck : Df := dfM (mG "Stuck" "__init__") "__init__" "Stuck.__init__" (meth 25 0)
def d_Broken : Df := dfM (mG "Broken" "__init__") "__init__" "Broken.__init__" (meth 27 0)
def es : List Fe := []
def esL : List Fe := [e__law_any_of, e__law_thing, e__law_placed, e__law_named, e__law_flags, e__law_bases, e__law_held, e__law_some_right, e__law_right, e_law]
end K01
namespace K01
open PySem L2 PyProof.Rows En
def dfs : List Df := [e__law_any_of.d, e__law_thing.d, e__law_placed.d, e__law_named.d, e__law_flags.d, e__law_bases.d, e__law_held.d, e__law_some_right.d, e__law_right.d, e_law.d, e__law_begun.d, e__law_cast.d, d_InvalidText, d_InvalidName, d_InvalidIndex, d_InvalidPlace, d_InvalidPoint, d_InvalidForm, d_InvalidRank, d_InvalidWish, d_NotProgram, d_InvalidNames, d_InvalidSayings, d_InvalidBranches, d_InvalidForms, d_InvalidRanks, d_InvalidWalk, d_InvalidChanges, d_InvalidWishes, d_UnknownName, d_InUse, d_NoRow, d_TooMany, d_Stuck, d_Broken]
def tfs : List Df := []
def fas : List He.Fa := [.glo "_law_begun", .glo "_law_cast", .glo "_law_any_of", .glo "_law_thing", .glo "_law_placed", .glo "_law_named", .glo "_law_flags", .glo "_law_bases", .glo "_law_held", .glo "_law_some_right", .glo "_law_right", .glo "law", .glo "WrongValue", .glo "InvalidText", .glo "InvalidName", .glo "InvalidIndex", .glo "InvalidPlace", .glo "InvalidPoint", .glo "InvalidForm", .glo "InvalidRank", .glo "InvalidWish", .glo "NotProgram", .glo "InvalidNames", .glo "InvalidSayings", .glo "InvalidBranches", .glo "InvalidForms", .glo "InvalidRanks", .glo "InvalidWalk", .glo "InvalidChanges", .glo "InvalidWishes", .glo "WrongName", .glo "UnknownName", .glo "InUse", .glo "NotPossible", .glo "NoRow", .glo "TooMany", .glo "Stuck", .glo "NothingToUndo", .glo "Broken", .int "MOST_VARIABLES" 3, .int "MOST_PLACES" 3, .int "MOST_BRANCHES" 5, .int "MOST_TESTS" 3, .int "MOST_SAYINGS" 3, .int "MOST_NUMBER" 1000000, .int "MOST_STATES" 1000, .int "MOST_FORMS" 9, .int "MOST_CHANGES" 6, .free "isinstance", .free "len", .free "all", .free "any", .free "tuple", .free "str", .free "int", .free "abs", .free "max", .free "min", .free "repr", .free "bool", .free "divmod", .free "range", .free "enumerate", .free "ValueError", .free "LookupError", .free "ArithmeticError", .free "list", .free "dict"]
def errsE : List (Str × Str) := [("InvalidText", "given"), ("InvalidName", "given"), ("InvalidIndex", "given"), ("InvalidPlace", "given"), ("InvalidPoint", "given"), ("InvalidForm", "given"), ("InvalidRank", "given"), ("InvalidWish", "given"), ("NotProgram", "given"), ("InvalidNames", "index"), ("InvalidSayings", "index"), ("InvalidBranches", "index"), ("InvalidForms", "index"), ("InvalidRanks", "index"), ("InvalidWalk", "index"), ("InvalidChanges", "index"), ("InvalidWishes", "index"), ("UnknownName", "given"), ("InUse", "index"), ("NoRow", "given"), ("TooMany", "given"), ("Stuck", "index"), ("Broken", "index")]
def tgs : List (Str × Bool) := [("WrongValue", true), ("InvalidText", true), ("InvalidName", true), ("InvalidIndex", true), ("InvalidPlace", true), ("InvalidPoint", true), ("InvalidForm", true), ("InvalidRank", true), ("InvalidWish", true), ("NotProgram", true), ("InvalidNames", true), ("InvalidSayings", true), ("InvalidBranches", true), ("InvalidForms", true), ("InvalidRanks", true), ("InvalidWalk", true), ("InvalidChanges", true), ("InvalidWishes", true), ("WrongName", true), ("UnknownName", true), ("InUse", true), ("NotPossible", true), ("NoRow", true), ("TooMany", true), ("Stuck", true), ("NothingToUndo", true), ("Broken", true), ("ValueError", false), ("LookupError", false), ("ArithmeticError", false)]
def e0s : List (Str × Bas) := [("WrongValue", .ve), ("WrongName", .le), ("NotPossible", .ae), ("NothingToUndo", .ae)]
def e0B (K : PySem.W.Frag) : Bool := e0s.all fun x => PySem.W.excIn K (He.ga K x.1) x.2.tl x.2.new && PySem.W.keepIn K (.ref (He.ga K x.1))
def ex (K : PySem.W.Frag) : Bool := (fas.all fun f => f.ok K) && ((errsE.all fun e => errB K e.1 e.2) && (isB ec01 tgs K && (fdB ec01 K && e0B K)))
end K01
namespace K01
open PySem L2 PyProof.Rows En
abbrev LQ : Bool := false
theorem am {α : Type} {p : α → Prop} {a : α} {l : List α} (h : p a) (hs : ∀ x ∈ l, p x) : ∀ x ∈ a :: l, p x := List.forall_mem_cons.mpr ⟨h, hs⟩
theorem an {α : Type} {p : α → Prop} : ∀ x ∈ ([] : List α), p x := fun _ h => nomatch h
theorem fm (i : Nat) {f : He.Fa} (h : fas[i]? = some f) : f ∈ fas := List.mem_of_getElem? h
theorem dm (i : Nat) {f : Df} (h : dfs[i]? = some f) : f ∈ dfs := List.mem_of_getElem? h
theorem lm (i : Nat) {f : Fe} (h : esL[i]? = some f) : f ∈ esL := List.mem_of_getElem? h
abbrev cf (K : PySem.W.Frag) : Cfg := cfg0 (tblOf tfs K) K
structure Hd (K : PySem.W.Frag) (h : Heap) (mg : Str → Option Value) : Prop where
  X : K.In h
  N : h.Ns mainGlobals mg
  c : SaysL ex dfs tfs h K
section
variable {P : Program} {w : World} {K : PySem.W.Frag} {h base : Heap} {mg : Str → Option Value} (H : Hd K h mg)
include H
theorem Hd.fa {f : He.Fa} (hf : f ∈ fas) : f.ok K = true := List.all_eq_true.mp (He.ba H.c.n.more).1 f hf
theorem Hd.glo {x : Str} (hf : (He.Fa.glo x).ok K = true) : mg x = some (.ref (He.ga K x)) := He.glo_ok H.X H.N hf
theorem Hd.free {x : Str} (hf : (He.Fa.free x).ok K = true) : mg x = none := He.free_ok H.X H.N hf
theorem Hd.erB : (errsE.all fun e => errB K e.1 e.2) = true := (He.ba (He.ba H.c.n.more).2).1
theorem Hd.isB : isB ec01 tgs K = true := (He.ba (He.ba (He.ba H.c.n.more).2).2).1
theorem Hd.fdB : fdB ec01 K = true := (He.ba (He.ba (He.ba (He.ba H.c.n.more).2).2).2).1
theorem Hd.e0 (i : Nat) {x : Str × Bas} (h : e0s[i]? = some x) : PySem.W.excIn K (He.ga K x.1) x.2.tl x.2.new = true ∧ PySem.W.keepIn K (.ref (He.ga K x.1)) = true := He.ba (List.all_eq_true.mp (He.ba (He.ba (He.ba (He.ba H.c.n.more).2).2).2).2 x (List.mem_of_getElem? h))
theorem Hd.er (i : Nat) {x : Str × Str} (h : errsE[i]? = some x) : ErrC K x.1 x.2 := errB_ok (List.all_eq_true.mp H.erB x (List.mem_of_getElem? h))
theorem Hd.ctP : Ct ⟨P, w, mg, base, false, false⟩ (cf K) sub0 gP := ct_of0 (p := ⟨P, w, mg, base, false, false⟩) (K := K) (g := gP) own0 (am ⟨H.free (H.fa (fm 54 rfl)), rfl⟩ (am ⟨H.free (H.fa (fm 59 rfl)), rfl⟩ (am ⟨H.free (H.fa (fm 53 rfl)), rfl⟩ (am ⟨H.free (H.fa (fm 52 rfl)), rfl⟩ (am ⟨H.free (H.fa (fm 66 rfl)), rfl⟩ (am ⟨H.free (H.fa (fm 67 rfl)), rfl⟩ (am (He.int_ok H.X H.N (H.fa (fm 39 rfl))) (am (He.int_ok H.X H.N (H.fa (fm 40 rfl))) (am (He.int_ok H.X H.N (H.fa (fm 41 rfl))) (am (He.int_ok H.X H.N (H.fa (fm 42 rfl))) (am (He.int_ok H.X H.N (H.fa (fm 43 rfl))) (am (He.int_ok H.X H.N (H.fa (fm 44 rfl))) (am (He.int_ok H.X H.N (H.fa (fm 45 rfl))) (am (He.int_ok H.X H.N (H.fa (fm 46 rfl))) (am (He.int_ok H.X H.N (H.fa (fm 47 rfl))) an))))))))))))))) (am (H.free (H.fa (fm 61 rfl))) (am (H.free (H.fa (fm 62 rfl))) an)) (am ⟨⟨_, rfl, rfl, H.free (H.fa (fm 48 rfl))⟩, fun z => nomatch z⟩ (am ⟨⟨_, rfl, rfl, H.free (H.fa (fm 49 rfl))⟩, fun z => nomatch z⟩ (am ⟨⟨_, rfl, rfl, H.free (H.fa (fm 50 rfl))⟩, fun z => nomatch z⟩ (am ⟨⟨_, rfl, rfl, H.free (H.fa (fm 51 rfl))⟩, fun z => nomatch z⟩ (am ⟨⟨_, rfl, rfl, H.free (H.fa (fm 52 rfl))⟩, fun z => nomatch z⟩ (am ⟨⟨_, rfl, rfl, H.free (H.fa (fm 53 rfl))⟩, fun z => nomatch z⟩ (am ⟨⟨_, rfl, rfl, H.free (H.fa (fm 54 rfl))⟩, fun z => nomatch z⟩ (am ⟨⟨_, rfl, rfl, H.free (H.fa (fm 55 rfl))⟩, fun z => nomatch z⟩ an)))))))) (am ⟨rfl, by decide⟩ (am ⟨rfl, by decide⟩ an))
theorem Hd.ctL : Ct ⟨P, w, mg, base, true, LQ⟩ (cf K) sub0 gL := ct_of0 (p := ⟨P, w, mg, base, true, LQ⟩) (K := K) (g := gL) own0 (am ⟨H.free (H.fa (fm 54 rfl)), rfl⟩ (am ⟨H.free (H.fa (fm 59 rfl)), rfl⟩ (am ⟨H.free (H.fa (fm 53 rfl)), rfl⟩ (am ⟨H.free (H.fa (fm 52 rfl)), rfl⟩ (am ⟨H.free (H.fa (fm 66 rfl)), rfl⟩ (am ⟨H.free (H.fa (fm 67 rfl)), rfl⟩ (am (He.int_ok H.X H.N (H.fa (fm 39 rfl))) (am (He.int_ok H.X H.N (H.fa (fm 40 rfl))) (am (He.int_ok H.X H.N (H.fa (fm 41 rfl))) (am (He.int_ok H.X H.N (H.fa (fm 42 rfl))) (am (He.int_ok H.X H.N (H.fa (fm 43 rfl))) (am (He.int_ok H.X H.N (H.fa (fm 44 rfl))) (am (He.int_ok H.X H.N (H.fa (fm 45 rfl))) (am (He.int_ok H.X H.N (H.fa (fm 46 rfl))) (am (He.int_ok H.X H.N (H.fa (fm 47 rfl))) an))))))))))))))) (am (H.free (H.fa (fm 61 rfl))) (am (H.free (H.fa (fm 62 rfl))) an)) (am ⟨⟨_, rfl, rfl, H.free (H.fa (fm 48 rfl))⟩, fun z => nomatch z⟩ (am ⟨⟨_, rfl, rfl, H.free (H.fa (fm 49 rfl))⟩, fun z => nomatch z⟩ (am ⟨⟨_, rfl, rfl, H.free (H.fa (fm 50 rfl))⟩, fun z => nomatch z⟩ (am ⟨⟨_, rfl, rfl, H.free (H.fa (fm 51 rfl))⟩, fun z => nomatch z⟩ (am ⟨⟨_, rfl, rfl, H.free (H.fa (fm 52 rfl))⟩, fun z => nomatch z⟩ (am ⟨⟨_, rfl, rfl, H.free (H.fa (fm 53 rfl))⟩, fun z => nomatch z⟩ (am ⟨⟨_, rfl, rfl, H.free (H.fa (fm 54 rfl))⟩, fun z => nomatch z⟩ (am ⟨⟨_, rfl, rfl, H.free (H.fa (fm 55 rfl))⟩, fun z => nomatch z⟩ (am ⟨⟨_, rfl, rfl, H.free (H.fa (fm 56 rfl))⟩, fun z => nomatch z⟩ (am ⟨⟨_, rfl, rfl, H.free (H.fa (fm 57 rfl))⟩, fun z => nomatch z⟩ (am ⟨⟨_, rfl, rfl, H.free (H.fa (fm 58 rfl))⟩, fun _ => rfl⟩ (am ⟨⟨_, rfl, rfl, H.free (H.fa (fm 59 rfl))⟩, fun z => nomatch z⟩ (am ⟨⟨_, rfl, rfl, H.free (H.fa (fm 60 rfl))⟩, fun z => nomatch z⟩ an))))))))))))) (am ⟨rfl, by decide⟩ (am ⟨rfl, by decide⟩ an))
end
def fs : List (Str × Fn) := (es ++ esL).map fun e => (e.nm, e.fn)
def l2 : List (Str × Prim) := [(Str.ofString "InvalidText", pE1 "InvalidText" "given"), (Str.ofString "InvalidName", pE1 "InvalidName" "given"), (Str.ofString "InvalidIndex", pE1 "InvalidIndex" "given"), (Str.ofString "InvalidPlace", pE1 "InvalidPlace" "given"), (Str.ofString "InvalidPoint", pE1 "InvalidPoint" "given"), (Str.ofString "InvalidForm", pE1 "InvalidForm" "given"), (Str.ofString "InvalidRank", pE1 "InvalidRank" "given"), (Str.ofString "InvalidWish", pE1 "InvalidWish" "given"), (Str.ofString "NotProgram", pE1 "NotProgram" "given"), (Str.ofString "InvalidNames", pE1 "InvalidNames" "index"), (Str.ofString "InvalidSayings", pE1 "InvalidSayings" "index"), (Str.ofString "InvalidBranches", pE1 "InvalidBranches" "index"), (Str.ofString "InvalidForms", pE1 "InvalidForms" "index"), (Str.ofString "InvalidRanks", pE1 "InvalidRanks" "index"), (Str.ofString "InvalidWalk", pE1 "InvalidWalk" "index"), (Str.ofString "InvalidChanges", pE1 "InvalidChanges" "index"), (Str.ofString "InvalidWishes", pE1 "InvalidWishes" "index"), (Str.ofString "UnknownName", pE1 "UnknownName" "given"), (Str.ofString "InUse", pE1 "InUse" "index"), (Str.ofString "NoRow", pE1 "NoRow" "given"), (Str.ofString "TooMany", pE1 "TooMany" "given"), (Str.ofString "Stuck", pE1 "Stuck" "index"), (Str.ofString "Broken", pE1 "Broken" "index"), (Str.ofString "WrongValue", pE0 "WrongValue"), (Str.ofString "WrongName", pE0 "WrongName"), (Str.ofString "NotPossible", pE0 "NotPossible"), (Str.ofString "NothingToUndo", pE0 "NothingToUndo"), (isErN "WrongValue", pIs ec01 "WrongValue"), (isErN "InvalidText", pIs ec01 "InvalidText"), (isErN "InvalidName", pIs ec01 "InvalidName"), (isErN "InvalidIndex", pIs ec01 "InvalidIndex"), (isErN "InvalidPlace", pIs ec01 "InvalidPlace"), (isErN "InvalidPoint", pIs ec01 "InvalidPoint"), (isErN "InvalidForm", pIs ec01 "InvalidForm"), (isErN "InvalidRank", pIs ec01 "InvalidRank"), (isErN "InvalidWish", pIs ec01 "InvalidWish"), (isErN "NotProgram", pIs ec01 "NotProgram"), (isErN "InvalidNames", pIs ec01 "InvalidNames"), (isErN "InvalidSayings", pIs ec01 "InvalidSayings"), (isErN "InvalidBranches", pIs ec01 "InvalidBranches"), (isErN "InvalidForms", pIs ec01 "InvalidForms"), (isErN "InvalidRanks", pIs ec01 "InvalidRanks"), (isErN "InvalidWalk", pIs ec01 "InvalidWalk"), (isErN "InvalidChanges", pIs ec01 "InvalidChanges"), (isErN "InvalidWishes", pIs ec01 "InvalidWishes"), (isErN "WrongName", pIs ec01 "WrongName"), (isErN "UnknownName", pIs ec01 "UnknownName"), (isErN "InUse", pIs ec01 "InUse"), (isErN "NotPossible", pIs ec01 "NotPossible"), (isErN "NoRow", pIs ec01 "NoRow"), (isErN "TooMany", pIs ec01 "TooMany"), (isErN "Stuck", pIs ec01 "Stuck"), (isErN "NothingToUndo", pIs ec01 "NothingToUndo"), (isErN "Broken", pIs ec01 "Broken"), (isErN "ValueError", pIs ec01 "ValueError"), (isErN "LookupError", pIs ec01 "LookupError"), (isErN "ArithmeticError", pIs ec01 "ArithmeticError"), (Str.ofString "given", pFd ec01 "given"), (Str.ofString "index", pFd ec01 "index")]
def l : List (Str × Prim) := prm0 ++ [(Str.ofString "_law_begun", pBeg false), (Str.ofString "_law_cast", pCst false)] ++ l2
theorem fs_ok : ∀ e ∈ es ++ esL, fs.lookup e.nm = some e.fn := lookup_fe (by decide +kernel)
theorem fsP {e : Fe} (h : e ∈ es) : fs.lookup e.nm = some e.fn := fs_ok e (List.mem_append_left _ h)
theorem fsL {e : Fe} (h : e ∈ esL) : fs.lookup e.nm = some e.fn := fs_ok e (List.mem_append_right _ h)
theorem l_ok : ∀ e ∈ l, l.lookup e.1 = some e.2 := lookup_nodup (by decide +kernel)
theorem no_all : (nonm.all fun f => (fs.lookup f).isNone && (l.lookup f).isNone) = true := by kernel_rfl
theorem no_ok : ∀ f ∈ nonm, fs.lookup f = none ∧ l.lookup f = none := fun f hf => by
  have h := He.ba (List.all_eq_true.mp no_all f hf)
  exact ⟨Option.isNone_iff_eq_none.mp h.1, Option.isNone_iff_eq_none.mp h.2⟩
theorem l_mono : ∀ e ∈ l, PMono e.2 := by
  intro e he
  rcases List.mem_append.mp he with z | z
  · rcases List.mem_append.mp z with z | z
    · exact prm0_mono e z
    · exact (am (p := fun e : Str × Prim => PMono e.2) (pBeg_mono false) (am (pCst_mono false) an)) e z
  · exact ((am (pE1_mono _ _) (am (pE1_mono _ _) (am (pE1_mono _ _) (am (pE1_mono _ _) (am (pE1_mono _ _) (am (pE1_mono _ _) (am (pE1_mono _ _) (am (pE1_mono _ _) (am (pE1_mono _ _) (am (pE1_mono _ _) (am (pE1_mono _ _) (am (pE1_mono _ _) (am (pE1_mono _ _) (am (pE1_mono _ _) (am (pE1_mono _ _) (am (pE1_mono _ _) (am (pE1_mono _ _) (am (pE1_mono _ _) (am (pE1_mono _ _) (am (pE1_mono _ _) (am (pE1_mono _ _) (am (pE1_mono _ _) (am (pE1_mono _ _) (am (pE0_mono _) (am (pE0_mono _) (am (pE0_mono _) (am (pE0_mono _) (am (pIs_mono _ _) (am (pIs_mono _ _) (am (pIs_mono _ _) (am (pIs_mono _ _) (am (pIs_mono _ _) (am (pIs_mono _ _) (am (pIs_mono _ _) (am (pIs_mono _ _) (am (pIs_mono _ _) (am (pIs_mono _ _) (am (pIs_mono _ _) (am (pIs_mono _ _) (am (pIs_mono _ _) (am (pIs_mono _ _) (am (pIs_mono _ _) (am (pIs_mono _ _) (am (pIs_mono _ _) (am (pIs_mono _ _) (am (pIs_mono _ _) (am (pIs_mono _ _) (am (pIs_mono _ _) (am (pIs_mono _ _) (am (pIs_mono _ _) (am (pIs_mono _ _) (am (pIs_mono _ _) (am (pIs_mono _ _) (am (pIs_mono _ _) (am (pIs_mono _ _) (am (pIs_mono _ _) (am (pIs_mono _ _) (am (pFd_mono _ _) (am (pFd_mono _ _) an))))))))))))))))))))))))))))))))))))))))))))))))))))))))))) : ∀ e ∈ l2, PMono e.2) e z
theorem hmC (K : PySem.W.Frag) : ∀ k, MonoC (CW (cf K) fs l k) := fun k => callW_mono (libW_mono sub0) (fun C hC => primOf_mono l_mono C hC) k
theorem lB : l.lookup ("_law_begun" : Str) = some (pBeg false) := l_ok (Str.ofString "_law_begun", pBeg false) (List.mem_append_left _ (List.mem_append_right _ (List.mem_cons_self ..)))
theorem lC : l.lookup ("_law_cast" : Str) = some (pCst false) := l_ok (Str.ofString "_law_cast", pCst false) (List.mem_append_left _ (List.mem_append_right _ (List.mem_cons_of_mem _ (List.mem_cons_self ..))))
theorem noB : fs.lookup ("_law_begun" : Str) = none := by kernel_rfl
theorem noC : fs.lookup ("_law_cast" : Str) = none := by kernel_rfl
theorem l2_ok : ∀ e ∈ l2, l.lookup e.1 = some e.2 := fun e he => l_ok e (List.mem_append_right _ he)
theorem l2_no : ∀ e ∈ l2, fs.lookup e.1 = none := fun e he => Option.isNone_iff_eq_none.mp (List.all_eq_true.mp (show (l2.all fun e => (fs.lookup e.1).isNone) = true by kernel_rfl) e he)
theorem p0_no : ∀ e ∈ prm0, fs.lookup e.1 = none := fun e he => Option.isNone_iff_eq_none.mp (List.all_eq_true.mp (show (prm0.all fun e => (fs.lookup e.1).isNone) = true by kernel_rfl) e he)
section
variable {P : Program} {w : World} {K : PySem.W.Frag} {h base : Heap} {mg : Str → Option Value} {fd : Df → FuncData} (H : Hd K h mg) (hF : ∀ d ∈ dfs, d.FunD K (fd d))
include H hF
theorem Hd.c_InvalidText : ECls ⟨P, w, mg, base, false, false⟩ (cf K) "InvalidText" "given" := (⟨H.er 0 rfl, H.glo (H.fa (fm 13 rfl)), (show errFl "InvalidText" = [Str.ofString "given"] from by decide +kernel), ⟨d_InvalidText, fd d_InvalidText, "self", "given", ⟨7, 8, 7, 12⟩, ⟨7, 8, 7, 18⟩, ⟨7, 21, 7, 26⟩, ⟨7, 8, 7, 26⟩, hF _ (dm 12 rfl), rfl, by kernel_rfl, ⟨rfl, rfl, rfl, by decide +kernel, rfl, by decide +kernel, by decide +kernel⟩, Df.binds (hF _ (dm 12 rfl)) (by kernel_rfl) (by decide +kernel), by decide +kernel, by decide +kernel⟩⟩ : ECls _ (cf K) "InvalidText" "given")
theorem Hd.k_InvalidText : EKw ⟨P, w, mg, base, false, false⟩ (cf K) "InvalidText" "given" ["given"] := (⟨H.er 0 rfl, ⟨d_InvalidText, fd d_InvalidText, "self", "given", ⟨7, 8, 7, 12⟩, ⟨7, 8, 7, 18⟩, ⟨7, 21, 7, 26⟩, ⟨7, 8, 7, 26⟩, hF _ (dm 12 rfl), rfl, by kernel_rfl, ⟨rfl, rfl, rfl, by decide +kernel, rfl, by decide +kernel, by decide +kernel⟩, FunD.kb (hF _ (dm 12 rfl)) (fun _ _ _ _ _ _ first us ws h1 h2 h3 => match first, us, ws, h1, h2, h3 with | [_], [], [_], _, _, _ => rfl), by decide +kernel, by decide +kernel⟩⟩ : EKw _ (cf K) "InvalidText" "given" ["given"])
theorem Hd.c_InvalidName : ECls ⟨P, w, mg, base, false, false⟩ (cf K) "InvalidName" "given" := (⟨H.er 1 rfl, H.glo (H.fa (fm 14 rfl)), (show errFl "InvalidName" = [Str.ofString "given"] from by decide +kernel), ⟨d_InvalidName, fd d_InvalidName, "self", "given", ⟨11, 8, 11, 12⟩, ⟨11, 8, 11, 18⟩, ⟨11, 21, 11, 26⟩, ⟨11, 8, 11, 26⟩, hF _ (dm 13 rfl), rfl, by kernel_rfl, ⟨rfl, rfl, rfl, by decide +kernel, rfl, by decide +kernel, by decide +kernel⟩, Df.binds (hF _ (dm 13 rfl)) (by kernel_rfl) (by decide +kernel), by decide +kernel, by decide +kernel⟩⟩ : ECls _ (cf K) "InvalidName" "given")
theorem Hd.k_InvalidName : EKw ⟨P, w, mg, base, false, false⟩ (cf K) "InvalidName" "given" ["given"] := (⟨H.er 1 rfl, ⟨d_InvalidName, fd d_InvalidName, "self", "given", ⟨11, 8, 11, 12⟩, ⟨11, 8, 11, 18⟩, ⟨11, 21, 11, 26⟩, ⟨11, 8, 11, 26⟩, hF _ (dm 13 rfl), rfl, by kernel_rfl, ⟨rfl, rfl, rfl, by decide +kernel, rfl, by decide +kernel, by decide +kernel⟩, FunD.kb (hF _ (dm 13 rfl)) (fun _ _ _ _ _ _ first us ws h1 h2 h3 => match first, us, ws, h1, h2, h3 with | [_], [], [_], _, _, _ => rfl), by decide +kernel, by decide +kernel⟩⟩ : EKw _ (cf K) "InvalidName" "given" ["given"])
theorem Hd.c_InvalidIndex : ECls ⟨P, w, mg, base, false, false⟩ (cf K) "InvalidIndex" "given" := (⟨H.er 2 rfl, H.glo (H.fa (fm 15 rfl)), (show errFl "InvalidIndex" = [Str.ofString "given"] from by decide +kernel), ⟨d_InvalidIndex, fd d_InvalidIndex, "self", "given", ⟨15, 8, 15, 12⟩, ⟨15, 8, 15, 18⟩, ⟨15, 21, 15, 26⟩, ⟨15, 8, 15, 26⟩, hF _ (dm 14 rfl), rfl, by kernel_rfl, ⟨rfl, rfl, rfl, by decide +kernel, rfl, by decide +kernel, by decide +kernel⟩, Df.binds (hF _ (dm 14 rfl)) (by kernel_rfl) (by decide +kernel), by decide +kernel, by decide +kernel⟩⟩ : ECls _ (cf K) "InvalidIndex" "given")
theorem Hd.k_InvalidIndex : EKw ⟨P, w, mg, base, false, false⟩ (cf K) "InvalidIndex" "given" ["given"] := (⟨H.er 2 rfl, ⟨d_InvalidIndex, fd d_InvalidIndex, "self", "given", ⟨15, 8, 15, 12⟩, ⟨15, 8, 15, 18⟩, ⟨15, 21, 15, 26⟩, ⟨15, 8, 15, 26⟩, hF _ (dm 14 rfl), rfl, by kernel_rfl, ⟨rfl, rfl, rfl, by decide +kernel, rfl, by decide +kernel, by decide +kernel⟩, FunD.kb (hF _ (dm 14 rfl)) (fun _ _ _ _ _ _ first us ws h1 h2 h3 => match first, us, ws, h1, h2, h3 with | [_], [], [_], _, _, _ => rfl), by decide +kernel, by decide +kernel⟩⟩ : EKw _ (cf K) "InvalidIndex" "given" ["given"])
theorem Hd.c_InvalidPlace : ECls ⟨P, w, mg, base, false, false⟩ (cf K) "InvalidPlace" "given" := (⟨H.er 3 rfl, H.glo (H.fa (fm 16 rfl)), (show errFl "InvalidPlace" = [Str.ofString "given"] from by decide +kernel), ⟨d_InvalidPlace, fd d_InvalidPlace, "self", "given", ⟨19, 8, 19, 12⟩, ⟨19, 8, 19, 18⟩, ⟨19, 21, 19, 26⟩, ⟨19, 8, 19, 26⟩, hF _ (dm 15 rfl), rfl, by kernel_rfl, ⟨rfl, rfl, rfl, by decide +kernel, rfl, by decide +kernel, by decide +kernel⟩, Df.binds (hF _ (dm 15 rfl)) (by kernel_rfl) (by decide +kernel), by decide +kernel, by decide +kernel⟩⟩ : ECls _ (cf K) "InvalidPlace" "given")
theorem Hd.k_InvalidPlace : EKw ⟨P, w, mg, base, false, false⟩ (cf K) "InvalidPlace" "given" ["given"] := (⟨H.er 3 rfl, ⟨d_InvalidPlace, fd d_InvalidPlace, "self", "given", ⟨19, 8, 19, 12⟩, ⟨19, 8, 19, 18⟩, ⟨19, 21, 19, 26⟩, ⟨19, 8, 19, 26⟩, hF _ (dm 15 rfl), rfl, by kernel_rfl, ⟨rfl, rfl, rfl, by decide +kernel, rfl, by decide +kernel, by decide +kernel⟩, FunD.kb (hF _ (dm 15 rfl)) (fun _ _ _ _ _ _ first us ws h1 h2 h3 => match first, us, ws, h1, h2, h3 with | [_], [], [_], _, _, _ => rfl), by decide +kernel, by decide +kernel⟩⟩ : EKw _ (cf K) "InvalidPlace" "given" ["given"])
theorem Hd.c_InvalidPoint : ECls ⟨P, w, mg, base, false, false⟩ (cf K) "InvalidPoint" "given" := (⟨H.er 4 rfl, H.glo (H.fa (fm 17 rfl)), (show errFl "InvalidPoint" = [Str.ofString "given"] from by decide +kernel), ⟨d_InvalidPoint, fd d_InvalidPoint, "self", "given", ⟨23, 8, 23, 12⟩, ⟨23, 8, 23, 18⟩, ⟨23, 21, 23, 26⟩, ⟨23, 8, 23, 26⟩, hF _ (dm 16 rfl), rfl, by kernel_rfl, ⟨rfl, rfl, rfl, by decide +kernel, rfl, by decide +kernel, by decide +kernel⟩, Df.binds (hF _ (dm 16 rfl)) (by kernel_rfl) (by decide +kernel), by decide +kernel, by decide +kernel⟩⟩ : ECls _ (cf K) "InvalidPoint" "given")
theorem Hd.k_InvalidPoint : EKw ⟨P, w, mg, base, false, false⟩ (cf K) "InvalidPoint" "given" ["given"] := (⟨H.er 4 rfl, ⟨d_InvalidPoint, fd d_InvalidPoint, "self", "given", ⟨23, 8, 23, 12⟩, ⟨23, 8, 23, 18⟩, ⟨23, 21, 23, 26⟩, ⟨23, 8, 23, 26⟩, hF _ (dm 16 rfl), rfl, by kernel_rfl, ⟨rfl, rfl, rfl, by decide +kernel, rfl, by decide +kernel, by decide +kernel⟩, FunD.kb (hF _ (dm 16 rfl)) (fun _ _ _ _ _ _ first us ws h1 h2 h3 => match first, us, ws, h1, h2, h3 with | [_], [], [_], _, _, _ => rfl), by decide +kernel, by decide +kernel⟩⟩ : EKw _ (cf K) "InvalidPoint" "given" ["given"])
theorem Hd.c_InvalidForm : ECls ⟨P, w, mg, base, false, false⟩ (cf K) "InvalidForm" "given" := (⟨H.er 5 rfl, H.glo (H.fa (fm 18 rfl)), (show errFl "InvalidForm" = [Str.ofString "given"] from by decide +kernel), ⟨d_InvalidForm, fd d_InvalidForm, "self", "given", ⟨27, 8, 27, 12⟩, ⟨27, 8, 27, 18⟩, ⟨27, 21, 27, 26⟩, ⟨27, 8, 27, 26⟩, hF _ (dm 17 rfl), rfl, by kernel_rfl, ⟨rfl, rfl, rfl, by decide +kernel, rfl, by decide +kernel, by decide +kernel⟩, Df.binds (hF _ (dm 17 rfl)) (by kernel_rfl) (by decide +kernel), by decide +kernel, by decide +kernel⟩⟩ : ECls _ (cf K) "InvalidForm" "given")
theorem Hd.k_InvalidForm : EKw ⟨P, w, mg, base, false, false⟩ (cf K) "InvalidForm" "given" ["given"] := (⟨H.er 5 rfl, ⟨d_InvalidForm, fd d_InvalidForm, "self", "given", ⟨27, 8, 27, 12⟩, ⟨27, 8, 27, 18⟩, ⟨27, 21, 27, 26⟩, ⟨27, 8, 27, 26⟩, hF _ (dm 17 rfl), rfl, by kernel_rfl, ⟨rfl, rfl, rfl, by decide +kernel, rfl, by decide +kernel, by decide +kernel⟩, FunD.kb (hF _ (dm 17 rfl)) (fun _ _ _ _ _ _ first us ws h1 h2 h3 => match first, us, ws, h1, h2, h3 with | [_], [], [_], _, _, _ => rfl), by decide +kernel, by decide +kernel⟩⟩ : EKw _ (cf K) "InvalidForm" "given" ["given"])
theorem Hd.c_InvalidRank : ECls ⟨P, w, mg, base, false, false⟩ (cf K) "InvalidRank" "given" := (⟨H.er 6 rfl, H.glo (H.fa (fm 19 rfl)), (show errFl "InvalidRank" = [Str.ofString "given"] from by decide +kernel), ⟨d_InvalidRank, fd d_InvalidRank, "self", "given", ⟨31, 8, 31, 12⟩, ⟨31, 8, 31, 18⟩, ⟨31, 21, 31, 26⟩, ⟨31, 8, 31, 26⟩, hF _ (dm 18 rfl), rfl, by kernel_rfl, ⟨rfl, rfl, rfl, by decide +kernel, rfl, by decide +kernel, by decide +kernel⟩, Df.binds (hF _ (dm 18 rfl)) (by kernel_rfl) (by decide +kernel), by decide +kernel, by decide +kernel⟩⟩ : ECls _ (cf K) "InvalidRank" "given")
theorem Hd.k_InvalidRank : EKw ⟨P, w, mg, base, false, false⟩ (cf K) "InvalidRank" "given" ["given"] := (⟨H.er 6 rfl, ⟨d_InvalidRank, fd d_InvalidRank, "self", "given", ⟨31, 8, 31, 12⟩, ⟨31, 8, 31, 18⟩, ⟨31, 21, 31, 26⟩, ⟨31, 8, 31, 26⟩, hF _ (dm 18 rfl), rfl, by kernel_rfl, ⟨rfl, rfl, rfl, by decide +kernel, rfl, by decide +kernel, by decide +kernel⟩, FunD.kb (hF _ (dm 18 rfl)) (fun _ _ _ _ _ _ first us ws h1 h2 h3 => match first, us, ws, h1, h2, h3 with | [_], [], [_], _, _, _ => rfl), by decide +kernel, by decide +kernel⟩⟩ : EKw _ (cf K) "InvalidRank" "given" ["given"])
theorem Hd.c_InvalidWish : ECls ⟨P, w, mg, base, false, false⟩ (cf K) "InvalidWish" "given" := (⟨H.er 7 rfl, H.glo (H.fa (fm 20 rfl)), (show errFl "InvalidWish" = [Str.ofString "given"] from by decide +kernel), ⟨d_InvalidWish, fd d_InvalidWish, "self", "given", ⟨35, 8, 35, 12⟩, ⟨35, 8, 35, 18⟩, ⟨35, 21, 35, 26⟩, ⟨35, 8, 35, 26⟩, hF _ (dm 19 rfl), rfl, by kernel_rfl, ⟨rfl, rfl, rfl, by decide +kernel, rfl, by decide +kernel, by decide +kernel⟩, Df.binds (hF _ (dm 19 rfl)) (by kernel_rfl) (by decide +kernel), by decide +kernel, by decide +kernel⟩⟩ : ECls _ (cf K) "InvalidWish" "given")
theorem Hd.k_InvalidWish : EKw ⟨P, w, mg, base, false, false⟩ (cf K) "InvalidWish" "given" ["given"] := (⟨H.er 7 rfl, ⟨d_InvalidWish, fd d_InvalidWish, "self", "given", ⟨35, 8, 35, 12⟩, ⟨35, 8, 35, 18⟩, ⟨35, 21, 35, 26⟩, ⟨35, 8, 35, 26⟩, hF _ (dm 19 rfl), rfl, by kernel_rfl, ⟨rfl, rfl, rfl, by decide +kernel, rfl, by decide +kernel, by decide +kernel⟩, FunD.kb (hF _ (dm 19 rfl)) (fun _ _ _ _ _ _ first us ws h1 h2 h3 => match first, us, ws, h1, h2, h3 with | [_], [], [_], _, _, _ => rfl), by decide +kernel, by decide +kernel⟩⟩ : EKw _ (cf K) "InvalidWish" "given" ["given"])
theorem Hd.c_NotProgram : ECls ⟨P, w, mg, base, false, false⟩ (cf K) "NotProgram" "given" := (⟨H.er 8 rfl, H.glo (H.fa (fm 21 rfl)), (show errFl "NotProgram" = [Str.ofString "given"] from by decide +kernel), ⟨d_NotProgram, fd d_NotProgram, "self", "given", ⟨39, 8, 39, 12⟩, ⟨39, 8, 39, 18⟩, ⟨39, 21, 39, 26⟩, ⟨39, 8, 39, 26⟩, hF _ (dm 20 rfl), rfl, by kernel_rfl, ⟨rfl, rfl, rfl, by decide +kernel, rfl, by decide +kernel, by decide +kernel⟩, Df.binds (hF _ (dm 20 rfl)) (by kernel_rfl) (by decide +kernel), by decide +kernel, by decide +kernel⟩⟩ : ECls _ (cf K) "NotProgram" "given")
theorem Hd.k_NotProgram : EKw ⟨P, w, mg, base, false, false⟩ (cf K) "NotProgram" "given" ["given"] := (⟨H.er 8 rfl, ⟨d_NotProgram, fd d_NotProgram, "self", "given", ⟨39, 8, 39, 12⟩, ⟨39, 8, 39, 18⟩, ⟨39, 21, 39, 26⟩, ⟨39, 8, 39, 26⟩, hF _ (dm 20 rfl), rfl, by kernel_rfl, ⟨rfl, rfl, rfl, by decide +kernel, rfl, by decide +kernel, by decide +kernel⟩, FunD.kb (hF _ (dm 20 rfl)) (fun _ _ _ _ _ _ first us ws h1 h2 h3 => match first, us, ws, h1, h2, h3 with | [_], [], [_], _, _, _ => rfl), by decide +kernel, by decide +kernel⟩⟩ : EKw _ (cf K) "NotProgram" "given" ["given"])
theorem Hd.c_InvalidNames : ECls ⟨P, w, mg, base, false, false⟩ (cf K) "InvalidNames" "index" := (⟨H.er 9 rfl, H.glo (H.fa (fm 22 rfl)), (show errFl "InvalidNames" = [Str.ofString "index"] from by decide +kernel), ⟨d_InvalidNames, fd d_InvalidNames, "self", "index", ⟨43, 8, 43, 12⟩, ⟨43, 8, 43, 18⟩, ⟨43, 21, 43, 26⟩, ⟨43, 8, 43, 26⟩, hF _ (dm 21 rfl), rfl, by kernel_rfl, ⟨rfl, rfl, rfl, by decide +kernel, rfl, by decide +kernel, by decide +kernel⟩, Df.binds (hF _ (dm 21 rfl)) (by kernel_rfl) (by decide +kernel), by decide +kernel, by decide +kernel⟩⟩ : ECls _ (cf K) "InvalidNames" "index")
theorem Hd.k_InvalidNames : EKw ⟨P, w, mg, base, false, false⟩ (cf K) "InvalidNames" "index" ["index"] := (⟨H.er 9 rfl, ⟨d_InvalidNames, fd d_InvalidNames, "self", "index", ⟨43, 8, 43, 12⟩, ⟨43, 8, 43, 18⟩, ⟨43, 21, 43, 26⟩, ⟨43, 8, 43, 26⟩, hF _ (dm 21 rfl), rfl, by kernel_rfl, ⟨rfl, rfl, rfl, by decide +kernel, rfl, by decide +kernel, by decide +kernel⟩, FunD.kb (hF _ (dm 21 rfl)) (fun _ _ _ _ _ _ first us ws h1 h2 h3 => match first, us, ws, h1, h2, h3 with | [_], [], [_], _, _, _ => rfl), by decide +kernel, by decide +kernel⟩⟩ : EKw _ (cf K) "InvalidNames" "index" ["index"])
theorem Hd.c_InvalidSayings : ECls ⟨P, w, mg, base, false, false⟩ (cf K) "InvalidSayings" "index" := (⟨H.er 10 rfl, H.glo (H.fa (fm 23 rfl)), (show errFl "InvalidSayings" = [Str.ofString "index"] from by decide +kernel), ⟨d_InvalidSayings, fd d_InvalidSayings, "self", "index", ⟨47, 8, 47, 12⟩, ⟨47, 8, 47, 18⟩, ⟨47, 21, 47, 26⟩, ⟨47, 8, 47, 26⟩, hF _ (dm 22 rfl), rfl, by kernel_rfl, ⟨rfl, rfl, rfl, by decide +kernel, rfl, by decide +kernel, by decide +kernel⟩, Df.binds (hF _ (dm 22 rfl)) (by kernel_rfl) (by decide +kernel), by decide +kernel, by decide +kernel⟩⟩ : ECls _ (cf K) "InvalidSayings" "index")
theorem Hd.k_InvalidSayings : EKw ⟨P, w, mg, base, false, false⟩ (cf K) "InvalidSayings" "index" ["index"] := (⟨H.er 10 rfl, ⟨d_InvalidSayings, fd d_InvalidSayings, "self", "index", ⟨47, 8, 47, 12⟩, ⟨47, 8, 47, 18⟩, ⟨47, 21, 47, 26⟩, ⟨47, 8, 47, 26⟩, hF _ (dm 22 rfl), rfl, by kernel_rfl, ⟨rfl, rfl, rfl, by decide +kernel, rfl, by decide +kernel, by decide +kernel⟩, FunD.kb (hF _ (dm 22 rfl)) (fun _ _ _ _ _ _ first us ws h1 h2 h3 => match first, us, ws, h1, h2, h3 with | [_], [], [_], _, _, _ => rfl), by decide +kernel, by decide +kernel⟩⟩ : EKw _ (cf K) "InvalidSayings" "index" ["index"])
theorem Hd.c_InvalidBranches : ECls ⟨P, w, mg, base, false, false⟩ (cf K) "InvalidBranches" "index" := (⟨H.er 11 rfl, H.glo (H.fa (fm 24 rfl)), (show errFl "InvalidBranches" = [Str.ofString "index"] from by decide +kernel), ⟨d_InvalidBranches, fd d_InvalidBranches, "self", "index", ⟨51, 8, 51, 12⟩, ⟨51, 8, 51, 18⟩, ⟨51, 21, 51, 26⟩, ⟨51, 8, 51, 26⟩, hF _ (dm 23 rfl), rfl, by kernel_rfl, ⟨rfl, rfl, rfl, by decide +kernel, rfl, by decide +kernel, by decide +kernel⟩, Df.binds (hF _ (dm 23 rfl)) (by kernel_rfl) (by decide +kernel), by decide +kernel, by decide +kernel⟩⟩ : ECls _ (cf K) "InvalidBranches" "index")
theorem Hd.k_InvalidBranches : EKw ⟨P, w, mg, base, false, false⟩ (cf K) "InvalidBranches" "index" ["index"] := (⟨H.er 11 rfl, ⟨d_InvalidBranches, fd d_InvalidBranches, "self", "index", ⟨51, 8, 51, 12⟩, ⟨51, 8, 51, 18⟩, ⟨51, 21, 51, 26⟩, ⟨51, 8, 51, 26⟩, hF _ (dm 23 rfl), rfl, by kernel_rfl, ⟨rfl, rfl, rfl, by decide +kernel, rfl, by decide +kernel, by decide +kernel⟩, FunD.kb (hF _ (dm 23 rfl)) (fun _ _ _ _ _ _ first us ws h1 h2 h3 => match first, us, ws, h1, h2, h3 with | [_], [], [_], _, _, _ => rfl), by decide +kernel, by decide +kernel⟩⟩ : EKw _ (cf K) "InvalidBranches" "index" ["index"])
theorem Hd.c_InvalidForms : ECls ⟨P, w, mg, base, false, false⟩ (cf K) "InvalidForms" "index" := (⟨H.er 12 rfl, H.glo (H.fa (fm 25 rfl)), (show errFl "InvalidForms" = [Str.ofString "index"] from by decide +kernel), ⟨d_InvalidForms, fd d_InvalidForms, "self", "index", ⟨55, 8, 55, 12⟩, ⟨55, 8, 55, 18⟩, ⟨55, 21, 55, 26⟩, ⟨55, 8, 55, 26⟩, hF _ (dm 24 rfl), rfl, by kernel_rfl, ⟨rfl, rfl, rfl, by decide +kernel, rfl, by decide +kernel, by decide +kernel⟩, Df.binds (hF _ (dm 24 rfl)) (by kernel_rfl) (by decide +kernel), by decide +kernel, by decide +kernel⟩⟩ : ECls _ (cf K) "InvalidForms" "index")
theorem Hd.k_InvalidForms : EKw ⟨P, w, mg, base, false, false⟩ (cf K) "InvalidForms" "index" ["index"] := (⟨H.er 12 rfl, ⟨d_InvalidForms, fd d_InvalidForms, "self", "index", ⟨55, 8, 55, 12⟩, ⟨55, 8, 55, 18⟩, ⟨55, 21, 55, 26⟩, ⟨55, 8, 55, 26⟩, hF _ (dm 24 rfl), rfl, by kernel_rfl, ⟨rfl, rfl, rfl, by decide +kernel, rfl, by decide +kernel, by decide +kernel⟩, FunD.kb (hF _ (dm 24 rfl)) (fun _ _ _ _ _ _ first us ws h1 h2 h3 => match first, us, ws, h1, h2, h3 with | [_], [], [_], _, _, _ => rfl), by decide +kernel, by decide +kernel⟩⟩ : EKw _ (cf K) "InvalidForms" "index" ["index"])
theorem Hd.c_InvalidRanks : ECls ⟨P, w, mg, base, false, false⟩ (cf K) "InvalidRanks" "index" := (⟨H.er 13 rfl, H.glo (H.fa (fm 26 rfl)), (show errFl "InvalidRanks" = [Str.ofString "index"] from by decide +kernel), ⟨d_InvalidRanks, fd d_InvalidRanks, "self", "index", ⟨59, 8, 59, 12⟩, ⟨59, 8, 59, 18⟩, ⟨59, 21, 59, 26⟩, ⟨59, 8, 59, 26⟩, hF _ (dm 25 rfl), rfl, by kernel_rfl, ⟨rfl, rfl, rfl, by decide +kernel, rfl, by decide +kernel, by decide +kernel⟩, Df.binds (hF _ (dm 25 rfl)) (by kernel_rfl) (by decide +kernel), by decide +kernel, by decide +kernel⟩⟩ : ECls _ (cf K) "InvalidRanks" "index")
theorem Hd.k_InvalidRanks : EKw ⟨P, w, mg, base, false, false⟩ (cf K) "InvalidRanks" "index" ["index"] := (⟨H.er 13 rfl, ⟨d_InvalidRanks, fd d_InvalidRanks, "self", "index", ⟨59, 8, 59, 12⟩, ⟨59, 8, 59, 18⟩, ⟨59, 21, 59, 26⟩, ⟨59, 8, 59, 26⟩, hF _ (dm 25 rfl), rfl, by kernel_rfl, ⟨rfl, rfl, rfl, by decide +kernel, rfl, by decide +kernel, by decide +kernel⟩, FunD.kb (hF _ (dm 25 rfl)) (fun _ _ _ _ _ _ first us ws h1 h2 h3 => match first, us, ws, h1, h2, h3 with | [_], [], [_], _, _, _ => rfl), by decide +kernel, by decide +kernel⟩⟩ : EKw _ (cf K) "InvalidRanks" "index" ["index"])
theorem Hd.c_InvalidWalk : ECls ⟨P, w, mg, base, false, false⟩ (cf K) "InvalidWalk" "index" := (⟨H.er 14 rfl, H.glo (H.fa (fm 27 rfl)), (show errFl "InvalidWalk" = [Str.ofString "index"] from by decide +kernel), ⟨d_InvalidWalk, fd d_InvalidWalk, "self", "index", ⟨63, 8, 63, 12⟩, ⟨63, 8, 63, 18⟩, ⟨63, 21, 63, 26⟩, ⟨63, 8, 63, 26⟩, hF _ (dm 26 rfl), rfl, by kernel_rfl, ⟨rfl, rfl, rfl, by decide +kernel, rfl, by decide +kernel, by decide +kernel⟩, Df.binds (hF _ (dm 26 rfl)) (by kernel_rfl) (by decide +kernel), by decide +kernel, by decide +kernel⟩⟩ : ECls _ (cf K) "InvalidWalk" "index")
theorem Hd.k_InvalidWalk : EKw ⟨P, w, mg, base, false, false⟩ (cf K) "InvalidWalk" "index" ["index"] := (⟨H.er 14 rfl, ⟨d_InvalidWalk, fd d_InvalidWalk, "self", "index", ⟨63, 8, 63, 12⟩, ⟨63, 8, 63, 18⟩, ⟨63, 21, 63, 26⟩, ⟨63, 8, 63, 26⟩, hF _ (dm 26 rfl), rfl, by kernel_rfl, ⟨rfl, rfl, rfl, by decide +kernel, rfl, by decide +kernel, by decide +kernel⟩, FunD.kb (hF _ (dm 26 rfl)) (fun _ _ _ _ _ _ first us ws h1 h2 h3 => match first, us, ws, h1, h2, h3 with | [_], [], [_], _, _, _ => rfl), by decide +kernel, by decide +kernel⟩⟩ : EKw _ (cf K) "InvalidWalk" "index" ["index"])
theorem Hd.c_InvalidChanges : ECls ⟨P, w, mg, base, false, false⟩ (cf K) "InvalidChanges" "index" := (⟨H.er 15 rfl, H.glo (H.fa (fm 28 rfl)), (show errFl "InvalidChanges" = [Str.ofString "index"] from by decide +kernel), ⟨d_InvalidChanges, fd d_InvalidChanges, "self", "index", ⟨67, 8, 67, 12⟩, ⟨67, 8, 67, 18⟩, ⟨67, 21, 67, 26⟩, ⟨67, 8, 67, 26⟩, hF _ (dm 27 rfl), rfl, by kernel_rfl, ⟨rfl, rfl, rfl, by decide +kernel, rfl, by decide +kernel, by decide +kernel⟩, Df.binds (hF _ (dm 27 rfl)) (by kernel_rfl) (by decide +kernel), by decide +kernel, by decide +kernel⟩⟩ : ECls _ (cf K) "InvalidChanges" "index")
theorem Hd.k_InvalidChanges : EKw ⟨P, w, mg, base, false, false⟩ (cf K) "InvalidChanges" "index" ["index"] := (⟨H.er 15 rfl, ⟨d_InvalidChanges, fd d_InvalidChanges, "self", "index", ⟨67, 8, 67, 12⟩, ⟨67, 8, 67, 18⟩, ⟨67, 21, 67, 26⟩, ⟨67, 8, 67, 26⟩, hF _ (dm 27 rfl), rfl, by kernel_rfl, ⟨rfl, rfl, rfl, by decide +kernel, rfl, by decide +kernel, by decide +kernel⟩, FunD.kb (hF _ (dm 27 rfl)) (fun _ _ _ _ _ _ first us ws h1 h2 h3 => match first, us, ws, h1, h2, h3 with | [_], [], [_], _, _, _ => rfl), by decide +kernel, by decide +kernel⟩⟩ : EKw _ (cf K) "InvalidChanges" "index" ["index"])
theorem Hd.c_InvalidWishes : ECls ⟨P, w, mg, base, false, false⟩ (cf K) "InvalidWishes" "index" := (⟨H.er 16 rfl, H.glo (H.fa (fm 29 rfl)), (show errFl "InvalidWishes" = [Str.ofString "index"] from by decide +kernel), ⟨d_InvalidWishes, fd d_InvalidWishes, "self", "index", ⟨71, 8, 71, 12⟩, ⟨71, 8, 71, 18⟩, ⟨71, 21, 71, 26⟩, ⟨71, 8, 71, 26⟩, hF _ (dm 28 rfl), rfl, by kernel_rfl, ⟨rfl, rfl, rfl, by decide +kernel, rfl, by decide +kernel, by decide +kernel⟩, Df.binds (hF _ (dm 28 rfl)) (by kernel_rfl) (by decide +kernel), by decide +kernel, by decide +kernel⟩⟩ : ECls _ (cf K) "InvalidWishes" "index")
theorem Hd.k_InvalidWishes : EKw ⟨P, w, mg, base, false, false⟩ (cf K) "InvalidWishes" "index" ["index"] := (⟨H.er 16 rfl, ⟨d_InvalidWishes, fd d_InvalidWishes, "self", "index", ⟨71, 8, 71, 12⟩, ⟨71, 8, 71, 18⟩, ⟨71, 21, 71, 26⟩, ⟨71, 8, 71, 26⟩, hF _ (dm 28 rfl), rfl, by kernel_rfl, ⟨rfl, rfl, rfl, by decide +kernel, rfl, by decide +kernel, by decide +kernel⟩, FunD.kb (hF _ (dm 28 rfl)) (fun _ _ _ _ _ _ first us ws h1 h2 h3 => match first, us, ws, h1, h2, h3 with | [_], [], [_], _, _, _ => rfl), by decide +kernel, by decide +kernel⟩⟩ : EKw _ (cf K) "InvalidWishes" "index" ["index"])
theorem Hd.c_UnknownName : ECls ⟨P, w, mg, base, false, false⟩ (cf K) "UnknownName" "given" := (⟨H.er 17 rfl, H.glo (H.fa (fm 31 rfl)), (show errFl "UnknownName" = [Str.ofString "given"] from by decide +kernel), ⟨d_UnknownName, fd d_UnknownName, "self", "given", ⟨77, 8, 77, 12⟩, ⟨77, 8, 77, 18⟩, ⟨77, 21, 77, 26⟩, ⟨77, 8, 77, 26⟩, hF _ (dm 29 rfl), rfl, by kernel_rfl, ⟨rfl, rfl, rfl, by decide +kernel, rfl, by decide +kernel, by decide +kernel⟩, Df.binds (hF _ (dm 29 rfl)) (by kernel_rfl) (by decide +kernel), by decide +kernel, by decide +kernel⟩⟩ : ECls _ (cf K) "UnknownName" "given")
theorem Hd.k_UnknownName : EKw ⟨P, w, mg, base, false, false⟩ (cf K) "UnknownName" "given" ["given"] := (⟨H.er 17 rfl, ⟨d_UnknownName, fd d_UnknownName, "self", "given", ⟨77, 8, 77, 12⟩, ⟨77, 8, 77, 18⟩, ⟨77, 21, 77, 26⟩, ⟨77, 8, 77, 26⟩, hF _ (dm 29 rfl), rfl, by kernel_rfl, ⟨rfl, rfl, rfl, by decide +kernel, rfl, by decide +kernel, by decide +kernel⟩, FunD.kb (hF _ (dm 29 rfl)) (fun _ _ _ _ _ _ first us ws h1 h2 h3 => match first, us, ws, h1, h2, h3 with | [_], [], [_], _, _, _ => rfl), by decide +kernel, by decide +kernel⟩⟩ : EKw _ (cf K) "UnknownName" "given" ["given"])
theorem Hd.c_InUse : ECls ⟨P, w, mg, base, false, false⟩ (cf K) "InUse" "index" := (⟨H.er 18 rfl, H.glo (H.fa (fm 32 rfl)), (show errFl "InUse" = [Str.ofString "index"] from by decide +kernel), ⟨d_InUse, fd d_InUse, "self", "index", ⟨81, 8, 81, 12⟩, ⟨81, 8, 81, 18⟩, ⟨81, 21, 81, 26⟩, ⟨81, 8, 81, 26⟩, hF _ (dm 30 rfl), rfl, by kernel_rfl, ⟨rfl, rfl, rfl, by decide +kernel, rfl, by decide +kernel, by decide +kernel⟩, Df.binds (hF _ (dm 30 rfl)) (by kernel_rfl) (by decide +kernel), by decide +kernel, by decide +kernel⟩⟩ : ECls _ (cf K) "InUse" "index")
theorem Hd.k_InUse : EKw ⟨P, w, mg, base, false, false⟩ (cf K) "InUse" "index" ["index"] := (⟨H.er 18 rfl, ⟨d_InUse, fd d_InUse, "self", "index", ⟨81, 8, 81, 12⟩, ⟨81, 8, 81, 18⟩, ⟨81, 21, 81, 26⟩, ⟨81, 8, 81, 26⟩, hF _ (dm 30 rfl), rfl, by kernel_rfl, ⟨rfl, rfl, rfl, by decide +kernel, rfl, by decide +kernel, by decide +kernel⟩, FunD.kb (hF _ (dm 30 rfl)) (fun _ _ _ _ _ _ first us ws h1 h2 h3 => match first, us, ws, h1, h2, h3 with | [_], [], [_], _, _, _ => rfl), by decide +kernel, by decide +kernel⟩⟩ : EKw _ (cf K) "InUse" "index" ["index"])
theorem Hd.c_NoRow : ECls ⟨P, w, mg, base, false, false⟩ (cf K) "NoRow" "given" := (⟨H.er 19 rfl, H.glo (H.fa (fm 34 rfl)), (show errFl "NoRow" = [Str.ofString "given"] from by decide +kernel), ⟨d_NoRow, fd d_NoRow, "self", "given", ⟨87, 8, 87, 12⟩, ⟨87, 8, 87, 18⟩, ⟨87, 21, 87, 26⟩, ⟨87, 8, 87, 26⟩, hF _ (dm 31 rfl), rfl, by kernel_rfl, ⟨rfl, rfl, rfl, by decide +kernel, rfl, by decide +kernel, by decide +kernel⟩, Df.binds (hF _ (dm 31 rfl)) (by kernel_rfl) (by decide +kernel), by decide +kernel, by decide +kernel⟩⟩ : ECls _ (cf K) "NoRow" "given")
theorem Hd.k_NoRow : EKw ⟨P, w, mg, base, false, false⟩ (cf K) "NoRow" "given" ["given"] := (⟨H.er 19 rfl, ⟨d_NoRow, fd d_NoRow, "self", "given", ⟨87, 8, 87, 12⟩, ⟨87, 8, 87, 18⟩, ⟨87, 21, 87, 26⟩, ⟨87, 8, 87, 26⟩, hF _ (dm 31 rfl), rfl, by kernel_rfl, ⟨rfl, rfl, rfl, by decide +kernel, rfl, by decide +kernel, by decide +kernel⟩, FunD.kb (hF _ (dm 31 rfl)) (fun _ _ _ _ _ _ first us ws h1 h2 h3 => match first, us, ws, h1, h2, h3 with | [_], [], [_], _, _, _ => rfl), by decide +kernel, by decide +kernel⟩⟩ : EKw _ (cf K) "NoRow" "given" ["given"])
theorem Hd.c_TooMany : ECls ⟨P, w, mg, base, false, false⟩ (cf K) "TooMany" "given" := (⟨H.er 20 rfl, H.glo (H.fa (fm 35 rfl)), (show errFl "TooMany" = [Str.ofString "given"] from by decide +kernel), ⟨d_TooMany, fd d_TooMany, "self", "given", ⟨91, 8, 91, 12⟩, ⟨91, 8, 91, 18⟩, ⟨91, 21, 91, 26⟩, ⟨91, 8, 91, 26⟩, hF _ (dm 32 rfl), rfl, by kernel_rfl, ⟨rfl, rfl, rfl, by decide +kernel, rfl, by decide +kernel, by decide +kernel⟩, Df.binds (hF _ (dm 32 rfl)) (by kernel_rfl) (by decide +kernel), by decide +kernel, by decide +kernel⟩⟩ : ECls _ (cf K) "TooMany" "given")
theorem Hd.k_TooMany : EKw ⟨P, w, mg, base, false, false⟩ (cf K) "TooMany" "given" ["given"] := (⟨H.er 20 rfl, ⟨d_TooMany, fd d_TooMany, "self", "given", ⟨91, 8, 91, 12⟩, ⟨91, 8, 91, 18⟩, ⟨91, 21, 91, 26⟩, ⟨91, 8, 91, 26⟩, hF _ (dm 32 rfl), rfl, by kernel_rfl, ⟨rfl, rfl, rfl, by decide +kernel, rfl, by decide +kernel, by decide +kernel⟩, FunD.kb (hF _ (dm 32 rfl)) (fun _ _ _ _ _ _ first us ws h1 h2 h3 => match first, us, ws, h1, h2, h3 with | [_], [], [_], _, _, _ => rfl), by decide +kernel, by decide +kernel⟩⟩ : EKw _ (cf K) "TooMany" "given" ["given"])
theorem Hd.c_Stuck : ECls ⟨P, w, mg, base, false, false⟩ (cf K) "Stuck" "index" := (⟨H.er 21 rfl, H.glo (H.fa (fm 36 rfl)), (show errFl "Stuck" = [Str.ofString "index"] from by decide +kernel), ⟨d_Stuck, fd d_Stuck, "self", "index", ⟨95, 8, 95, 12⟩, ⟨95, 8, 95, 18⟩, ⟨95, 21, 95, 26⟩, ⟨95, 8, 95, 26⟩, hF _ (dm 33 rfl), rfl, by kernel_rfl, ⟨rfl, rfl, rfl, by decide +kernel, rfl, by decide +kernel, by decide +kernel⟩, Df.binds (hF _ (dm 33 rfl)) (by kernel_rfl) (by decide +kernel), by decide +kernel, by decide +kernel⟩⟩ : ECls _ (cf K) "Stuck" "index")
theorem Hd.k_Stuck : EKw ⟨P, w, mg, base, false, false⟩ (cf K) "Stuck" "index" ["index"] := (⟨H.er 21 rfl, ⟨d_Stuck, fd d_Stuck, "self", "index", ⟨95, 8, 95, 12⟩, ⟨95, 8, 95, 18⟩, ⟨95, 21, 95, 26⟩, ⟨95, 8, 95, 26⟩, hF _ (dm 33 rfl), rfl, by kernel_rfl, ⟨rfl, rfl, rfl, by decide +kernel, rfl, by decide +kernel, by decide +kernel⟩, FunD.kb (hF _ (dm 33 rfl)) (fun _ _ _ _ _ _ first us ws h1 h2 h3 => match first, us, ws, h1, h2, h3 with | [_], [], [_], _, _, _ => rfl), by decide +kernel, by decide +kernel⟩⟩ : EKw _ (cf K) "Stuck" "index" ["index"])
theorem Hd.c_Broken : ECls ⟨P, w, mg, base, false, false⟩ (cf K) "Broken" "index" := (⟨H.er 22 rfl, H.glo (H.fa (fm 38 rfl)), (show errFl "Broken" = [Str.ofString "index"] from by decide +kernel), ⟨d_Broken, fd d_Broken, "self", "index", ⟨101, 8, 101, 12⟩, ⟨101, 8, 101, 18⟩, ⟨101, 21, 101, 26⟩, ⟨101, 8, 101, 26⟩, hF _ (dm 34 rfl), rfl, by kernel_rfl, ⟨rfl, rfl, rfl, by decide +kernel, rfl, by decide +kernel, by decide +kernel⟩, Df.binds (hF _ (dm 34 rfl)) (by kernel_rfl) (by decide +kernel), by decide +kernel, by decide +kernel⟩⟩ : ECls _ (cf K) "Broken" "index")
theorem Hd.k_Broken : EKw ⟨P, w, mg, base, false, false⟩ (cf K) "Broken" "index" ["index"] := (⟨H.er 22 rfl, ⟨d_Broken, fd d_Broken, "self", "index", ⟨101, 8, 101, 12⟩, ⟨101, 8, 101, 18⟩, ⟨101, 21, 101, 26⟩, ⟨101, 8, 101, 26⟩, hF _ (dm 34 rfl), rfl, by kernel_rfl, ⟨rfl, rfl, rfl, by decide +kernel, rfl, by decide +kernel, by decide +kernel⟩, FunD.kb (hF _ (dm 34 rfl)) (fun _ _ _ _ _ _ first us ws h1 h2 h3 => match first, us, ws, h1, h2, h3 with | [_], [], [_], _, _, _ => rfl), by decide +kernel, by decide +kernel⟩⟩ : EKw _ (cf K) "Broken" "index" ["index"])
theorem Hd.exs : ∀ c ∈ gP.exs, ∀ k, True → IsxOk ⟨P, w, mg, base, false, false⟩ (cf K) (CW (cf K) fs l k) k c := (am (fun k _ => isx_ok (libW_mono sub0) (hmC K k) (H.free (H.fa (fm 48 rfl))) (show NmV _ (cf K) _ (tgV K ("WrongValue", true)) from .own (H.glo (H.fa (fm 12 rfl)))) (c_isT (t := ("WrongValue", true)) H.isB (List.mem_of_getElem? (i := 0) rfl) (l2_no _ (List.mem_of_getElem? (i := 27) rfl)) (l2_ok _ (List.mem_of_getElem? (i := 27) rfl)))) (am (fun k _ => isx_ok (libW_mono sub0) (hmC K k) (H.free (H.fa (fm 48 rfl))) (show NmV _ (cf K) _ (tgV K ("InvalidText", true)) from .own (H.glo (H.fa (fm 13 rfl)))) (c_isT (t := ("InvalidText", true)) H.isB (List.mem_of_getElem? (i := 1) rfl) (l2_no _ (List.mem_of_getElem? (i := 28) rfl)) (l2_ok _ (List.mem_of_getElem? (i := 28) rfl)))) (am (fun k _ => isx_ok (libW_mono sub0) (hmC K k) (H.free (H.fa (fm 48 rfl))) (show NmV _ (cf K) _ (tgV K ("InvalidName", true)) from .own (H.glo (H.fa (fm 14 rfl)))) (c_isT (t := ("InvalidName", true)) H.isB (List.mem_of_getElem? (i := 2) rfl) (l2_no _ (List.mem_of_getElem? (i := 29) rfl)) (l2_ok _ (List.mem_of_getElem? (i := 29) rfl)))) (am (fun k _ => isx_ok (libW_mono sub0) (hmC K k) (H.free (H.fa (fm 48 rfl))) (show NmV _ (cf K) _ (tgV K ("InvalidIndex", true)) from .own (H.glo (H.fa (fm 15 rfl)))) (c_isT (t := ("InvalidIndex", true)) H.isB (List.mem_of_getElem? (i := 3) rfl) (l2_no _ (List.mem_of_getElem? (i := 30) rfl)) (l2_ok _ (List.mem_of_getElem? (i := 30) rfl)))) (am (fun k _ => isx_ok (libW_mono sub0) (hmC K k) (H.free (H.fa (fm 48 rfl))) (show NmV _ (cf K) _ (tgV K ("InvalidPlace", true)) from .own (H.glo (H.fa (fm 16 rfl)))) (c_isT (t := ("InvalidPlace", true)) H.isB (List.mem_of_getElem? (i := 4) rfl) (l2_no _ (List.mem_of_getElem? (i := 31) rfl)) (l2_ok _ (List.mem_of_getElem? (i := 31) rfl)))) (am (fun k _ => isx_ok (libW_mono sub0) (hmC K k) (H.free (H.fa (fm 48 rfl))) (show NmV _ (cf K) _ (tgV K ("InvalidPoint", true)) from .own (H.glo (H.fa (fm 17 rfl)))) (c_isT (t := ("InvalidPoint", true)) H.isB (List.mem_of_getElem? (i := 5) rfl) (l2_no _ (List.mem_of_getElem? (i := 32) rfl)) (l2_ok _ (List.mem_of_getElem? (i := 32) rfl)))) (am (fun k _ => isx_ok (libW_mono sub0) (hmC K k) (H.free (H.fa (fm 48 rfl))) (show NmV _ (cf K) _ (tgV K ("InvalidForm", true)) from .own (H.glo (H.fa (fm 18 rfl)))) (c_isT (t := ("InvalidForm", true)) H.isB (List.mem_of_getElem? (i := 6) rfl) (l2_no _ (List.mem_of_getElem? (i := 33) rfl)) (l2_ok _ (List.mem_of_getElem? (i := 33) rfl)))) (am (fun k _ => isx_ok (libW_mono sub0) (hmC K k) (H.free (H.fa (fm 48 rfl))) (show NmV _ (cf K) _ (tgV K ("InvalidRank", true)) from .own (H.glo (H.fa (fm 19 rfl)))) (c_isT (t := ("InvalidRank", true)) H.isB (List.mem_of_getElem? (i := 7) rfl) (l2_no _ (List.mem_of_getElem? (i := 34) rfl)) (l2_ok _ (List.mem_of_getElem? (i := 34) rfl)))) (am (fun k _ => isx_ok (libW_mono sub0) (hmC K k) (H.free (H.fa (fm 48 rfl))) (show NmV _ (cf K) _ (tgV K ("InvalidWish", true)) from .own (H.glo (H.fa (fm 20 rfl)))) (c_isT (t := ("InvalidWish", true)) H.isB (List.mem_of_getElem? (i := 8) rfl) (l2_no _ (List.mem_of_getElem? (i := 35) rfl)) (l2_ok _ (List.mem_of_getElem? (i := 35) rfl)))) (am (fun k _ => isx_ok (libW_mono sub0) (hmC K k) (H.free (H.fa (fm 48 rfl))) (show NmV _ (cf K) _ (tgV K ("NotProgram", true)) from .own (H.glo (H.fa (fm 21 rfl)))) (c_isT (t := ("NotProgram", true)) H.isB (List.mem_of_getElem? (i := 9) rfl) (l2_no _ (List.mem_of_getElem? (i := 36) rfl)) (l2_ok _ (List.mem_of_getElem? (i := 36) rfl)))) (am (fun k _ => isx_ok (libW_mono sub0) (hmC K k) (H.free (H.fa (fm 48 rfl))) (show NmV _ (cf K) _ (tgV K ("InvalidNames", true)) from .own (H.glo (H.fa (fm 22 rfl)))) (c_isT (t := ("InvalidNames", true)) H.isB (List.mem_of_getElem? (i := 10) rfl) (l2_no _ (List.mem_of_getElem? (i := 37) rfl)) (l2_ok _ (List.mem_of_getElem? (i := 37) rfl)))) (am (fun k _ => isx_ok (libW_mono sub0) (hmC K k) (H.free (H.fa (fm 48 rfl))) (show NmV _ (cf K) _ (tgV K ("InvalidSayings", true)) from .own (H.glo (H.fa (fm 23 rfl)))) (c_isT (t := ("InvalidSayings", true)) H.isB (List.mem_of_getElem? (i := 11) rfl) (l2_no _ (List.mem_of_getElem? (i := 38) rfl)) (l2_ok _ (List.mem_of_getElem? (i := 38) rfl)))) (am (fun k _ => isx_ok (libW_mono sub0) (hmC K k) (H.free (H.fa (fm 48 rfl))) (show NmV _ (cf K) _ (tgV K ("InvalidBranches", true)) from .own (H.glo (H.fa (fm 24 rfl)))) (c_isT (t := ("InvalidBranches", true)) H.isB (List.mem_of_getElem? (i := 12) rfl) (l2_no _ (List.mem_of_getElem? (i := 39) rfl)) (l2_ok _ (List.mem_of_getElem? (i := 39) rfl)))) (am (fun k _ => isx_ok (libW_mono sub0) (hmC K k) (H.free (H.fa (fm 48 rfl))) (show NmV _ (cf K) _ (tgV K ("InvalidForms", true)) from .own (H.glo (H.fa (fm 25 rfl)))) (c_isT (t := ("InvalidForms", true)) H.isB (List.mem_of_getElem? (i := 13) rfl) (l2_no _ (List.mem_of_getElem? (i := 40) rfl)) (l2_ok _ (List.mem_of_getElem? (i := 40) rfl)))) (am (fun k _ => isx_ok (libW_mono sub0) (hmC K k) (H.free (H.fa (fm 48 rfl))) (show NmV _ (cf K) _ (tgV K ("InvalidRanks", true)) from .own (H.glo (H.fa (fm 26 rfl)))) (c_isT (t := ("InvalidRanks", true)) H.isB (List.mem_of_getElem? (i := 14) rfl) (l2_no _ (List.mem_of_getElem? (i := 41) rfl)) (l2_ok _ (List.mem_of_getElem? (i := 41) rfl)))) (am (fun k _ => isx_ok (libW_mono sub0) (hmC K k) (H.free (H.fa (fm 48 rfl))) (show NmV _ (cf K) _ (tgV K ("InvalidWalk", true)) from .own (H.glo (H.fa (fm 27 rfl)))) (c_isT (t := ("InvalidWalk", true)) H.isB (List.mem_of_getElem? (i := 15) rfl) (l2_no _ (List.mem_of_getElem? (i := 42) rfl)) (l2_ok _ (List.mem_of_getElem? (i := 42) rfl)))) (am (fun k _ => isx_ok (libW_mono sub0) (hmC K k) (H.free (H.fa (fm 48 rfl))) (show NmV _ (cf K) _ (tgV K ("InvalidChanges", true)) from .own (H.glo (H.fa (fm 28 rfl)))) (c_isT (t := ("InvalidChanges", true)) H.isB (List.mem_of_getElem? (i := 16) rfl) (l2_no _ (List.mem_of_getElem? (i := 43) rfl)) (l2_ok _ (List.mem_of_getElem? (i := 43) rfl)))) (am (fun k _ => isx_ok (libW_mono sub0) (hmC K k) (H.free (H.fa (fm 48 rfl))) (show NmV _ (cf K) _ (tgV K ("InvalidWishes", true)) from .own (H.glo (H.fa (fm 29 rfl)))) (c_isT (t := ("InvalidWishes", true)) H.isB (List.mem_of_getElem? (i := 17) rfl) (l2_no _ (List.mem_of_getElem? (i := 44) rfl)) (l2_ok _ (List.mem_of_getElem? (i := 44) rfl)))) (am (fun k _ => isx_ok (libW_mono sub0) (hmC K k) (H.free (H.fa (fm 48 rfl))) (show NmV _ (cf K) _ (tgV K ("WrongName", true)) from .own (H.glo (H.fa (fm 30 rfl)))) (c_isT (t := ("WrongName", true)) H.isB (List.mem_of_getElem? (i := 18) rfl) (l2_no _ (List.mem_of_getElem? (i := 45) rfl)) (l2_ok _ (List.mem_of_getElem? (i := 45) rfl)))) (am (fun k _ => isx_ok (libW_mono sub0) (hmC K k) (H.free (H.fa (fm 48 rfl))) (show NmV _ (cf K) _ (tgV K ("UnknownName", true)) from .own (H.glo (H.fa (fm 31 rfl)))) (c_isT (t := ("UnknownName", true)) H.isB (List.mem_of_getElem? (i := 19) rfl) (l2_no _ (List.mem_of_getElem? (i := 46) rfl)) (l2_ok _ (List.mem_of_getElem? (i := 46) rfl)))) (am (fun k _ => isx_ok (libW_mono sub0) (hmC K k) (H.free (H.fa (fm 48 rfl))) (show NmV _ (cf K) _ (tgV K ("InUse", true)) from .own (H.glo (H.fa (fm 32 rfl)))) (c_isT (t := ("InUse", true)) H.isB (List.mem_of_getElem? (i := 20) rfl) (l2_no _ (List.mem_of_getElem? (i := 47) rfl)) (l2_ok _ (List.mem_of_getElem? (i := 47) rfl)))) (am (fun k _ => isx_ok (libW_mono sub0) (hmC K k) (H.free (H.fa (fm 48 rfl))) (show NmV _ (cf K) _ (tgV K ("NotPossible", true)) from .own (H.glo (H.fa (fm 33 rfl)))) (c_isT (t := ("NotPossible", true)) H.isB (List.mem_of_getElem? (i := 21) rfl) (l2_no _ (List.mem_of_getElem? (i := 48) rfl)) (l2_ok _ (List.mem_of_getElem? (i := 48) rfl)))) (am (fun k _ => isx_ok (libW_mono sub0) (hmC K k) (H.free (H.fa (fm 48 rfl))) (show NmV _ (cf K) _ (tgV K ("NoRow", true)) from .own (H.glo (H.fa (fm 34 rfl)))) (c_isT (t := ("NoRow", true)) H.isB (List.mem_of_getElem? (i := 22) rfl) (l2_no _ (List.mem_of_getElem? (i := 49) rfl)) (l2_ok _ (List.mem_of_getElem? (i := 49) rfl)))) (am (fun k _ => isx_ok (libW_mono sub0) (hmC K k) (H.free (H.fa (fm 48 rfl))) (show NmV _ (cf K) _ (tgV K ("TooMany", true)) from .own (H.glo (H.fa (fm 35 rfl)))) (c_isT (t := ("TooMany", true)) H.isB (List.mem_of_getElem? (i := 23) rfl) (l2_no _ (List.mem_of_getElem? (i := 50) rfl)) (l2_ok _ (List.mem_of_getElem? (i := 50) rfl)))) (am (fun k _ => isx_ok (libW_mono sub0) (hmC K k) (H.free (H.fa (fm 48 rfl))) (show NmV _ (cf K) _ (tgV K ("Stuck", true)) from .own (H.glo (H.fa (fm 36 rfl)))) (c_isT (t := ("Stuck", true)) H.isB (List.mem_of_getElem? (i := 24) rfl) (l2_no _ (List.mem_of_getElem? (i := 51) rfl)) (l2_ok _ (List.mem_of_getElem? (i := 51) rfl)))) (am (fun k _ => isx_ok (libW_mono sub0) (hmC K k) (H.free (H.fa (fm 48 rfl))) (show NmV _ (cf K) _ (tgV K ("NothingToUndo", true)) from .own (H.glo (H.fa (fm 37 rfl)))) (c_isT (t := ("NothingToUndo", true)) H.isB (List.mem_of_getElem? (i := 25) rfl) (l2_no _ (List.mem_of_getElem? (i := 52) rfl)) (l2_ok _ (List.mem_of_getElem? (i := 52) rfl)))) (am (fun k _ => isx_ok (libW_mono sub0) (hmC K k) (H.free (H.fa (fm 48 rfl))) (show NmV _ (cf K) _ (tgV K ("Broken", true)) from .own (H.glo (H.fa (fm 38 rfl)))) (c_isT (t := ("Broken", true)) H.isB (List.mem_of_getElem? (i := 26) rfl) (l2_no _ (List.mem_of_getElem? (i := 53) rfl)) (l2_ok _ (List.mem_of_getElem? (i := 53) rfl)))) (am (fun k _ => isx_ok (libW_mono sub0) (hmC K k) (H.free (H.fa (fm 48 rfl))) (show NmV _ (cf K) _ (tgV K ("ValueError", false)) from .ty (H.free (H.fa (fm 63 rfl))) rfl) (c_isT (t := ("ValueError", false)) H.isB (List.mem_of_getElem? (i := 27) rfl) (l2_no _ (List.mem_of_getElem? (i := 54) rfl)) (l2_ok _ (List.mem_of_getElem? (i := 54) rfl)))) (am (fun k _ => isx_ok (libW_mono sub0) (hmC K k) (H.free (H.fa (fm 48 rfl))) (show NmV _ (cf K) _ (tgV K ("LookupError", false)) from .ty (H.free (H.fa (fm 64 rfl))) rfl) (c_isT (t := ("LookupError", false)) H.isB (List.mem_of_getElem? (i := 28) rfl) (l2_no _ (List.mem_of_getElem? (i := 55) rfl)) (l2_ok _ (List.mem_of_getElem? (i := 55) rfl)))) (am (fun k _ => isx_ok (libW_mono sub0) (hmC K k) (H.free (H.fa (fm 48 rfl))) (show NmV _ (cf K) _ (tgV K ("ArithmeticError", false)) from .ty (H.free (H.fa (fm 65 rfl))) rfl) (c_isT (t := ("ArithmeticError", false)) H.isB (List.mem_of_getElem? (i := 29) rfl) (l2_no _ (List.mem_of_getElem? (i := 56) rfl)) (l2_ok _ (List.mem_of_getElem? (i := 56) rfl)))) an))))))))))))))))))))))))))))))
theorem Hd.atts : ∀ e ∈ gP.att, ∀ k, True → AttOk ⟨P, w, mg, base, false, false⟩ (cf K) (CW (cf K) fs l k) k e.1 e.2 := (am (fun k _ => att_err (libW_mono sub0) (hmC K k) (c_fd H.fdB (.inl rfl) (l2_no _ (List.mem_of_getElem? (i := 57) rfl)) (l2_ok _ (List.mem_of_getElem? (i := 57) rfl)))) (am (fun k _ => att_err (libW_mono sub0) (hmC K k) (c_fd H.fdB (.inr rfl) (l2_no _ (List.mem_of_getElem? (i := 58) rfl)) (l2_ok _ (List.mem_of_getElem? (i := 58) rfl)))) an))
theorem Hd.pm : P0 ⟨P, w, mg, base, false, false⟩ (cf K) sub0 gP fs l es (fun e => fd e.d) (fun _ => True) where
  fl := rfl
  ct := H.ctP
  lq := rfl
  ans := rfl
  err := an
  ok := an
  bd := an
  io := an
  fn := (am (.inr ⟨_, H.glo (H.fa (fm 12 rfl)), (H.e0 0 rfl).2, fun k _ => cal_er0 (H.e0 0 rfl).1 (c_er0 (l2_no _ (List.mem_of_getElem? (i := 23) rfl)) (l2_ok _ (List.mem_of_getElem? (i := 23) rfl)))⟩) (am (.inr ⟨_, H.glo (H.fa (fm 13 rfl)), (H.er 0 rfl).T.kC, fun k _ => cal_er1 (H.c_InvalidText hF) (c_er1 (p0_no ("!lv", pTo "!lv1") (List.mem_cons_self ..)) (l_ok ("!lv", pTo "!lv1") (List.mem_append_left _ (List.mem_append_left _ (List.mem_cons_self ..)))) (p0_no ("!lv1", pOk) (List.mem_cons_of_mem _ (List.mem_cons_self ..))) (l2_no _ (List.mem_of_getElem? (i := 0) rfl)) (l2_ok _ (List.mem_of_getElem? (i := 0) rfl)))⟩) (am (.inr ⟨_, H.glo (H.fa (fm 14 rfl)), (H.er 1 rfl).T.kC, fun k _ => cal_er1 (H.c_InvalidName hF) (c_er1 (p0_no ("!lv", pTo "!lv1") (List.mem_cons_self ..)) (l_ok ("!lv", pTo "!lv1") (List.mem_append_left _ (List.mem_append_left _ (List.mem_cons_self ..)))) (p0_no ("!lv1", pOk) (List.mem_cons_of_mem _ (List.mem_cons_self ..))) (l2_no _ (List.mem_of_getElem? (i := 1) rfl)) (l2_ok _ (List.mem_of_getElem? (i := 1) rfl)))⟩) (am (.inr ⟨_, H.glo (H.fa (fm 15 rfl)), (H.er 2 rfl).T.kC, fun k _ => cal_er1 (H.c_InvalidIndex hF) (c_er1 (p0_no ("!lv", pTo "!lv1") (List.mem_cons_self ..)) (l_ok ("!lv", pTo "!lv1") (List.mem_append_left _ (List.mem_append_left _ (List.mem_cons_self ..)))) (p0_no ("!lv1", pOk) (List.mem_cons_of_mem _ (List.mem_cons_self ..))) (l2_no _ (List.mem_of_getElem? (i := 2) rfl)) (l2_ok _ (List.mem_of_getElem? (i := 2) rfl)))⟩) (am (.inr ⟨_, H.glo (H.fa (fm 16 rfl)), (H.er 3 rfl).T.kC, fun k _ => cal_er1 (H.c_InvalidPlace hF) (c_er1 (p0_no ("!lv", pTo "!lv1") (List.mem_cons_self ..)) (l_ok ("!lv", pTo "!lv1") (List.mem_append_left _ (List.mem_append_left _ (List.mem_cons_self ..)))) (p0_no ("!lv1", pOk) (List.mem_cons_of_mem _ (List.mem_cons_self ..))) (l2_no _ (List.mem_of_getElem? (i := 3) rfl)) (l2_ok _ (List.mem_of_getElem? (i := 3) rfl)))⟩) (am (.inr ⟨_, H.glo (H.fa (fm 17 rfl)), (H.er 4 rfl).T.kC, fun k _ => cal_er1 (H.c_InvalidPoint hF) (c_er1 (p0_no ("!lv", pTo "!lv1") (List.mem_cons_self ..)) (l_ok ("!lv", pTo "!lv1") (List.mem_append_left _ (List.mem_append_left _ (List.mem_cons_self ..)))) (p0_no ("!lv1", pOk) (List.mem_cons_of_mem _ (List.mem_cons_self ..))) (l2_no _ (List.mem_of_getElem? (i := 4) rfl)) (l2_ok _ (List.mem_of_getElem? (i := 4) rfl)))⟩) (am (.inr ⟨_, H.glo (H.fa (fm 18 rfl)), (H.er 5 rfl).T.kC, fun k _ => cal_er1 (H.c_InvalidForm hF) (c_er1 (p0_no ("!lv", pTo "!lv1") (List.mem_cons_self ..)) (l_ok ("!lv", pTo "!lv1") (List.mem_append_left _ (List.mem_append_left _ (List.mem_cons_self ..)))) (p0_no ("!lv1", pOk) (List.mem_cons_of_mem _ (List.mem_cons_self ..))) (l2_no _ (List.mem_of_getElem? (i := 5) rfl)) (l2_ok _ (List.mem_of_getElem? (i := 5) rfl)))⟩) (am (.inr ⟨_, H.glo (H.fa (fm 19 rfl)), (H.er 6 rfl).T.kC, fun k _ => cal_er1 (H.c_InvalidRank hF) (c_er1 (p0_no ("!lv", pTo "!lv1") (List.mem_cons_self ..)) (l_ok ("!lv", pTo "!lv1") (List.mem_append_left _ (List.mem_append_left _ (List.mem_cons_self ..)))) (p0_no ("!lv1", pOk) (List.mem_cons_of_mem _ (List.mem_cons_self ..))) (l2_no _ (List.mem_of_getElem? (i := 6) rfl)) (l2_ok _ (List.mem_of_getElem? (i := 6) rfl)))⟩) (am (.inr ⟨_, H.glo (H.fa (fm 20 rfl)), (H.er 7 rfl).T.kC, fun k _ => cal_er1 (H.c_InvalidWish hF) (c_er1 (p0_no ("!lv", pTo "!lv1") (List.mem_cons_self ..)) (l_ok ("!lv", pTo "!lv1") (List.mem_append_left _ (List.mem_append_left _ (List.mem_cons_self ..)))) (p0_no ("!lv1", pOk) (List.mem_cons_of_mem _ (List.mem_cons_self ..))) (l2_no _ (List.mem_of_getElem? (i := 7) rfl)) (l2_ok _ (List.mem_of_getElem? (i := 7) rfl)))⟩) (am (.inr ⟨_, H.glo (H.fa (fm 21 rfl)), (H.er 8 rfl).T.kC, fun k _ => cal_er1 (H.c_NotProgram hF) (c_er1 (p0_no ("!lv", pTo "!lv1") (List.mem_cons_self ..)) (l_ok ("!lv", pTo "!lv1") (List.mem_append_left _ (List.mem_append_left _ (List.mem_cons_self ..)))) (p0_no ("!lv1", pOk) (List.mem_cons_of_mem _ (List.mem_cons_self ..))) (l2_no _ (List.mem_of_getElem? (i := 8) rfl)) (l2_ok _ (List.mem_of_getElem? (i := 8) rfl)))⟩) (am (.inr ⟨_, H.glo (H.fa (fm 22 rfl)), (H.er 9 rfl).T.kC, fun k _ => cal_er1 (H.c_InvalidNames hF) (c_er1 (p0_no ("!lv", pTo "!lv1") (List.mem_cons_self ..)) (l_ok ("!lv", pTo "!lv1") (List.mem_append_left _ (List.mem_append_left _ (List.mem_cons_self ..)))) (p0_no ("!lv1", pOk) (List.mem_cons_of_mem _ (List.mem_cons_self ..))) (l2_no _ (List.mem_of_getElem? (i := 9) rfl)) (l2_ok _ (List.mem_of_getElem? (i := 9) rfl)))⟩) (am (.inr ⟨_, H.glo (H.fa (fm 23 rfl)), (H.er 10 rfl).T.kC, fun k _ => cal_er1 (H.c_InvalidSayings hF) (c_er1 (p0_no ("!lv", pTo "!lv1") (List.mem_cons_self ..)) (l_ok ("!lv", pTo "!lv1") (List.mem_append_left _ (List.mem_append_left _ (List.mem_cons_self ..)))) (p0_no ("!lv1", pOk) (List.mem_cons_of_mem _ (List.mem_cons_self ..))) (l2_no _ (List.mem_of_getElem? (i := 10) rfl)) (l2_ok _ (List.mem_of_getElem? (i := 10) rfl)))⟩) (am (.inr ⟨_, H.glo (H.fa (fm 24 rfl)), (H.er 11 rfl).T.kC, fun k _ => cal_er1 (H.c_InvalidBranches hF) (c_er1 (p0_no ("!lv", pTo "!lv1") (List.mem_cons_self ..)) (l_ok ("!lv", pTo "!lv1") (List.mem_append_left _ (List.mem_append_left _ (List.mem_cons_self ..)))) (p0_no ("!lv1", pOk) (List.mem_cons_of_mem _ (List.mem_cons_self ..))) (l2_no _ (List.mem_of_getElem? (i := 11) rfl)) (l2_ok _ (List.mem_of_getElem? (i := 11) rfl)))⟩) (am (.inr ⟨_, H.glo (H.fa (fm 25 rfl)), (H.er 12 rfl).T.kC, fun k _ => cal_er1 (H.c_InvalidForms hF) (c_er1 (p0_no ("!lv", pTo "!lv1") (List.mem_cons_self ..)) (l_ok ("!lv", pTo "!lv1") (List.mem_append_left _ (List.mem_append_left _ (List.mem_cons_self ..)))) (p0_no ("!lv1", pOk) (List.mem_cons_of_mem _ (List.mem_cons_self ..))) (l2_no _ (List.mem_of_getElem? (i := 12) rfl)) (l2_ok _ (List.mem_of_getElem? (i := 12) rfl)))⟩) (am (.inr ⟨_, H.glo (H.fa (fm 26 rfl)), (H.er 13 rfl).T.kC, fun k _ => cal_er1 (H.c_InvalidRanks hF) (c_er1 (p0_no ("!lv", pTo "!lv1") (List.mem_cons_self ..)) (l_ok ("!lv", pTo "!lv1") (List.mem_append_left _ (List.mem_append_left _ (List.mem_cons_self ..)))) (p0_no ("!lv1", pOk) (List.mem_cons_of_mem _ (List.mem_cons_self ..))) (l2_no _ (List.mem_of_getElem? (i := 13) rfl)) (l2_ok _ (List.mem_of_getElem? (i := 13) rfl)))⟩) (am (.inr ⟨_, H.glo (H.fa (fm 27 rfl)), (H.er 14 rfl).T.kC, fun k _ => cal_er1 (H.c_InvalidWalk hF) (c_er1 (p0_no ("!lv", pTo "!lv1") (List.mem_cons_self ..)) (l_ok ("!lv", pTo "!lv1") (List.mem_append_left _ (List.mem_append_left _ (List.mem_cons_self ..)))) (p0_no ("!lv1", pOk) (List.mem_cons_of_mem _ (List.mem_cons_self ..))) (l2_no _ (List.mem_of_getElem? (i := 14) rfl)) (l2_ok _ (List.mem_of_getElem? (i := 14) rfl)))⟩) (am (.inr ⟨_, H.glo (H.fa (fm 28 rfl)), (H.er 15 rfl).T.kC, fun k _ => cal_er1 (H.c_InvalidChanges hF) (c_er1 (p0_no ("!lv", pTo "!lv1") (List.mem_cons_self ..)) (l_ok ("!lv", pTo "!lv1") (List.mem_append_left _ (List.mem_append_left _ (List.mem_cons_self ..)))) (p0_no ("!lv1", pOk) (List.mem_cons_of_mem _ (List.mem_cons_self ..))) (l2_no _ (List.mem_of_getElem? (i := 15) rfl)) (l2_ok _ (List.mem_of_getElem? (i := 15) rfl)))⟩) (am (.inr ⟨_, H.glo (H.fa (fm 29 rfl)), (H.er 16 rfl).T.kC, fun k _ => cal_er1 (H.c_InvalidWishes hF) (c_er1 (p0_no ("!lv", pTo "!lv1") (List.mem_cons_self ..)) (l_ok ("!lv", pTo "!lv1") (List.mem_append_left _ (List.mem_append_left _ (List.mem_cons_self ..)))) (p0_no ("!lv1", pOk) (List.mem_cons_of_mem _ (List.mem_cons_self ..))) (l2_no _ (List.mem_of_getElem? (i := 16) rfl)) (l2_ok _ (List.mem_of_getElem? (i := 16) rfl)))⟩) (am (.inr ⟨_, H.glo (H.fa (fm 30 rfl)), (H.e0 1 rfl).2, fun k _ => cal_er0 (H.e0 1 rfl).1 (c_er0 (l2_no _ (List.mem_of_getElem? (i := 24) rfl)) (l2_ok _ (List.mem_of_getElem? (i := 24) rfl)))⟩) (am (.inr ⟨_, H.glo (H.fa (fm 31 rfl)), (H.er 17 rfl).T.kC, fun k _ => cal_er1 (H.c_UnknownName hF) (c_er1 (p0_no ("!lv", pTo "!lv1") (List.mem_cons_self ..)) (l_ok ("!lv", pTo "!lv1") (List.mem_append_left _ (List.mem_append_left _ (List.mem_cons_self ..)))) (p0_no ("!lv1", pOk) (List.mem_cons_of_mem _ (List.mem_cons_self ..))) (l2_no _ (List.mem_of_getElem? (i := 17) rfl)) (l2_ok _ (List.mem_of_getElem? (i := 17) rfl)))⟩) (am (.inr ⟨_, H.glo (H.fa (fm 32 rfl)), (H.er 18 rfl).T.kC, fun k _ => cal_er1 (H.c_InUse hF) (c_er1 (p0_no ("!lv", pTo "!lv1") (List.mem_cons_self ..)) (l_ok ("!lv", pTo "!lv1") (List.mem_append_left _ (List.mem_append_left _ (List.mem_cons_self ..)))) (p0_no ("!lv1", pOk) (List.mem_cons_of_mem _ (List.mem_cons_self ..))) (l2_no _ (List.mem_of_getElem? (i := 18) rfl)) (l2_ok _ (List.mem_of_getElem? (i := 18) rfl)))⟩) (am (.inr ⟨_, H.glo (H.fa (fm 33 rfl)), (H.e0 2 rfl).2, fun k _ => cal_er0 (H.e0 2 rfl).1 (c_er0 (l2_no _ (List.mem_of_getElem? (i := 25) rfl)) (l2_ok _ (List.mem_of_getElem? (i := 25) rfl)))⟩) (am (.inr ⟨_, H.glo (H.fa (fm 34 rfl)), (H.er 19 rfl).T.kC, fun k _ => cal_er1 (H.c_NoRow hF) (c_er1 (p0_no ("!lv", pTo "!lv1") (List.mem_cons_self ..)) (l_ok ("!lv", pTo "!lv1") (List.mem_append_left _ (List.mem_append_left _ (List.mem_cons_self ..)))) (p0_no ("!lv1", pOk) (List.mem_cons_of_mem _ (List.mem_cons_self ..))) (l2_no _ (List.mem_of_getElem? (i := 19) rfl)) (l2_ok _ (List.mem_of_getElem? (i := 19) rfl)))⟩) (am (.inr ⟨_, H.glo (H.fa (fm 35 rfl)), (H.er 20 rfl).T.kC, fun k _ => cal_er1 (H.c_TooMany hF) (c_er1 (p0_no ("!lv", pTo "!lv1") (List.mem_cons_self ..)) (l_ok ("!lv", pTo "!lv1") (List.mem_append_left _ (List.mem_append_left _ (List.mem_cons_self ..)))) (p0_no ("!lv1", pOk) (List.mem_cons_of_mem _ (List.mem_cons_self ..))) (l2_no _ (List.mem_of_getElem? (i := 20) rfl)) (l2_ok _ (List.mem_of_getElem? (i := 20) rfl)))⟩) (am (.inr ⟨_, H.glo (H.fa (fm 36 rfl)), (H.er 21 rfl).T.kC, fun k _ => cal_er1 (H.c_Stuck hF) (c_er1 (p0_no ("!lv", pTo "!lv1") (List.mem_cons_self ..)) (l_ok ("!lv", pTo "!lv1") (List.mem_append_left _ (List.mem_append_left _ (List.mem_cons_self ..)))) (p0_no ("!lv1", pOk) (List.mem_cons_of_mem _ (List.mem_cons_self ..))) (l2_no _ (List.mem_of_getElem? (i := 21) rfl)) (l2_ok _ (List.mem_of_getElem? (i := 21) rfl)))⟩) (am (.inr ⟨_, H.glo (H.fa (fm 37 rfl)), (H.e0 3 rfl).2, fun k _ => cal_er0 (H.e0 3 rfl).1 (c_er0 (l2_no _ (List.mem_of_getElem? (i := 26) rfl)) (l2_ok _ (List.mem_of_getElem? (i := 26) rfl)))⟩) (am (.inr ⟨_, H.glo (H.fa (fm 38 rfl)), (H.er 22 rfl).T.kC, fun k _ => cal_er1 (H.c_Broken hF) (c_er1 (p0_no ("!lv", pTo "!lv1") (List.mem_cons_self ..)) (l_ok ("!lv", pTo "!lv1") (List.mem_append_left _ (List.mem_append_left _ (List.mem_cons_self ..)))) (p0_no ("!lv1", pOk) (List.mem_cons_of_mem _ (List.mem_cons_self ..))) (l2_no _ (List.mem_of_getElem? (i := 22) rfl)) (l2_ok _ (List.mem_of_getElem? (i := 22) rfl)))⟩) an)))))))))))))))))))))))))))
  kw := (am (.inr ⟨_, ["given"], rfl, H.glo (H.fa (fm 13 rfl)), (H.er 0 rfl).T.kC, fun k _ => cal_er1K (H.k_InvalidText hF) rfl (c_er1 (p0_no ("!lv", pTo "!lv1") (List.mem_cons_self ..)) (l_ok ("!lv", pTo "!lv1") (List.mem_append_left _ (List.mem_append_left _ (List.mem_cons_self ..)))) (p0_no ("!lv1", pOk) (List.mem_cons_of_mem _ (List.mem_cons_self ..))) (l2_no _ (List.mem_of_getElem? (i := 0) rfl)) (l2_ok _ (List.mem_of_getElem? (i := 0) rfl)))⟩) (am (.inr ⟨_, ["given"], rfl, H.glo (H.fa (fm 14 rfl)), (H.er 1 rfl).T.kC, fun k _ => cal_er1K (H.k_InvalidName hF) rfl (c_er1 (p0_no ("!lv", pTo "!lv1") (List.mem_cons_self ..)) (l_ok ("!lv", pTo "!lv1") (List.mem_append_left _ (List.mem_append_left _ (List.mem_cons_self ..)))) (p0_no ("!lv1", pOk) (List.mem_cons_of_mem _ (List.mem_cons_self ..))) (l2_no _ (List.mem_of_getElem? (i := 1) rfl)) (l2_ok _ (List.mem_of_getElem? (i := 1) rfl)))⟩) (am (.inr ⟨_, ["given"], rfl, H.glo (H.fa (fm 15 rfl)), (H.er 2 rfl).T.kC, fun k _ => cal_er1K (H.k_InvalidIndex hF) rfl (c_er1 (p0_no ("!lv", pTo "!lv1") (List.mem_cons_self ..)) (l_ok ("!lv", pTo "!lv1") (List.mem_append_left _ (List.mem_append_left _ (List.mem_cons_self ..)))) (p0_no ("!lv1", pOk) (List.mem_cons_of_mem _ (List.mem_cons_self ..))) (l2_no _ (List.mem_of_getElem? (i := 2) rfl)) (l2_ok _ (List.mem_of_getElem? (i := 2) rfl)))⟩) (am (.inr ⟨_, ["given"], rfl, H.glo (H.fa (fm 16 rfl)), (H.er 3 rfl).T.kC, fun k _ => cal_er1K (H.k_InvalidPlace hF) rfl (c_er1 (p0_no ("!lv", pTo "!lv1") (List.mem_cons_self ..)) (l_ok ("!lv", pTo "!lv1") (List.mem_append_left _ (List.mem_append_left _ (List.mem_cons_self ..)))) (p0_no ("!lv1", pOk) (List.mem_cons_of_mem _ (List.mem_cons_self ..))) (l2_no _ (List.mem_of_getElem? (i := 3) rfl)) (l2_ok _ (List.mem_of_getElem? (i := 3) rfl)))⟩) (am (.inr ⟨_, ["given"], rfl, H.glo (H.fa (fm 17 rfl)), (H.er 4 rfl).T.kC, fun k _ => cal_er1K (H.k_InvalidPoint hF) rfl (c_er1 (p0_no ("!lv", pTo "!lv1") (List.mem_cons_self ..)) (l_ok ("!lv", pTo "!lv1") (List.mem_append_left _ (List.mem_append_left _ (List.mem_cons_self ..)))) (p0_no ("!lv1", pOk) (List.mem_cons_of_mem _ (List.mem_cons_self ..))) (l2_no _ (List.mem_of_getElem? (i := 4) rfl)) (l2_ok _ (List.mem_of_getElem? (i := 4) rfl)))⟩) (am (.inr ⟨_, ["given"], rfl, H.glo (H.fa (fm 18 rfl)), (H.er 5 rfl).T.kC, fun k _ => cal_er1K (H.k_InvalidForm hF) rfl (c_er1 (p0_no ("!lv", pTo "!lv1") (List.mem_cons_self ..)) (l_ok ("!lv", pTo "!lv1") (List.mem_append_left _ (List.mem_append_left _ (List.mem_cons_self ..)))) (p0_no ("!lv1", pOk) (List.mem_cons_of_mem _ (List.mem_cons_self ..))) (l2_no _ (List.mem_of_getElem? (i := 5) rfl)) (l2_ok _ (List.mem_of_getElem? (i := 5) rfl)))⟩) (am (.inr ⟨_, ["given"], rfl, H.glo (H.fa (fm 19 rfl)), (H.er 6 rfl).T.kC, fun k _ => cal_er1K (H.k_InvalidRank hF) rfl (c_er1 (p0_no ("!lv", pTo "!lv1") (List.mem_cons_self ..)) (l_ok ("!lv", pTo "!lv1") (List.mem_append_left _ (List.mem_append_left _ (List.mem_cons_self ..)))) (p0_no ("!lv1", pOk) (List.mem_cons_of_mem _ (List.mem_cons_self ..))) (l2_no _ (List.mem_of_getElem? (i := 6) rfl)) (l2_ok _ (List.mem_of_getElem? (i := 6) rfl)))⟩) (am (.inr ⟨_, ["given"], rfl, H.glo (H.fa (fm 20 rfl)), (H.er 7 rfl).T.kC, fun k _ => cal_er1K (H.k_InvalidWish hF) rfl (c_er1 (p0_no ("!lv", pTo "!lv1") (List.mem_cons_self ..)) (l_ok ("!lv", pTo "!lv1") (List.mem_append_left _ (List.mem_append_left _ (List.mem_cons_self ..)))) (p0_no ("!lv1", pOk) (List.mem_cons_of_mem _ (List.mem_cons_self ..))) (l2_no _ (List.mem_of_getElem? (i := 7) rfl)) (l2_ok _ (List.mem_of_getElem? (i := 7) rfl)))⟩) (am (.inr ⟨_, ["given"], rfl, H.glo (H.fa (fm 21 rfl)), (H.er 8 rfl).T.kC, fun k _ => cal_er1K (H.k_NotProgram hF) rfl (c_er1 (p0_no ("!lv", pTo "!lv1") (List.mem_cons_self ..)) (l_ok ("!lv", pTo "!lv1") (List.mem_append_left _ (List.mem_append_left _ (List.mem_cons_self ..)))) (p0_no ("!lv1", pOk) (List.mem_cons_of_mem _ (List.mem_cons_self ..))) (l2_no _ (List.mem_of_getElem? (i := 8) rfl)) (l2_ok _ (List.mem_of_getElem? (i := 8) rfl)))⟩) (am (.inr ⟨_, ["index"], rfl, H.glo (H.fa (fm 22 rfl)), (H.er 9 rfl).T.kC, fun k _ => cal_er1K (H.k_InvalidNames hF) rfl (c_er1 (p0_no ("!lv", pTo "!lv1") (List.mem_cons_self ..)) (l_ok ("!lv", pTo "!lv1") (List.mem_append_left _ (List.mem_append_left _ (List.mem_cons_self ..)))) (p0_no ("!lv1", pOk) (List.mem_cons_of_mem _ (List.mem_cons_self ..))) (l2_no _ (List.mem_of_getElem? (i := 9) rfl)) (l2_ok _ (List.mem_of_getElem? (i := 9) rfl)))⟩) (am (.inr ⟨_, ["index"], rfl, H.glo (H.fa (fm 23 rfl)), (H.er 10 rfl).T.kC, fun k _ => cal_er1K (H.k_InvalidSayings hF) rfl (c_er1 (p0_no ("!lv", pTo "!lv1") (List.mem_cons_self ..)) (l_ok ("!lv", pTo "!lv1") (List.mem_append_left _ (List.mem_append_left _ (List.mem_cons_self ..)))) (p0_no ("!lv1", pOk) (List.mem_cons_of_mem _ (List.mem_cons_self ..))) (l2_no _ (List.mem_of_getElem? (i := 10) rfl)) (l2_ok _ (List.mem_of_getElem? (i := 10) rfl)))⟩) (am (.inr ⟨_, ["index"], rfl, H.glo (H.fa (fm 24 rfl)), (H.er 11 rfl).T.kC, fun k _ => cal_er1K (H.k_InvalidBranches hF) rfl (c_er1 (p0_no ("!lv", pTo "!lv1") (List.mem_cons_self ..)) (l_ok ("!lv", pTo "!lv1") (List.mem_append_left _ (List.mem_append_left _ (List.mem_cons_self ..)))) (p0_no ("!lv1", pOk) (List.mem_cons_of_mem _ (List.mem_cons_self ..))) (l2_no _ (List.mem_of_getElem? (i := 11) rfl)) (l2_ok _ (List.mem_of_getElem? (i := 11) rfl)))⟩) (am (.inr ⟨_, ["index"], rfl, H.glo (H.fa (fm 25 rfl)), (H.er 12 rfl).T.kC, fun k _ => cal_er1K (H.k_InvalidForms hF) rfl (c_er1 (p0_no ("!lv", pTo "!lv1") (List.mem_cons_self ..)) (l_ok ("!lv", pTo "!lv1") (List.mem_append_left _ (List.mem_append_left _ (List.mem_cons_self ..)))) (p0_no ("!lv1", pOk) (List.mem_cons_of_mem _ (List.mem_cons_self ..))) (l2_no _ (List.mem_of_getElem? (i := 12) rfl)) (l2_ok _ (List.mem_of_getElem? (i := 12) rfl)))⟩) (am (.inr ⟨_, ["index"], rfl, H.glo (H.fa (fm 26 rfl)), (H.er 13 rfl).T.kC, fun k _ => cal_er1K (H.k_InvalidRanks hF) rfl (c_er1 (p0_no ("!lv", pTo "!lv1") (List.mem_cons_self ..)) (l_ok ("!lv", pTo "!lv1") (List.mem_append_left _ (List.mem_append_left _ (List.mem_cons_self ..)))) (p0_no ("!lv1", pOk) (List.mem_cons_of_mem _ (List.mem_cons_self ..))) (l2_no _ (List.mem_of_getElem? (i := 13) rfl)) (l2_ok _ (List.mem_of_getElem? (i := 13) rfl)))⟩) (am (.inr ⟨_, ["index"], rfl, H.glo (H.fa (fm 27 rfl)), (H.er 14 rfl).T.kC, fun k _ => cal_er1K (H.k_InvalidWalk hF) rfl (c_er1 (p0_no ("!lv", pTo "!lv1") (List.mem_cons_self ..)) (l_ok ("!lv", pTo "!lv1") (List.mem_append_left _ (List.mem_append_left _ (List.mem_cons_self ..)))) (p0_no ("!lv1", pOk) (List.mem_cons_of_mem _ (List.mem_cons_self ..))) (l2_no _ (List.mem_of_getElem? (i := 14) rfl)) (l2_ok _ (List.mem_of_getElem? (i := 14) rfl)))⟩) (am (.inr ⟨_, ["index"], rfl, H.glo (H.fa (fm 28 rfl)), (H.er 15 rfl).T.kC, fun k _ => cal_er1K (H.k_InvalidChanges hF) rfl (c_er1 (p0_no ("!lv", pTo "!lv1") (List.mem_cons_self ..)) (l_ok ("!lv", pTo "!lv1") (List.mem_append_left _ (List.mem_append_left _ (List.mem_cons_self ..)))) (p0_no ("!lv1", pOk) (List.mem_cons_of_mem _ (List.mem_cons_self ..))) (l2_no _ (List.mem_of_getElem? (i := 15) rfl)) (l2_ok _ (List.mem_of_getElem? (i := 15) rfl)))⟩) (am (.inr ⟨_, ["index"], rfl, H.glo (H.fa (fm 29 rfl)), (H.er 16 rfl).T.kC, fun k _ => cal_er1K (H.k_InvalidWishes hF) rfl (c_er1 (p0_no ("!lv", pTo "!lv1") (List.mem_cons_self ..)) (l_ok ("!lv", pTo "!lv1") (List.mem_append_left _ (List.mem_append_left _ (List.mem_cons_self ..)))) (p0_no ("!lv1", pOk) (List.mem_cons_of_mem _ (List.mem_cons_self ..))) (l2_no _ (List.mem_of_getElem? (i := 16) rfl)) (l2_ok _ (List.mem_of_getElem? (i := 16) rfl)))⟩) (am (.inr ⟨_, ["given"], rfl, H.glo (H.fa (fm 31 rfl)), (H.er 17 rfl).T.kC, fun k _ => cal_er1K (H.k_UnknownName hF) rfl (c_er1 (p0_no ("!lv", pTo "!lv1") (List.mem_cons_self ..)) (l_ok ("!lv", pTo "!lv1") (List.mem_append_left _ (List.mem_append_left _ (List.mem_cons_self ..)))) (p0_no ("!lv1", pOk) (List.mem_cons_of_mem _ (List.mem_cons_self ..))) (l2_no _ (List.mem_of_getElem? (i := 17) rfl)) (l2_ok _ (List.mem_of_getElem? (i := 17) rfl)))⟩) (am (.inr ⟨_, ["index"], rfl, H.glo (H.fa (fm 32 rfl)), (H.er 18 rfl).T.kC, fun k _ => cal_er1K (H.k_InUse hF) rfl (c_er1 (p0_no ("!lv", pTo "!lv1") (List.mem_cons_self ..)) (l_ok ("!lv", pTo "!lv1") (List.mem_append_left _ (List.mem_append_left _ (List.mem_cons_self ..)))) (p0_no ("!lv1", pOk) (List.mem_cons_of_mem _ (List.mem_cons_self ..))) (l2_no _ (List.mem_of_getElem? (i := 18) rfl)) (l2_ok _ (List.mem_of_getElem? (i := 18) rfl)))⟩) (am (.inr ⟨_, ["index"], rfl, H.glo (H.fa (fm 36 rfl)), (H.er 21 rfl).T.kC, fun k _ => cal_er1K (H.k_Stuck hF) rfl (c_er1 (p0_no ("!lv", pTo "!lv1") (List.mem_cons_self ..)) (l_ok ("!lv", pTo "!lv1") (List.mem_append_left _ (List.mem_append_left _ (List.mem_cons_self ..)))) (p0_no ("!lv1", pOk) (List.mem_cons_of_mem _ (List.mem_cons_self ..))) (l2_no _ (List.mem_of_getElem? (i := 21) rfl)) (l2_ok _ (List.mem_of_getElem? (i := 21) rfl)))⟩) (am (.inr ⟨_, ["given"], rfl, H.glo (H.fa (fm 34 rfl)), (H.er 19 rfl).T.kC, fun k _ => cal_er1K (H.k_NoRow hF) rfl (c_er1 (p0_no ("!lv", pTo "!lv1") (List.mem_cons_self ..)) (l_ok ("!lv", pTo "!lv1") (List.mem_append_left _ (List.mem_append_left _ (List.mem_cons_self ..)))) (p0_no ("!lv1", pOk) (List.mem_cons_of_mem _ (List.mem_cons_self ..))) (l2_no _ (List.mem_of_getElem? (i := 19) rfl)) (l2_ok _ (List.mem_of_getElem? (i := 19) rfl)))⟩) (am (.inr ⟨_, ["given"], rfl, H.glo (H.fa (fm 35 rfl)), (H.er 20 rfl).T.kC, fun k _ => cal_er1K (H.k_TooMany hF) rfl (c_er1 (p0_no ("!lv", pTo "!lv1") (List.mem_cons_self ..)) (l_ok ("!lv", pTo "!lv1") (List.mem_append_left _ (List.mem_append_left _ (List.mem_cons_self ..)))) (p0_no ("!lv1", pOk) (List.mem_cons_of_mem _ (List.mem_cons_self ..))) (l2_no _ (List.mem_of_getElem? (i := 20) rfl)) (l2_ok _ (List.mem_of_getElem? (i := 20) rfl)))⟩) (am (.inr ⟨_, ["index"], rfl, H.glo (H.fa (fm 38 rfl)), (H.er 22 rfl).T.kC, fun k _ => cal_er1K (H.k_Broken hF) rfl (c_er1 (p0_no ("!lv", pTo "!lv1") (List.mem_cons_self ..)) (l_ok ("!lv", pTo "!lv1") (List.mem_append_left _ (List.mem_append_left _ (List.mem_cons_self ..)))) (p0_no ("!lv1", pOk) (List.mem_cons_of_mem _ (List.mem_cons_self ..))) (l2_no _ (List.mem_of_getElem? (i := 22) rfl)) (l2_ok _ (List.mem_of_getElem? (i := 22) rfl)))⟩) an)))))))))))))))))))))))
  mcl := rfl
  mkw := rfl
  att := .inr fun f key h => H.atts hF (f, key) (lookup_mem h)
  exs := H.exs hF
  no := no_ok
  no2 := p0_no
  lp := fun e he => .inl (l_ok e (List.mem_append_left _ (List.mem_append_left _ he)))
  xt0 := trivial
  xts := fun _ _ _ _ => trivial
  fs := fun e he => fsP he
  lm := l_mono
theorem Hd.lw : Lw ⟨P, w, mg, base, true, LQ⟩ (cf K) sub0 gP gL fs l esL (fun e => fd e.d) e__law_begun e__law_cast (fd e__law_begun.d) (fd e__law_cast.d) false "_law_begun" "_law_cast" "_law_pail" "_law_many" where
  ct := H.ctL
  err := rfl
  ios := rfl
  lmd := (am (.inr (c__law_any_of.ok (hF _ (dm 0 rfl)))) (am (.inr (c__law_thing.ok (hF _ (dm 1 rfl)))) (am (.inr (c__law_placed.ok (hF _ (dm 2 rfl)))) (am (.inr (c__law_named.ok (hF _ (dm 3 rfl)))) (am (.inr (c__law_flags.ok (hF _ (dm 4 rfl)))) (am (.inr (c__law_bases.ok (hF _ (dm 5 rfl)))) (am (.inr (c__law_held.ok (hF _ (dm 6 rfl)))) (am (.inr (c__law_some_right.ok (hF _ (dm 7 rfl)))) (am (.inr (c__law_right.ok (hF _ (dm 8 rfl)))) (am (.inr (c_law.ok (hF _ (dm 9 rfl)))) an))))))))))
  lam := fun k kn => LamOk.nil rfl
  bd := (am (c__law_any_of.bd (hF _ (dm 0 rfl))) (am (c__law_thing.bd (hF _ (dm 1 rfl))) (am (c__law_placed.bd (hF _ (dm 2 rfl))) (am (c__law_named.bd (hF _ (dm 3 rfl))) (am (c__law_flags.bd (hF _ (dm 4 rfl))) (am (c__law_bases.bd (hF _ (dm 5 rfl))) (am (c__law_held.bd (hF _ (dm 6 rfl))) (am (c__law_some_right.bd (hF _ (dm 7 rfl))) (am (c__law_right.bd (hF _ (dm 8 rfl))) (am (c_law.bd (hF _ (dm 9 rfl))) an))))))))))
  fl := fun e he => fsL he
  okB := c__law_begun.ok (hF _ (dm 10 rfl))
  bdB := c__law_begun.bd (hF _ (dm 10 rfl))
  psB := rfl
  nmB := rfl
  noB := noB
  lB := lB
  beg := begun_ok
  okC := c__law_cast.ok (hF _ (dm 11 rfl))
  bdC := c__law_cast.bd (hF _ (dm 11 rfl))
  psC := rfl
  nmC := rfl
  noC := noC
  lC := lC
  cst := cast_w
  fn := (am (.inl (List.mem_of_getElem? (i := 0) rfl)) (am (.inl (List.mem_of_getElem? (i := 1) rfl)) (am (.inl (List.mem_of_getElem? (i := 2) rfl)) (am (.inl (List.mem_of_getElem? (i := 3) rfl)) (am (.inl (List.mem_of_getElem? (i := 4) rfl)) (am (.inl (List.mem_of_getElem? (i := 5) rfl)) (am (.inl (List.mem_of_getElem? (i := 6) rfl)) (am (.inl (List.mem_of_getElem? (i := 7) rfl)) (am (.inl (List.mem_of_getElem? (i := 8) rfl)) (am (.inl (List.mem_of_getElem? (i := 9) rfl)) (am (.inl (List.mem_of_getElem? (i := 10) rfl)) (am (.inl (List.mem_of_getElem? (i := 11) rfl)) (am (.inl (List.mem_of_getElem? (i := 12) rfl)) (am (.inl (List.mem_of_getElem? (i := 13) rfl)) (am (.inl (List.mem_of_getElem? (i := 14) rfl)) (am (.inl (List.mem_of_getElem? (i := 15) rfl)) (am (.inl (List.mem_of_getElem? (i := 16) rfl)) (am (.inl (List.mem_of_getElem? (i := 17) rfl)) (am (.inl (List.mem_of_getElem? (i := 18) rfl)) (am (.inl (List.mem_of_getElem? (i := 19) rfl)) (am (.inl (List.mem_of_getElem? (i := 20) rfl)) (am (.inl (List.mem_of_getElem? (i := 21) rfl)) (am (.inl (List.mem_of_getElem? (i := 22) rfl)) (am (.inl (List.mem_of_getElem? (i := 23) rfl)) (am (.inl (List.mem_of_getElem? (i := 24) rfl)) (am (.inl (List.mem_of_getElem? (i := 25) rfl)) (am (.inl (List.mem_of_getElem? (i := 26) rfl)) (am (.inr ⟨e__law_begun, (List.mem_cons_self ..), rfl, H.glo (H.fa (fm 0 rfl))⟩) (am (.inr ⟨e__law_cast, (List.mem_cons_of_mem _ (List.mem_cons_self ..)), rfl, H.glo (H.fa (fm 1 rfl))⟩) (am (.inr ⟨e__law_any_of, (List.mem_cons_of_mem _ (List.mem_cons_of_mem _ (lm 0 rfl))), rfl, H.glo (H.fa (fm 2 rfl))⟩) (am (.inr ⟨e__law_thing, (List.mem_cons_of_mem _ (List.mem_cons_of_mem _ (lm 1 rfl))), rfl, H.glo (H.fa (fm 3 rfl))⟩) (am (.inr ⟨e__law_placed, (List.mem_cons_of_mem _ (List.mem_cons_of_mem _ (lm 2 rfl))), rfl, H.glo (H.fa (fm 4 rfl))⟩) (am (.inr ⟨e__law_named, (List.mem_cons_of_mem _ (List.mem_cons_of_mem _ (lm 3 rfl))), rfl, H.glo (H.fa (fm 5 rfl))⟩) (am (.inr ⟨e__law_flags, (List.mem_cons_of_mem _ (List.mem_cons_of_mem _ (lm 4 rfl))), rfl, H.glo (H.fa (fm 6 rfl))⟩) (am (.inr ⟨e__law_bases, (List.mem_cons_of_mem _ (List.mem_cons_of_mem _ (lm 5 rfl))), rfl, H.glo (H.fa (fm 7 rfl))⟩) (am (.inr ⟨e__law_held, (List.mem_cons_of_mem _ (List.mem_cons_of_mem _ (lm 6 rfl))), rfl, H.glo (H.fa (fm 8 rfl))⟩) (am (.inr ⟨e__law_some_right, (List.mem_cons_of_mem _ (List.mem_cons_of_mem _ (lm 7 rfl))), rfl, H.glo (H.fa (fm 9 rfl))⟩) (am (.inr ⟨e__law_right, (List.mem_cons_of_mem _ (List.mem_cons_of_mem _ (lm 8 rfl))), rfl, H.glo (H.fa (fm 10 rfl))⟩) (am (.inr ⟨e_law, (List.mem_cons_of_mem _ (List.mem_cons_of_mem _ (lm 9 rfl))), rfl, H.glo (H.fa (fm 11 rfl))⟩) an)))))))))))))))))))))))))))))))))))))))
  kw := fun e he => he
  mcl := rfl
  mkw := rfl
  att := rfl
  exs := fun c h => h
end
theorem tblH {K : PySem.W.Frag} : ∀ q ∈ (cf K).T, ∃ t ∈ tfs.map (fun d => d.tab K), q.1 = t.2 := fun q hq => by
  obtain ⟨d, hd, rfl⟩ := List.mem_map.mp (show q ∈ tblOf tfs K from hq)
  exact ⟨_, List.mem_map.mpr ⟨d, hd, rfl⟩, rfl⟩
theorem tabH {K : PySem.W.Frag} {p : Addr × Addr → Prop} (h : ∀ d ∈ tfs, p (d.tab K)) : ∀ t ∈ tfs.map (fun d => d.tab K), p t := fun t ht => by
  obtain ⟨d, hd, rfl⟩ := List.mem_map.mp ht
  exact h d hd
theorem fin {P : Program} {w : World} {K : PySem.W.Frag} {mg mb : Str → Option Value} {fa a : Addr} {s1 : Shared} {vs : List Value} {ns : List Int} {k : Nat} (H : Hd K s1.heap mg) (hfa : mg ("law" : Str) = some (.ref fa)) (bn : s1.heap.Ns builtinsNs mb) (bb : ∀ x : Str, x ≠ "__name__" → mb x = bootBuiltins x) (lim : s1.heap.NoLimit) (g0 : s1.gens = #[])
    (ha : s1.heap.get? a = some { cls := .type "list", data := .seq vs.toArray }) (hi : IntsAre vs ns) (hl : ns.length ≤ sizeLine) (room : Room k callerA) (bmn : ∃ (bm : Addr) (ob : Obj), mg "__builtins__" = some (.ref bm) ∧ bm ≠ builtinsNs ∧ s1.heap.get? bm = some ob ∧ ob.cls = .type "module" ∧ ob.dict = some builtinsNs ∧ ob.data = .plain) (hC : ∀ Q : Rv → Prop, Q (.v (.bl true)) → CW (cf K) fs l k "law" [.lst (ns.map D.int)] Q E0) :
    codeAny (model P w) callerA (.call (.ref fa) ⟨[.ref a], []⟩) (fun r s' => r = .ok (.ret (.bool true)) ∧ OldK s1.heap s'.heap ∧ s'.os = s1.os ∧ AllBare s'.gens) s1 := by
  obtain ⟨fd, hF⟩ := pick_fd H.c.n.defs (dm 9 rfl)
  have e := hfa.symm.trans (H.glo (H.fa (fm 11 rfl)))
  cases e
  exact law_G (G := cf K) (C := CW (cf K) fs l k) (k := k) (fd := fd e_law.d) (x := "_law_script") (nm := "law") (lq := LQ) (cs := tfs.map fun d => d.tab K) tblH H.X H.N bn bb lim g0 (fun t ht => tabH (p := fun t => s1.heap.get? t.2 = some { cls := .none, data := .fields #[] }) (fun d hd => H.c.empty d hd) t ht) (fun t ht => tabH (p := fun t => K.lookup t.2 = none) (fun d hd => H.c.out d hd) t ht) (fun t ht => tabH (p := fun t => PySem.W.CodeHd s1.heap t.1 t.2) (fun d hd => PySem.W.codeHd_of_K H.X (H.c.hd d hd)) t ht) (fun _ => bmn) ha hi hl room (fun base _ _ hTB => ((H.lw hF (base := base)).all (H.pm hF (base := base)).pq k).defs e_law (lm 9 rfl)) (fun s u => Df.bindsA (hF _ (dm 9 rfl)) c_law.pl c_law.nd s [u] rfl) hC (hmC K k)
end K01
namespace K01
open PySem L2 PyProof.Rows En
/-! LEVEL 7 AFTER K01g -/
theorem kI {a b : Str} {P : Prim} (e : a = b) (h : fs.lookup a = none ∧ l.lookup a = some P) : fs.lookup b = none ∧ l.lookup b = some P := e ▸ h
theorem ecL : EcL fs l where
  er1 := (am ⟨l2_no _ (List.mem_of_getElem? (i := 0) rfl), l2_ok _ (List.mem_of_getElem? (i := 0) rfl)⟩ (am ⟨l2_no _ (List.mem_of_getElem? (i := 1) rfl), l2_ok _ (List.mem_of_getElem? (i := 1) rfl)⟩ (am ⟨l2_no _ (List.mem_of_getElem? (i := 2) rfl), l2_ok _ (List.mem_of_getElem? (i := 2) rfl)⟩ (am ⟨l2_no _ (List.mem_of_getElem? (i := 3) rfl), l2_ok _ (List.mem_of_getElem? (i := 3) rfl)⟩ (am ⟨l2_no _ (List.mem_of_getElem? (i := 4) rfl), l2_ok _ (List.mem_of_getElem? (i := 4) rfl)⟩ (am ⟨l2_no _ (List.mem_of_getElem? (i := 5) rfl), l2_ok _ (List.mem_of_getElem? (i := 5) rfl)⟩ (am ⟨l2_no _ (List.mem_of_getElem? (i := 6) rfl), l2_ok _ (List.mem_of_getElem? (i := 6) rfl)⟩ (am ⟨l2_no _ (List.mem_of_getElem? (i := 7) rfl), l2_ok _ (List.mem_of_getElem? (i := 7) rfl)⟩ (am ⟨l2_no _ (List.mem_of_getElem? (i := 8) rfl), l2_ok _ (List.mem_of_getElem? (i := 8) rfl)⟩ (am ⟨l2_no _ (List.mem_of_getElem? (i := 9) rfl), l2_ok _ (List.mem_of_getElem? (i := 9) rfl)⟩ (am ⟨l2_no _ (List.mem_of_getElem? (i := 10) rfl), l2_ok _ (List.mem_of_getElem? (i := 10) rfl)⟩ (am ⟨l2_no _ (List.mem_of_getElem? (i := 11) rfl), l2_ok _ (List.mem_of_getElem? (i := 11) rfl)⟩ (am ⟨l2_no _ (List.mem_of_getElem? (i := 12) rfl), l2_ok _ (List.mem_of_getElem? (i := 12) rfl)⟩ (am ⟨l2_no _ (List.mem_of_getElem? (i := 13) rfl), l2_ok _ (List.mem_of_getElem? (i := 13) rfl)⟩ (am ⟨l2_no _ (List.mem_of_getElem? (i := 14) rfl), l2_ok _ (List.mem_of_getElem? (i := 14) rfl)⟩ (am ⟨l2_no _ (List.mem_of_getElem? (i := 15) rfl), l2_ok _ (List.mem_of_getElem? (i := 15) rfl)⟩ (am ⟨l2_no _ (List.mem_of_getElem? (i := 16) rfl), l2_ok _ (List.mem_of_getElem? (i := 16) rfl)⟩ (am ⟨l2_no _ (List.mem_of_getElem? (i := 17) rfl), l2_ok _ (List.mem_of_getElem? (i := 17) rfl)⟩ (am ⟨l2_no _ (List.mem_of_getElem? (i := 18) rfl), l2_ok _ (List.mem_of_getElem? (i := 18) rfl)⟩ (am ⟨l2_no _ (List.mem_of_getElem? (i := 19) rfl), l2_ok _ (List.mem_of_getElem? (i := 19) rfl)⟩ (am ⟨l2_no _ (List.mem_of_getElem? (i := 20) rfl), l2_ok _ (List.mem_of_getElem? (i := 20) rfl)⟩ (am ⟨l2_no _ (List.mem_of_getElem? (i := 21) rfl), l2_ok _ (List.mem_of_getElem? (i := 21) rfl)⟩ (am ⟨l2_no _ (List.mem_of_getElem? (i := 22) rfl), l2_ok _ (List.mem_of_getElem? (i := 22) rfl)⟩ an)))))))))))))))))))))))
  er0 := (am ⟨l2_no _ (List.mem_of_getElem? (i := 23) rfl), l2_ok _ (List.mem_of_getElem? (i := 23) rfl)⟩ (am ⟨l2_no _ (List.mem_of_getElem? (i := 24) rfl), l2_ok _ (List.mem_of_getElem? (i := 24) rfl)⟩ (am ⟨l2_no _ (List.mem_of_getElem? (i := 25) rfl), l2_ok _ (List.mem_of_getElem? (i := 25) rfl)⟩ (am ⟨l2_no _ (List.mem_of_getElem? (i := 26) rfl), l2_ok _ (List.mem_of_getElem? (i := 26) rfl)⟩ an))))
  is := (am (kI (show isErN "WrongValue" = Str.ofString "is:WrongValue" from by decide +kernel) ⟨l2_no _ (List.mem_of_getElem? (i := 27) rfl), l2_ok _ (List.mem_of_getElem? (i := 27) rfl)⟩) (am (kI (show isErN "InvalidText" = Str.ofString "is:InvalidText" from by decide +kernel) ⟨l2_no _ (List.mem_of_getElem? (i := 28) rfl), l2_ok _ (List.mem_of_getElem? (i := 28) rfl)⟩) (am (kI (show isErN "InvalidName" = Str.ofString "is:InvalidName" from by decide +kernel) ⟨l2_no _ (List.mem_of_getElem? (i := 29) rfl), l2_ok _ (List.mem_of_getElem? (i := 29) rfl)⟩) (am (kI (show isErN "InvalidIndex" = Str.ofString "is:InvalidIndex" from by decide +kernel) ⟨l2_no _ (List.mem_of_getElem? (i := 30) rfl), l2_ok _ (List.mem_of_getElem? (i := 30) rfl)⟩) (am (kI (show isErN "InvalidPlace" = Str.ofString "is:InvalidPlace" from by decide +kernel) ⟨l2_no _ (List.mem_of_getElem? (i := 31) rfl), l2_ok _ (List.mem_of_getElem? (i := 31) rfl)⟩) (am (kI (show isErN "InvalidPoint" = Str.ofString "is:InvalidPoint" from by decide +kernel) ⟨l2_no _ (List.mem_of_getElem? (i := 32) rfl), l2_ok _ (List.mem_of_getElem? (i := 32) rfl)⟩) (am (kI (show isErN "InvalidForm" = Str.ofString "is:InvalidForm" from by decide +kernel) ⟨l2_no _ (List.mem_of_getElem? (i := 33) rfl), l2_ok _ (List.mem_of_getElem? (i := 33) rfl)⟩) (am (kI (show isErN "InvalidRank" = Str.ofString "is:InvalidRank" from by decide +kernel) ⟨l2_no _ (List.mem_of_getElem? (i := 34) rfl), l2_ok _ (List.mem_of_getElem? (i := 34) rfl)⟩) (am (kI (show isErN "InvalidWish" = Str.ofString "is:InvalidWish" from by decide +kernel) ⟨l2_no _ (List.mem_of_getElem? (i := 35) rfl), l2_ok _ (List.mem_of_getElem? (i := 35) rfl)⟩) (am (kI (show isErN "NotProgram" = Str.ofString "is:NotProgram" from by decide +kernel) ⟨l2_no _ (List.mem_of_getElem? (i := 36) rfl), l2_ok _ (List.mem_of_getElem? (i := 36) rfl)⟩) (am (kI (show isErN "InvalidNames" = Str.ofString "is:InvalidNames" from by decide +kernel) ⟨l2_no _ (List.mem_of_getElem? (i := 37) rfl), l2_ok _ (List.mem_of_getElem? (i := 37) rfl)⟩) (am (kI (show isErN "InvalidSayings" = Str.ofString "is:InvalidSayings" from by decide +kernel) ⟨l2_no _ (List.mem_of_getElem? (i := 38) rfl), l2_ok _ (List.mem_of_getElem? (i := 38) rfl)⟩) (am (kI (show isErN "InvalidBranches" = Str.ofString "is:InvalidBranches" from by decide +kernel) ⟨l2_no _ (List.mem_of_getElem? (i := 39) rfl), l2_ok _ (List.mem_of_getElem? (i := 39) rfl)⟩) (am (kI (show isErN "InvalidForms" = Str.ofString "is:InvalidForms" from by decide +kernel) ⟨l2_no _ (List.mem_of_getElem? (i := 40) rfl), l2_ok _ (List.mem_of_getElem? (i := 40) rfl)⟩) (am (kI (show isErN "InvalidRanks" = Str.ofString "is:InvalidRanks" from by decide +kernel) ⟨l2_no _ (List.mem_of_getElem? (i := 41) rfl), l2_ok _ (List.mem_of_getElem? (i := 41) rfl)⟩) (am (kI (show isErN "InvalidWalk" = Str.ofString "is:InvalidWalk" from by decide +kernel) ⟨l2_no _ (List.mem_of_getElem? (i := 42) rfl), l2_ok _ (List.mem_of_getElem? (i := 42) rfl)⟩) (am (kI (show isErN "InvalidChanges" = Str.ofString "is:InvalidChanges" from by decide +kernel) ⟨l2_no _ (List.mem_of_getElem? (i := 43) rfl), l2_ok _ (List.mem_of_getElem? (i := 43) rfl)⟩) (am (kI (show isErN "InvalidWishes" = Str.ofString "is:InvalidWishes" from by decide +kernel) ⟨l2_no _ (List.mem_of_getElem? (i := 44) rfl), l2_ok _ (List.mem_of_getElem? (i := 44) rfl)⟩) (am (kI (show isErN "WrongName" = Str.ofString "is:WrongName" from by decide +kernel) ⟨l2_no _ (List.mem_of_getElem? (i := 45) rfl), l2_ok _ (List.mem_of_getElem? (i := 45) rfl)⟩) (am (kI (show isErN "UnknownName" = Str.ofString "is:UnknownName" from by decide +kernel) ⟨l2_no _ (List.mem_of_getElem? (i := 46) rfl), l2_ok _ (List.mem_of_getElem? (i := 46) rfl)⟩) (am (kI (show isErN "InUse" = Str.ofString "is:InUse" from by decide +kernel) ⟨l2_no _ (List.mem_of_getElem? (i := 47) rfl), l2_ok _ (List.mem_of_getElem? (i := 47) rfl)⟩) (am (kI (show isErN "NotPossible" = Str.ofString "is:NotPossible" from by decide +kernel) ⟨l2_no _ (List.mem_of_getElem? (i := 48) rfl), l2_ok _ (List.mem_of_getElem? (i := 48) rfl)⟩) (am (kI (show isErN "NoRow" = Str.ofString "is:NoRow" from by decide +kernel) ⟨l2_no _ (List.mem_of_getElem? (i := 49) rfl), l2_ok _ (List.mem_of_getElem? (i := 49) rfl)⟩) (am (kI (show isErN "TooMany" = Str.ofString "is:TooMany" from by decide +kernel) ⟨l2_no _ (List.mem_of_getElem? (i := 50) rfl), l2_ok _ (List.mem_of_getElem? (i := 50) rfl)⟩) (am (kI (show isErN "Stuck" = Str.ofString "is:Stuck" from by decide +kernel) ⟨l2_no _ (List.mem_of_getElem? (i := 51) rfl), l2_ok _ (List.mem_of_getElem? (i := 51) rfl)⟩) (am (kI (show isErN "NothingToUndo" = Str.ofString "is:NothingToUndo" from by decide +kernel) ⟨l2_no _ (List.mem_of_getElem? (i := 52) rfl), l2_ok _ (List.mem_of_getElem? (i := 52) rfl)⟩) (am (kI (show isErN "Broken" = Str.ofString "is:Broken" from by decide +kernel) ⟨l2_no _ (List.mem_of_getElem? (i := 53) rfl), l2_ok _ (List.mem_of_getElem? (i := 53) rfl)⟩) (am (kI (show isErN "ValueError" = Str.ofString "is:ValueError" from by decide +kernel) ⟨l2_no _ (List.mem_of_getElem? (i := 54) rfl), l2_ok _ (List.mem_of_getElem? (i := 54) rfl)⟩) (am (kI (show isErN "LookupError" = Str.ofString "is:LookupError" from by decide +kernel) ⟨l2_no _ (List.mem_of_getElem? (i := 55) rfl), l2_ok _ (List.mem_of_getElem? (i := 55) rfl)⟩) (am (kI (show isErN "ArithmeticError" = Str.ofString "is:ArithmeticError" from by decide +kernel) ⟨l2_no _ (List.mem_of_getElem? (i := 56) rfl), l2_ok _ (List.mem_of_getElem? (i := 56) rfl)⟩) an))))))))))))))))))))))))))))))
  gv := ⟨l2_no _ (List.mem_of_getElem? (i := 57) rfl), l2_ok _ (List.mem_of_getElem? (i := 57) rfl)⟩
  ix := ⟨l2_no _ (List.mem_of_getElem? (i := 58) rfl), l2_ok _ (List.mem_of_getElem? (i := 58) rfl)⟩
  lv := ⟨p0_no ("!lv", pTo "!lv1") (List.mem_cons_self ..), l_ok ("!lv", pTo "!lv1") (List.mem_append_left _ (List.mem_append_left _ (List.mem_cons_self ..))), p0_no ("!lv1", pOk) (List.mem_cons_of_mem _ (List.mem_cons_self ..)), l_ok ("!lv1", pOk) (List.mem_append_left _ (List.mem_append_left _ (List.mem_cons_of_mem _ (List.mem_cons_self ..))))⟩
theorem k01L : K01L fs l := ⟨⟨noC, lC, (by kernel_rfl)⟩, ecL, (by kernel_rfl), (by kernel_rfl), (by kernel_rfl), (by kernel_rfl), (by kernel_rfl), (by kernel_rfl), (by kernel_rfl), (by kernel_rfl), (by kernel_rfl)⟩
theorem told (K : PySem.W.Frag) {ns : List Int} (h1 : ns.length ≤ 63) (h2 : ∀ n ∈ ns, Builtin.Int.intBits n ≤ 1048576) {Q : Rv → Prop} (q : Q (.v (.bl true))) : CW (cf K) fs l 7 "law" [.lst (ns.map D.int)] Q E0 :=
  k01_law_ok (G := cf K) (sub := sub0) rfl (hmC K) k01L noB lB (k := 0) h1 h2 q
end K01
open PySem PySem.W PySem.Calls PyProof.Rows
theorem PySem.Challenge.cw_fallranks_k01_limits_and_errors_holds : PySem.Challenge.rw_fallranks_k01_limits_and_errors.Holds := by
  w_on; o_law
  k_head
  case hw => w_witness2
  case hc =>
    refine Att.attach_callB (l := PySem.Challenge.rw_fallranks_k01_limits_and_errors) (n := 63) rfl (by kernel_rfl) fun w s₀ s₁ mg mb fa o pm cd doc a vs ns G Y ho hd hcd hmg hobj hints hlen hbits hg => ?_
    have KX := kIn_of Y
    have c := En.says_k (ex := K01.ex) (fn := K01.dfs) Y (by kernel_rfl)
    exact K01.fin (k := 7) ⟨KX, G.T.g, c⟩ hmg G.T.b G.T.builtins G.T.nolimit hg hobj hints (Nat.le_trans hlen (by decide)) ⟨rfl, by decide, by decide⟩ G.T.bmain fun Q q => K01.told _ hlen hbits q

import PyProof.Rows.All
import Wide.All
import OpenK.AllK
import Wide.FinOn
import HandS.ForMost
import HandS.TupAny
import HandS.Exc
import HandS.Lambda
import HandS.Slots
import HandS.HeadHook1
import KE.GoesEnum
import HandS.Zip
import HandS.Walk
import HandS.FStr
import HandS.Star
import HandS.Style
import HandS.IsInst
import HandS.Codes
import HandS.Defaults
import HandS.HeadHook2
import HandS.SetFor
import HandS.RaiseMore
import HandS.SlotsOwn
import HandS.MakeKw
import HandS.ClsMeth
import HandS.HeadWalk
import HandS.Head0
import HandS.Head1
import HandS.Head2
import HandS.EndBits
import HandS.TupMul
import HandS.Dict
import KE.KCallOwn
import HandS.ExcInit
import KE.KExcInit
import HandS.HotCalls
import KE.KExcIs
import HandS.ExcIs
import HandS.ExcField
import HandS.HeadHook4
import KE.KNestM
import PySem.Challenge.RW_fallranks_k08_whole_places_in_order
set_option Elab.async false
set_option linter.all false
set_option maxRecDepth 100000
set_option maxHeartbeats 0
/-! En1: the plain data, the small syntax, what it means (weakest preconditions). -/
namespace En
open PySem L2
/-- built-in types by name -/
inductive Tn where
  | int | bool | str | tuple | list | dict | none
  deriving DecidableEq
def Tn.nm : Tn → String
  | .int => "int"
  | .bool => "bool"
  | .str => "str"
  | .tuple => "tuple"
  | .list => "list"
  | .dict => "dict"
  | .none => "NoneType"
/-- plain data -/
inductive D where
  | non | bl (b : Bool) | int (i : Int) | str (x : Str)
  | tup (xs : List D) | lst (xs : List D) | dic (kvs : List (Key × D))
  | cls (x : Str) | ty (n : Tn)
  | obj (c : Str) (fs : List D) | exc (a dd : Addr) (f : Str) (d : D) | pail | adr (a : Addr)
  deriving Inhabited
/-- what comes of an expression: a datum, or a list that nobody else holds -/
inductive Rv where
  | v (d : D) | fr (xs : List D)
def Rv.d : Rv → D
  | .v d => d
  | .fr xs => .lst xs
/-- a name's place: a datum, or a list of its own -/
inductive Slot where
  | val (d : D) | own (xs : List D) (t : Option Addr)
abbrev Env := List (Option Slot)
/-- a wish about errors: the class and what it was made with -/
abbrev XP := Str → List D → Prop
abbrev Call := Str → List D → (Rv → Prop) → XP → Prop
/-- built-in functions -/
inductive Bf where
  | isi | len | all | any | tup | lst | str | int | abs | min | max | sum | repr | sorted | bool | ord | chr | dict | set | round | divmod
  deriving DecidableEq
/-- methods of built-in types -/
inductive Mf where
  | join | split | count | get | items | keys | values | index | strip | startswith | endswith | replace | copy
  deriving DecidableEq
/-! ### the small syntax -/
mutual
inductive Tg where
  | nm (i : Nat) | tp (ts : Tgs)
inductive Tgs where
  | nil | cons (t : Tg) (r : Tgs)
end
mutual
inductive Ex where
  | var (i : Nat) | con (d : D) | glo (d : D)
  | bin (op : Operator) (a b : Ex) | neg (a : Ex) | not (a : Ex) | and (a b : Ex) | or (a b : Ex)
  | cmp (op : CmpOp) (a b : Ex) | chn (o p : CmpOp) (a b c : Ex) | ite (t a b : Ex)
  | tup (es : Exs) | lst (es : Exs)
  | fn (f : Str) (es : Exs) | fnk (f : Str) (pm : List Nat) (es ks : Exs) | blt (f : Bf) (es : Exs) | mth (m : Mf) (o : Ex) (es : Exs) | mcl (m : Str) (o : Ex) (es : Exs) | mck (m : Str) (pm : List Nat) (o : Ex) (es ks : Exs) | att (o : Ex) (f : Str)
  | idx (o i : Ex) | slc (o : Ex) (lo hi : Exo) | rev (o : Ex)
  | lc (elt : Ex) (tg : Tg) (it : Ix) (cond : Exo) (own : List Nat)
  | fst (es : Exs) | dct (kvs : List (Key × D))
inductive Exs where
  | nil | cons (e : Ex) (r : Exs) | star (e : Ex) (r : Exs)
inductive Exo where
  | no | so (e : Ex)
inductive Ix where
  | seq (e : Ex) | rng1 (a : Ex) | rng2 (a b : Ex) | enu (e : Ex) | zip (a b : Ex)
end
mutual
inductive Sm where
  | ret (e : Ex) | retN | retO (i : Nat)
  | set (i : Nat) (e : Ex) | own (i : Nat) (e : Ex) | unp (tg : Tgs) (e : Ex) | uno (i j : Nat) (a b : Ex) | par (ks : List Nat) (es : Exs)
  | app (i : Nat) (e : Ex) | ext (i : Nat) (e : Ex) | put (i : Nat) (k e : Ex) | dvs (i : Nat) (k : Ex) (j : Nat) (e : Ex)
  | drop (e : Ex) | iff (t : Ex) (a b : Sms) | forr (tg : Tg) (it : Ix) (b : Sms) | whl (t : Ex) (b : Sms)
  | rse (c : Str) (es : Exs) | pss | brk | cnt | frz (i : Nat) | dead
inductive Sms where
  | nil | cons (s : Sm) (r : Sms)
end
/-! ### data as the library's data -/
mutual
def isDat : D → Bool
  | .non => true
  | .bl _ => true
  | .int _ => true
  | .str _ => true
  | .tup xs => isDats xs
  | .lst xs => isDats xs
  | _ => false
def isDats : List D → Bool
  | [] => true
  | x :: r => isDat x && isDats r
end
def keyPy : Key → PyData
  | .inl i => .int i
  | .inr x => .str x
def flatPy : D → PyData
  | .bl b => .bool b
  | .int i => .int i
  | .str x => .str x
  | _ => .none
mutual
def toPy : D → PyData
  | .non => .none
  | .bl b => .bool b
  | .int i => .int i
  | .str x => .str x
  | .tup xs => .tuple (toPys xs)
  | .lst xs => .list (toPys xs)
  | .dic kvs => .dict (kvs.map fun e => (keyPy e.1, flatPy e.2))
  | _ => .none
def toPys : List D → List PyData
  | [] => []
  | x :: r => toPy x :: toPys r
end
/-- a dict of flat data -/
def dicOk : List (Key × D) → Bool
  | [] => true
  | (_, .int _) :: r => dicOk r
  | (_, .str _) :: r => dicOk r
  | _ => false
/-- what repr shows -/
def isShw : D → Bool
  | .dic kvs => dicOk kvs
  | x => isDat x
/-! ### operators -/
def cutD (xs : List D) (lo hi : Option Int) : List D := (xs.drop (HT.sIx xs.length 0 lo)).take (HT.sIx xs.length xs.length hi - HT.sIx xs.length 0 lo)
def binW : Operator → D → D → (Rv → Prop) → Prop
  | .Add, .int i, .int j, Q => Q (.v (.int (i + j)))
  | .Add, .str x, .str y, Q => x.length + y.length ≤ sizeLine ∧ Q (.v (.str (x ++ y)))
  | .Add, .tup xs, .tup ys, Q => xs.length + ys.length ≤ sizeLine ∧ Q (.v (.tup (xs ++ ys)))
  | .Add, .lst xs, .lst ys, Q => xs.length + ys.length ≤ sizeLine ∧ Q (.fr (xs ++ ys))
  | .Sub, .int i, .int j, Q => Q (.v (.int (i - j)))
  | .Mult, .int i, .int j, Q => IntMulOk i j ∧ Q (.v (.int (i * j)))
  | .Mult, .tup xs, .int k, Q => xs ≠ [] ∧ 1 ≤ k ∧ k ≤ 1000 ∧ xs.length ≤ 1000 ∧ Q (.v (.tup (List.replicate k.toNat xs).flatten))
  | .Mult, .lst xs, .int k, Q => 1 ≤ k ∧ k ≤ 1000 ∧ xs.length ≤ 1000 ∧ Q (.fr (List.replicate k.toNat xs).flatten)
  | .FloorDiv, .int i, .int j, Q => CDiv i j ∧ Q (.v (.int (i / j)))
  | .Mod, .int i, .int j, Q => 0 < j ∧ Q (.v (.int (i % j)))
  | .Pow, .int i, .int j, Q => CPow i j ∧ Q (.v (.int (i ^ j.toNat)))
  | _, _, _, _ => False
def negW : D → (Rv → Prop) → Prop
  | .int i, Q => Q (.v (.int (-i)))
  | _, _ => False
def flatD : D → Bool
  | .non => true
  | .bl _ => true
  | .int _ => true
  | .str _ => true
  | _ => false
/-- equality of flat data, as Python has it -/
def eqF : D → D → Bool
  | .non, .non => true
  | .bl a, .bl b => a == b
  | .int a, .int b => a == b
  | .str a, .str b => a == b
  | .bl a, .int b => (if a then 1 else 0) == b
  | .int a, .bl b => a == (if b then 1 else 0)
  | _, _ => false
def isObj : D → Bool
  | .obj _ _ => true
  | _ => false
def E0 : XP := fun _ _ => False
/-- ==: of strings; of data at any depth; of own objects, by the class's def -/
def eqW (C : Call) (x y : D) (Q : Bool → Prop) : Prop := (∃ a b : Str, x = .str a ∧ y = .str b ∧ Q (decide (a = b))) ∨ (isDat x = true ∧ isDat y = true ∧ SeqAt.shaped (toPy x) = true ∧ SeqAt.shaped (toPy y) = true ∧ Q (PyData.eqv (toPy x) (toPy y))) ∨
  (isObj x = true ∧ isObj y = true ∧ C "__eq__" [x, y] (fun r => ∃ b, r = .v (.bl b) ∧ Q b) E0) ∨ (∃ xs, x = .tup xs ∧ y = .tup [] ∧ Q xs.isEmpty) ∨ (∃ xs, x = .lst xs ∧ y = .lst [] ∧ Q xs.isEmpty)
/-- x in y -/
def inW (x : D) : D → (Bool → Prop) → Prop
  | .lst ys, Q => flatD x = true ∧ ys.all flatD = true ∧ Q (ys.any fun y => eqF y x)
  | .tup ys, Q => flatD x = true ∧ ys.all flatD = true ∧ Q (ys.any fun y => eqF y x)
  | .str z, Q => ∃ c, x = .str ⟨#[c]⟩ ∧ Q (decide (c ∈ z.cps.toList))
  | _, _ => False
def isNon : D → Bool
  | .non => true
  | _ => false
def cmpW (C : Call) : CmpOp → D → D → (Bool → Prop) → Prop
  | .Lt, .int i, .int j, Q => Q (decide (i < j))
  | .LtE, .int i, .int j, Q => Q (decide (i ≤ j))
  | .Gt, .int i, .int j, Q => Q (decide (j < i))
  | .GtE, .int i, .int j, Q => Q (decide (j ≤ i))
  | .Is, x, .non, Q => Q (isNon x)
  | .IsNot, x, .non, Q => Q (!isNon x)
  | .Eq, x, y, Q => eqW C x y Q
  | .NotEq, x, y, Q => eqW C x y fun b => Q (!b)
  | .In, x, y, Q => inW x y Q
  | .NotIn, x, y, Q => inW x y fun b => Q (!b)
  | _, _, _, _ => False
/-- truth -/
def truW : D → (Bool → Prop) → Prop
  | .non, Q => Q false
  | .bl b, Q => Q b
  | .int i, Q => Q (i != 0)
  | .str x, Q => x.length ≤ sizeLine ∧ Q ((x.length : Int) != 0)
  | .tup xs, Q => Q (!xs.isEmpty)
  | .lst xs, Q => Q (!xs.isEmpty)
  | _, _ => False
def idxW : D → D → (Rv → Prop) → Prop
  | .lst xs, .int i, Q => ∃ d, atI xs i = some d ∧ Q (.v d)
  | .tup xs, .int i, Q => ∃ d, atI xs i = some d ∧ Q (.v d)
  | .str x, .int i, Q => x.length ≤ sizeLine ∧ ∃ c, atI x.cps.toList i = some c ∧ Q (.v (.str ⟨#[c]⟩))
  | _, _, _ => False
def slcW (d : D) (lo hi : Option Int) (Q : Rv → Prop) : Prop := match d with
  | .lst xs => Q (.fr (cutD xs lo hi))
  | .tup xs => Q (.v (.tup (cutD xs lo hi)))
  | .str x => x.length ≤ sizeLine ∧ Q (.v (.str (cutS x lo hi)))
  | _ => False
/-- what a walked datum yields -/
def seqW : D → (List D → Prop) → Prop
  | .lst xs, Q => Q xs
  | .tup xs, Q => Q xs
  | .str x, Q => x.length ≤ sizeLine ∧ Q (x.cps.toList.map fun c => .str ⟨#[c]⟩)
  | _, _ => False
def enuW : D → (List D → Prop) → Prop
  | .lst xs, Q => Q xs
  | .tup xs, Q => Q xs
  | _, _ => False
def zipW : D → D → (List D → List D → Prop) → Prop
  | .lst xs, .lst ys, Q => Q xs ys
  | .tup xs, .tup ys, Q => Q xs ys
  | _, _, _ => False
def enumD (xs : List D) : List D := (List.range xs.length).map fun i => .tup [.int (i : Nat), (xs.getD i .non)]
def zipD (xs ys : List D) : List D := List.zipWith (fun x y => .tup [x, y]) xs ys
mutual
def bindTg : Tg → D → Env → (Env → Prop) → Prop
  | .nm i, d, r, K => K (r.set i (some (.val d)))
  | .tp ts, d, r, K => ∃ ds, (d = .tup ds) ∧ bindTgs ts ds r K
def bindTgs : Tgs → List D → Env → (Env → Prop) → Prop
  | .nil, ds, r, K => ds = [] ∧ K r
  | .cons t ts, ds, r, K => ∃ x xs, ds = x :: xs ∧ bindTg t x r fun r' => bindTgs ts xs r' K
end
def wip (r : Env) : List Nat → Env
  | [] => r
  | v :: vs => (wip r vs).set v none
def foldW {α : Type} (step : D → α → (α → Prop) → Prop) : List D → α → (α → Prop) → Prop
  | [], a, Q => Q a
  | x :: xs, a, Q => step x a fun a' => foldW step xs a' Q
def varW (i : Nat) (r : Env) (Q : D → Prop) : Prop := ∃ d, r[i]? = some (some (.val d)) ∧ Q d
/-- a name that is read, also one that has a list of its own -/
def barW (i : Nat) (r : Env) (Q : D → Prop) : Prop := (∃ d, r[i]? = some (some (.val d)) ∧ Q d) ∨ ∃ xs t, r[i]? = some (some (.own xs t)) ∧ Q (.lst xs)
/-- the text of a datum in an f-string -/
def fmtW : D → (Str → Prop) → Prop
  | .str x, Q => x.length ≤ sizeLine ∧ Q x
  | .int i, Q => i.natAbs.log2 < 1920 ∧ Q (toString i)
  | _, _ => False
/-- the built-in functions, the methods of built-in types: given to the meaning -/
structure Lib where
  blt : Call → Bf → List D → (Rv → Prop) → XP → Prop
  mth : Mf → D → List D → (Rv → Prop) → Prop
  mty : Mf → D → Bool
  mok : Str → D → Bool
/-- what an expression means: as it comes, as a test, as a datum that is only read -/
structure EvP where
  R : (Rv → Prop) → XP → Prop
  T : (Bool → Prop) → XP → Prop
  S : (D → Prop) → XP → Prop
def mkV (R : (Rv → Prop) → XP → Prop) : EvP := ⟨R, fun Q E => R (fun x => truW x.d Q) E, fun Q E => R (fun x => Q x.d) E⟩
def mkT (R : (Rv → Prop) → XP → Prop) (T : (Bool → Prop) → XP → Prop) : EvP := ⟨R, T, fun Q E => R (fun x => Q x.d) E⟩
/-- a list of expressions: as they come; only read -/
structure EvA where
  R : (List D → Prop) → XP → Prop
  S : (List D → Prop) → XP → Prop
section
variable (B : Lib) (C : Call)
mutual
def evP : Ex → Env → EvP
  | .var i, r => ⟨fun Q _ => varW i r fun d => Q (.v d), fun Q _ => barW i r fun x => truW x Q, fun Q _ => barW i r Q⟩
  | .con d, _ => mkV fun Q _ => Q (.v d)
  | .glo d, _ => mkV fun Q _ => Q (.v d)
  | .bin op a b, r => mkV fun Q E => (evP a r).S (fun x => (evP b r).S (fun y => binW op x y Q) E) E
  | .neg a, r => mkV fun Q E => (evP a r).S (fun x => negW x Q) E
  | .not a, r => mkT (fun Q E => (evP a r).S (fun x => truW x fun b => Q (.v (.bl (!b)))) E) fun Q E => (evP a r).T (fun b => Q (!b)) E
  | .and a b, r => mkT (fun Q E => (evP a r).S (fun x => ∃ c, x = .bl c ∧ (if c = true then (evP b r).R Q E else Q (.v (.bl false)))) E)
      fun Q E => (evP a r).T (fun c => if c = true then (evP b r).T Q E else Q false) E
  | .or a b, r => mkT (fun Q E => (evP a r).S (fun x => ∃ c, x = .bl c ∧ (if c = true then Q (.v (.bl true)) else (evP b r).R Q E)) E)
      fun Q E => (evP a r).T (fun c => if c = true then Q true else (evP b r).T Q E) E
  | .cmp op a b, r => mkT (fun Q E => (evP a r).S (fun x => (evP b r).S (fun y => cmpW C op x y fun k => Q (.v (.bl k))) E) E)
      fun Q E => (evP a r).S (fun x => (evP b r).S (fun y => cmpW C op x y Q) E) E
  | .chn o p a b c, r => mkT (fun Q E => (evP a r).S (fun x => (evP b r).S (fun y => cmpW C o x y fun k => if k = true then (evP c r).S (fun z => cmpW C p y z fun k => Q (.v (.bl k))) E else Q (.v (.bl false))) E) E)
      fun Q E => (evP a r).S (fun x => (evP b r).S (fun y => cmpW C o x y fun k => if k = true then (evP c r).S (fun z => cmpW C p y z Q) E else Q false) E) E
  | .ite t a b, r => mkV fun Q E => (evP t r).T (fun c => if c = true then (evP a r).R Q E else (evP b r).R Q E) E
  | .tup es, r => mkV fun Q E => (evAs es r).R (fun xs => xs.length ≤ sizeLine ∧ Q (.v (.tup xs))) E
  | .lst es, r => mkV fun Q E => (evAs es r).R (fun xs => xs.length ≤ sizeLine ∧ Q (.fr xs)) E
  | .fn f es, r => mkV fun Q E => (evAs es r).R (fun xs => C f xs Q E) E
  | .blt f es, r => mkV fun Q E => (evAs es r).S (fun xs => B.blt C f xs Q E) E
  | .mth m o es, r => mkV fun Q E => (evP o r).S (fun x => B.mty m x = true ∧ (evAs es r).S (fun xs => B.mth m x xs Q) E) E
  | .fnk f pm es ks, r => mkV fun Q E => (evAs es r).R (fun xs => (evAs ks r).R (fun ys => C f (pm.map fun j => (xs ++ ys).getD j .non) Q E) E) E
  | .mcl m o es, r => mkV fun Q E => (evP o r).R (fun x => B.mok m x.d = true ∧ (evAs es r).R (fun xs => C m (x.d :: xs) Q E) E) E
  | .mck m pm o es ks, r => mkV fun Q E => (evP o r).R (fun x => B.mok m x.d = true ∧ (evAs es r).R (fun xs => (evAs ks r).R (fun ys => C m (x.d :: pm.map fun j => (xs ++ ys).getD j .non) Q E) E) E) E
  | .att o f, r => mkV fun Q E => (evP o r).R (fun x => C f [x.d] Q E) E
  | .idx o i, r => mkV fun Q E => (evP o r).S (fun x => (evP i r).S (fun y => idxW x y Q) E) E
  | .slc o lo hi, r => mkV fun Q E => (evP o r).S (fun x => evO lo r (fun l => evO hi r (fun h => slcW x l h Q) E) E) E
  | .rev o, r => mkV fun Q E => (evP o r).S (fun x => ∃ xs, x = .tup xs ∧ Q (.v (.tup xs.reverse))) E
  | .lc elt tg it cond own, r => mkV fun Q E => evI it r (fun items => items.length ≤ sizeLine ∧ foldW (fun x acc K => bindTg tg x (wip r own) fun r2 =>
      evC cond r2 (fun b => if b = true then (evP elt r2).R (fun y => K (acc ++ [y.d])) E0 else K acc)) items [] fun acc => Q (.fr acc)) E
  | .fst es, r => mkV fun Q E => evF es r Str.empty (fun s => Q (.v (.str s))) E
  | .dct kvs, _ => mkV fun Q _ => Q (.v (.dic kvs))
def evAs : Exs → Env → EvA
  | .nil, _ => ⟨fun Q _ => Q [], fun Q _ => Q []⟩
  | .cons e es, r => ⟨fun Q E => (evP e r).R (fun x => (evAs es r).R (fun xs => Q (x.d :: xs)) E) E, fun Q E => (evP e r).S (fun x => (evAs es r).S (fun xs => Q (x :: xs)) E) E⟩
  | .star e es, r => ⟨fun Q E => (evP e r).S (fun x => enuW x fun ys => (evAs es r).R (fun xs => Q (ys ++ xs)) E) E, fun _ _ => False⟩
def evF : Exs → Env → Str → (Str → Prop) → XP → Prop
  | .nil, _, acc, Q, _ => Q acc
  | .cons e es, r, acc, Q, E => (evP e r).S (fun x => fmtW x fun s => (acc ++ s).length ≤ sizeLine ∧ evF es r (acc ++ s) Q E) E
  | .star _ _, _, _, _, _ => False
def evO : Exo → Env → (Option Int → Prop) → XP → Prop
  | .no, _, Q, _ => Q none
  | .so e, r, Q, E => (evP e r).S (fun x => ∃ i, x = .int i ∧ Q (some i)) E
def evC : Exo → Env → (Bool → Prop) → Prop
  | .no, _, Q => Q true
  | .so e, r, Q => (evP e r).T Q E0
def evI : Ix → Env → (List D → Prop) → XP → Prop
  | .seq e, r, Q, E => (evP e r).S (fun x => seqW x Q) E
  | .rng1 a, r, Q, E => (evP a r).S (fun x => ∃ j : Int, x = .int j ∧ (-1000000 ≤ j ∧ j ≤ 1000000) ∧ Q ((List.range j.toNat).map fun i => .int (i : Nat))) E
  | .rng2 a b, r, Q, E => (evP a r).S (fun x => (evP b r).S (fun y => ∃ i j : Int, x = .int i ∧ y = .int j ∧ -1000000 ≤ i ∧ i ≤ 1000000 ∧ -1000000 ≤ j ∧ j ≤ 1000000 ∧ Q ((List.range (j - i).toNat).map fun k => .int (i + (k : Nat)))) E) E
  | .enu e, r, Q, E => (evP e r).S (fun x => enuW x fun xs => Q (enumD xs)) E
  | .zip a b, r, Q, E => (evP a r).S (fun x => (evP b r).S (fun y => zipW x y fun xs ys => Q (zipD xs ys)) E) E
end
def evR (e : Ex) (r : Env) (Q : Rv → Prop) (E : XP) : Prop := (evP B C e r).R Q E
def evT (e : Ex) (r : Env) (Q : Bool → Prop) (E : XP) : Prop := (evP B C e r).T Q E
def evS (e : Ex) (r : Env) (Q : D → Prop) (E : XP) : Prop := (evP B C e r).S Q E
/-! ### statements -/
structure Nd where
  nx : Env → Prop
  rt : Rv → Env → Prop
  bk : Env → Prop := fun _ => False
  ct : Env → Prop := fun _ => False
/-- the names that a for walks are changed no more -/
def fzV (i : Nat) (r : Env) : Env := match r[i]? with
  | some (some (.own xs _)) => r.set i (some (.val (.lst xs)))
  | _ => r
def fzE : Ex → Env → Env
  | .var i, r => fzV i r
  | _, r => r
/-- what a for walks, and the names' places then -/
def evIF : Ix → Env → (List D → Env → Prop) → XP → Prop
  | .seq e, r, Q, E => evS B C e r (fun x => seqW x fun xs => Q xs (fzE e r)) E
  | .rng1 a, r, Q, E => evI B C (.rng1 a) r (fun xs => Q xs r) E
  | .rng2 a b, r, Q, E => evI B C (.rng2 a b) r (fun xs => Q xs r) E
  | .enu e, r, Q, E => evS B C e r (fun x => enuW x fun xs => Q (enumD xs) (fzE e r)) E
  | .zip a b, r, Q, E => evS B C a r (fun x => evS B C b (fzE a r) (fun y => zipW x y fun xs ys => Q (zipD xs ys) (fzE b (fzE a r))) E) E
def slotOf : Rv → Slot
  | .v d => .val d
  | .fr xs => .own xs none
def setAll : List Nat → List D → Env → Env
  | i :: ks, d :: ds, r => setAll ks ds (r.set i (some (.val d)))
  | _, _, r => r
def forW (turn : D → Env → (Env → Prop) → Prop) : List D → Env → (Env → Prop) → Prop
  | [], r, K => K r
  | x :: xs, r, K => turn x r fun r' => forW turn xs r' K
mutual
def exS : Sm → Nd → Env → XP → Prop
  | .ret e, N, r, E => evR B C e r (fun x => N.rt x r) E
  | .retN, N, r, _ => N.rt (.v .non) r
  | .retO i, N, r, _ => (∃ xs t, r[i]? = some (some (.own xs t)) ∧ N.rt (.fr xs) r) ∨ ∃ d, r[i]? = some (some (.val d)) ∧ N.rt (.v d) r
  | .frz i, N, r, _ => N.nx (fzV i r)
  | .set i e, N, r, E => evR B C e r (fun x => N.nx (r.set i (some (.val x.d)))) E
  | .own i e, N, r, E => evR B C e r (fun x => N.nx (r.set i (some (slotOf x)))) E
  | .unp tg e, N, r, E => evR B C e r (fun x => ∃ xs, x = .v (.tup xs) ∧ bindTgs tg xs r N.nx) E
  | .uno i j a b, N, r, E => evR B C a r (fun x => ∃ d, x = .v d ∧ evR B C b r (fun y => N.nx ((r.set i (some (.val d))).set j (some (slotOf y)))) E) E
  | .par ks es, N, r, E => (evAs B C es r).R (fun xs => xs.length = ks.length ∧ N.nx (setAll ks xs r)) E
  | .app i e, N, r, E => ∃ xs t, r[i]? = some (some (.own xs t)) ∧ xs.length < sizeLine ∧ evR B C e r (fun x => N.nx (r.set i (some (.own (xs ++ [x.d]) t)))) E
  | .ext i e, N, r, E => ∃ xs t, r[i]? = some (some (.own xs t)) ∧ evR B C e r (fun x => ∃ ys, x = .fr ys ∧ xs.length + ys.length ≤ sizeLine ∧ N.nx (r.set i (some (.own (xs ++ ys) t)))) E
  | .put i k e, N, r, E => ∃ xs t, r[i]? = some (some (.own xs t)) ∧ evR B C e r (fun x => evS B C k r (fun y => ∃ j n, y = .int j ∧ ixN xs.length j = some n ∧ N.nx (r.set i (some (.own (xs.set n x.d) t)))) E) E
  | .dvs i k j e, N, r, E => ∃ xs t, r[i]? = some (some (.own xs t)) ∧ evR B C e r (fun x => ∃ a b, x = .v (.tup [a, b]) ∧ evS B C k r (fun y => ∃ z n, y = .int z ∧ ixN xs.length z = some n ∧ N.nx ((r.set i (some (.own (xs.set n a) t))).set j (some (.val b)))) E) E
  | .drop e, N, r, E => evR B C e r (fun _ => N.nx r) E
  | .iff t a b, N, r, E => evT B C t r (fun c => if c = true then exSs a N r E else exSs b N r E) E
  | .forr tg it b, N, r, E => evIF B C it r (fun items r0 => forW (fun x r1 K => bindTg tg x r1 fun r2 => exSs b { N with nx := K, ct := K, bk := N.nx } r2 E) items r0 N.nx) E
  | .whl t b, N, r, E => ∃ W : Nat → Env → Prop, (∃ m, W m r) ∧ ∀ m r, W m r → evT B C t r (fun c => if c = true then exSs b { N with nx := fun r' => ∃ m', m' < m ∧ W m' r', ct := fun r' => ∃ m', m' < m ∧ W m' r', bk := N.nx } r E else N.nx r) E
  | .rse c es, _, r, E => C "!lv" [] (fun _ => True) E0 ∧ (evAs B C es r).R (fun xs => C c xs (fun _ => E c xs) E0) E
  | .dead, _, _, _ => False
  | .pss, N, r, _ => N.nx r
  | .brk, N, r, _ => N.bk r
  | .cnt, N, r, _ => N.ct r
def exSs : Sms → Nd → Env → XP → Prop
  | .nil, N, r, _ => N.nx r
  | .cons s q, N, r, E => exS s { N with nx := fun r' => exSs q N r' E } r E
end
end
/-! ### defs -/
structure Fn where
  ps : Nat
  n : Nat
  body : Sms
def startD (n : Nat) (ds : List D) : Env := ds.map (fun d => some (Slot.val d)) ++ List.replicate (n - ds.length) none
def callW (B : Lib) (fs : List (Str × Fn)) (prim : Call → Call) : Nat → Call
  | 0, _, _, _, _ => False
  | k + 1, f, ds, Q, E => match fs.lookup f with
    | some F => ds.length = F.ps ∧ exSs B (callW B fs prim k) F.body { nx := fun _ => Q (.v .non), rt := fun x _ => Q x } (startD F.n ds) E
    | none => prim (callW B fs prim k) f ds Q E
end En
/-! En2: monotony; how data lies in the heap; readings. -/
namespace En
open PySem L2
/-! ### monotony -/
theorem foldW_mono {α : Type} {s t : D → α → (α → Prop) → Prop} (h : ∀ x a K K', (∀ b, K b → K' b) → s x a K → t x a K') : ∀ (xs : List D) (a : α) (Q Q' : α → Prop), (∀ b, Q b → Q' b) → foldW s xs a Q → foldW t xs a Q'
  | [], _, _, _, hq, z => hq _ z
  | x :: xs, a, Q, Q', hq, z => h x a _ _ (fun b zb => foldW_mono h xs b Q Q' hq zb) z
theorem forW_mono {s t : D → Env → (Env → Prop) → Prop} (h : ∀ x a K K', (∀ b, K b → K' b) → s x a K → t x a K') : ∀ (xs : List D) (a : Env) (Q Q' : Env → Prop), (∀ b, Q b → Q' b) → forW s xs a Q → forW t xs a Q'
  | [], _, _, _, hq, z => hq _ z
  | x :: xs, a, Q, Q', hq, z => h x a _ _ (fun b zb => forW_mono h xs b Q Q' hq zb) z
theorem binW_mono {op : Operator} {x y : D} {Q Q' : Rv → Prop} (h : ∀ r, Q r → Q' r) (z : binW op x y Q) : binW op x y Q' := by
  unfold binW at z ⊢
  split at z <;> first
    | exact h _ z
    | exact ⟨z.1, h _ z.2⟩
    | exact ⟨z.1, z.2.1, z.2.2.1, z.2.2.2.1, h _ z.2.2.2.2⟩
    | exact ⟨z.1, z.2.1, z.2.2.1, h _ z.2.2.2⟩
    | exact z.elim
theorem negW_mono {x : D} {Q Q' : Rv → Prop} (h : ∀ r, Q r → Q' r) (z : negW x Q) : negW x Q' := by
  unfold negW at z ⊢
  split at z <;> first
    | exact h _ z
    | exact z.elim
def MonoC (C : Call) : Prop := ∀ f xs Q Q' E E', (∀ r, Q r → Q' r) → (∀ c ds, E c ds → E' c ds) → C f xs Q E → C f xs Q' E'
theorem eqW_mono {C : Call} (hC : MonoC C) {x y : D} {Q Q' : Bool → Prop} (h : ∀ r, Q r → Q' r) (z : eqW C x y Q) : eqW C x y Q' := by
  rcases z with ⟨a, b, e1, e2, z⟩ | z | ⟨h1, h2, z⟩ | ⟨xs, e1, e2, z⟩ | ⟨xs, e1, e2, z⟩
  · exact .inl ⟨a, b, e1, e2, h _ z⟩
  · exact .inr (.inl ⟨z.1, z.2.1, z.2.2.1, z.2.2.2.1, h _ z.2.2.2.2⟩)
  · exact .inr (.inr (.inl ⟨h1, h2, hC _ _ _ _ _ _ (fun r ⟨b, e, q⟩ => ⟨b, e, h _ q⟩) (fun _ _ z => z) z⟩))
  · exact .inr (.inr (.inr (.inl ⟨xs, e1, e2, h _ z⟩)))
  · exact .inr (.inr (.inr (.inr ⟨xs, e1, e2, h _ z⟩)))
theorem inW_mono {x y : D} {Q Q' : Bool → Prop} (h : ∀ r, Q r → Q' r) (z : inW x y Q) : inW x y Q' := by
  unfold inW at z ⊢
  split at z <;> first
    | exact ⟨z.1, z.2.1, h _ z.2.2⟩
    | exact z.elim
    | (obtain ⟨c, e, z⟩ := z; exact ⟨c, e, h _ z⟩)
theorem cmpW_mono {C : Call} (hC : MonoC C) {op : CmpOp} {x y : D} {Q Q' : Bool → Prop} (h : ∀ r, Q r → Q' r) (z : cmpW C op x y Q) : cmpW C op x y Q' := by
  unfold cmpW at z ⊢
  split at z <;> first
    | exact h _ z
    | exact eqW_mono hC h z
    | exact eqW_mono hC (fun r q => h _ q) z
    | exact inW_mono h z
    | exact inW_mono (fun r q => h _ q) z
    | exact z.elim
theorem truW_mono {x : D} {Q Q' : Bool → Prop} (h : ∀ r, Q r → Q' r) (z : truW x Q) : truW x Q' := by
  unfold truW at z ⊢
  split at z <;> first
    | exact h _ z
    | exact ⟨z.1, h _ z.2⟩
    | exact z.elim
theorem idxW_mono {x y : D} {Q Q' : Rv → Prop} (h : ∀ r, Q r → Q' r) (z : idxW x y Q) : idxW x y Q' := by
  unfold idxW at z ⊢
  split at z <;> first
    | (obtain ⟨d, e, z⟩ := z; exact ⟨d, e, h _ z⟩)
    | (obtain ⟨l, d, e, z⟩ := z; exact ⟨l, d, e, h _ z⟩)
    | exact z.elim
theorem slcW_mono {x : D} {lo hi : Option Int} {Q Q' : Rv → Prop} (h : ∀ r, Q r → Q' r) (z : slcW x lo hi Q) : slcW x lo hi Q' := by
  unfold slcW at z ⊢
  split at z <;> first
    | exact h _ z
    | exact ⟨z.1, h _ z.2⟩
    | exact z.elim
theorem enuW_mono {x : D} {Q Q' : List D → Prop} (h : ∀ r, Q r → Q' r) (z : enuW x Q) : enuW x Q' := by
  unfold enuW at z ⊢
  split at z <;> first | exact h _ z | exact z.elim
theorem zipW_mono {x y : D} {Q Q' : List D → List D → Prop} (h : ∀ r s, Q r s → Q' r s) (z : zipW x y Q) : zipW x y Q' := by
  unfold zipW at z ⊢
  split at z <;> first | exact h _ _ z | exact z.elim
theorem seqW_mono {x : D} {Q Q' : List D → Prop} (h : ∀ r, Q r → Q' r) (z : seqW x Q) : seqW x Q' := by
  unfold seqW at z ⊢
  split at z <;> first
    | exact h _ z
    | exact ⟨z.1, h _ z.2⟩
    | exact z.elim
mutual
theorem bindTg_mono : ∀ (t : Tg) (d : D) (r : Env) (K K' : Env → Prop), (∀ r, K r → K' r) → bindTg t d r K → bindTg t d r K'
  | .nm i, d, r, K, K', h, z => by
    unfold bindTg at z ⊢
    exact h _ z
  | .tp ts, d, r, K, K', h, z => by
    unfold bindTg at z ⊢
    obtain ⟨ds, e, z⟩ := z
    exact ⟨ds, e, bindTgs_mono ts ds r K K' h z⟩
theorem bindTgs_mono : ∀ (t : Tgs) (d : List D) (r : Env) (K K' : Env → Prop), (∀ r, K r → K' r) → bindTgs t d r K → bindTgs t d r K'
  | .nil, d, r, K, K', h, z => by
    unfold bindTgs at z ⊢
    exact ⟨z.1, h _ z.2⟩
  | .cons t ts, d, r, K, K', h, z => by
    unfold bindTgs at z ⊢
    obtain ⟨x, xs, e, z⟩ := z
    exact ⟨x, xs, e, bindTg_mono t x r _ _ (fun r1 z1 => bindTgs_mono ts xs r1 K K' h z1) z⟩
end
theorem varW_mono {i : Nat} {r : Env} {Q Q' : D → Prop} (h : ∀ d, Q d → Q' d) (z : varW i r Q) : varW i r Q' := by
  obtain ⟨d, e, z⟩ := z
  exact ⟨d, e, h _ z⟩
theorem barW_mono {i : Nat} {r : Env} {Q Q' : D → Prop} (h : ∀ d, Q d → Q' d) (z : barW i r Q) : barW i r Q' := by
  rcases z with ⟨d, e, z⟩ | ⟨d, t, e, z⟩
  · exact .inl ⟨d, e, h _ z⟩
  · exact .inr ⟨d, t, e, h _ z⟩
structure Lib.Mono (B : Lib) : Prop where
  blt : ∀ C, MonoC C → ∀ f xs Q Q' E E', (∀ r, Q r → Q' r) → (∀ c ds, E c ds → E' c ds) → B.blt C f xs Q E → B.blt C f xs Q' E'
  mth : ∀ m x xs Q Q', (∀ r, Q r → Q' r) → B.mth m x xs Q → B.mth m x xs Q'
theorem fmtW_mono {x : D} {Q Q' : Str → Prop} (h : ∀ r, Q r → Q' r) (z : fmtW x Q) : fmtW x Q' := by
  unfold fmtW at z ⊢
  split at z <;> first
    | exact ⟨z.1, h _ z.2⟩
    | exact z.elim
structure MoP (p : EvP) : Prop where
  R : ∀ Q Q' E E', (∀ r, Q r → Q' r) → (∀ c ds, E c ds → E' c ds) → p.R Q E → p.R Q' E'
  T : ∀ Q Q' E E', (∀ r, Q r → Q' r) → (∀ c ds, E c ds → E' c ds) → p.T Q E → p.T Q' E'
  S : ∀ Q Q' E E', (∀ r, Q r → Q' r) → (∀ c ds, E c ds → E' c ds) → p.S Q E → p.S Q' E'
structure MoA (p : EvA) : Prop where
  R : ∀ Q Q' E E', (∀ r, Q r → Q' r) → (∀ c ds, E c ds → E' c ds) → p.R Q E → p.R Q' E'
  S : ∀ Q Q' E E', (∀ r, Q r → Q' r) → (∀ c ds, E c ds → E' c ds) → p.S Q E → p.S Q' E'
theorem moV {R : (Rv → Prop) → XP → Prop} (h : ∀ Q Q' E E', (∀ r, Q r → Q' r) → (∀ c ds, E c ds → E' c ds) → R Q E → R Q' E') : MoP (mkV R) :=
  ⟨h, fun Q Q' E E' hq he z => h _ _ E E' (fun r q => truW_mono hq q) he z, fun Q Q' E E' hq he z => h _ _ E E' (fun r q => hq _ q) he z⟩
theorem moT {R : (Rv → Prop) → XP → Prop} {T : (Bool → Prop) → XP → Prop} (h : ∀ Q Q' E E', (∀ r, Q r → Q' r) → (∀ c ds, E c ds → E' c ds) → R Q E → R Q' E')
    (ht : ∀ Q Q' E E', (∀ r, Q r → Q' r) → (∀ c ds, E c ds → E' c ds) → T Q E → T Q' E') : MoP (mkT R T) :=
  ⟨h, ht, fun Q Q' E E' hq he z => h _ _ E E' (fun r q => hq _ q) he z⟩
theorem ite_mono {c : Bool} {A A' B B' : Prop} (h : A → A') (h' : B → B') (z : if c = true then A else B) : if c = true then A' else B' := by
  cases c
  · exact h' z
  · exact h z
section
variable {B : Lib} {C : Call} (hB : B.Mono) (hC : MonoC C)
include hB hC
mutual
theorem evP_mono : ∀ (e : Ex) (r : Env), MoP (evP B C e r)
  | .var i, r => by
    unfold evP
    exact ⟨fun Q Q' E E' hq he z => varW_mono (fun d q => hq _ q) z, fun Q Q' E E' hq he z => barW_mono (fun d q => truW_mono hq q) z, fun Q Q' E E' hq he z => barW_mono hq z⟩
  | .con d, r => by
    unfold evP
    exact moV fun Q Q' E E' hq he z => hq _ z
  | .glo d, r => by
    unfold evP
    exact moV fun Q Q' E E' hq he z => hq _ z
  | .bin op a b, r => by
    unfold evP
    exact moV fun Q Q' E E' hq he z => (evP_mono a r).S _ _ E E' (fun x q => (evP_mono b r).S _ _ E E' (fun y q => binW_mono hq q) he q) he z
  | .neg a, r => by
    unfold evP
    exact moV fun Q Q' E E' hq he z => (evP_mono a r).S _ _ E E' (fun x q => negW_mono hq q) he z
  | .not a, r => by
    unfold evP
    exact moT (fun Q Q' E E' hq he z => (evP_mono a r).S _ _ E E' (fun x q => truW_mono (fun b q => hq _ q) q) he z) fun Q Q' E E' hq he z => (evP_mono a r).T _ _ E E' (fun x q => hq _ q) he z
  | .and a b, r => by
    unfold evP
    exact moT (fun Q Q' E E' hq he z => (evP_mono a r).S _ _ E E' (fun x ⟨c, e, q⟩ => ⟨c, e, ite_mono (fun q => (evP_mono b r).R _ _ E E' hq he q) (fun q => hq _ q) q⟩) he z)
      fun Q Q' E E' hq he z => (evP_mono a r).T _ _ E E' (fun x q => ite_mono (fun q => (evP_mono b r).T _ _ E E' hq he q) (fun q => hq _ q) q) he z
  | .or a b, r => by
    unfold evP
    exact moT (fun Q Q' E E' hq he z => (evP_mono a r).S _ _ E E' (fun x ⟨c, e, q⟩ => ⟨c, e, ite_mono (fun q => hq _ q) (fun q => (evP_mono b r).R _ _ E E' hq he q) q⟩) he z)
      fun Q Q' E E' hq he z => (evP_mono a r).T _ _ E E' (fun x q => ite_mono (fun q => hq _ q) (fun q => (evP_mono b r).T _ _ E E' hq he q) q) he z
  | .cmp op a b, r => by
    unfold evP
    exact moT (fun Q Q' E E' hq he z => (evP_mono a r).S _ _ E E' (fun x q => (evP_mono b r).S _ _ E E' (fun y q => cmpW_mono hC (fun k q => hq _ q) q) he q) he z)
      fun Q Q' E E' hq he z => (evP_mono a r).S _ _ E E' (fun x q => (evP_mono b r).S _ _ E E' (fun y q => cmpW_mono hC hq q) he q) he z
  | .chn o p a b c, r => by
    unfold evP
    exact moT (fun Q Q' E E' hq he z => (evP_mono a r).S _ _ E E' (fun x q => (evP_mono b r).S _ _ E E' (fun y q => cmpW_mono hC (fun k q => ite_mono (fun q => (evP_mono c r).S _ _ E E' (fun y q => cmpW_mono hC (fun k q => hq _ q) q) he q) (fun q => hq _ q) q) q) he q) he z)
      fun Q Q' E E' hq he z => (evP_mono a r).S _ _ E E' (fun x q => (evP_mono b r).S _ _ E E' (fun y q => cmpW_mono hC (fun k q => ite_mono (fun q => (evP_mono c r).S _ _ E E' (fun y q => cmpW_mono hC hq q) he q) (fun q => hq _ q) q) q) he q) he z
  | .ite t a b, r => by
    unfold evP
    exact moV fun Q Q' E E' hq he z => (evP_mono t r).T _ _ E E' (fun c q => ite_mono (fun q => (evP_mono a r).R _ _ E E' hq he q) (fun q => (evP_mono b r).R _ _ E E' hq he q) q) he z
  | .tup es, r => by
    unfold evP
    exact moV fun Q Q' E E' hq he z => (evAs_mono es r).R _ _ E E' (fun xs q => ⟨q.1, hq _ q.2⟩) he z
  | .lst es, r => by
    unfold evP
    exact moV fun Q Q' E E' hq he z => (evAs_mono es r).R _ _ E E' (fun xs q => ⟨q.1, hq _ q.2⟩) he z
  | .fn f es, r => by
    unfold evP
    exact moV fun Q Q' E E' hq he z => (evAs_mono es r).R _ _ E E' (fun xs q => hC f xs _ _ _ _ hq he q) he z
  | .blt f es, r => by
    unfold evP
    exact moV fun Q Q' E E' hq he z => (evAs_mono es r).S _ _ E E' (fun xs q => hB.blt C hC f xs _ _ _ _ hq he q) he z
  | .mth m o es, r => by
    unfold evP
    exact moV fun Q Q' E E' hq he z => (evP_mono o r).S _ _ E E' (fun x q => ⟨q.1, (evAs_mono es r).S _ _ E E' (fun xs q => hB.mth m x xs _ _ hq q) he q.2⟩) he z
  | .fnk f pm es ks, r => by
    unfold evP
    exact moV fun Q Q' E E' hq he z => (evAs_mono es r).R _ _ E E' (fun xs q => (evAs_mono ks r).R _ _ E E' (fun ys q => hC _ _ _ _ _ _ hq he q) he q) he z
  | .mcl m o es, r => by
    unfold evP
    exact moV fun Q Q' E E' hq he z => (evP_mono o r).R _ _ E E' (fun x q => ⟨q.1, (evAs_mono es r).R _ _ E E' (fun xs q => hC m _ _ _ _ _ hq he q) he q.2⟩) he z
  | .mck m pm o es ks, r => by
    unfold evP
    exact moV fun Q Q' E E' hq he z => (evP_mono o r).R _ _ E E' (fun x q => ⟨q.1, (evAs_mono es r).R _ _ E E' (fun xs q => (evAs_mono ks r).R _ _ E E' (fun ys q => hC m _ _ _ _ _ hq he q) he q) he q.2⟩) he z
  | .att o f, r => by
    unfold evP
    exact moV fun Q Q' E E' hq he z => (evP_mono o r).R _ _ E E' (fun x q => hC f _ _ _ _ _ hq he q) he z
  | .idx a b, r => by
    unfold evP
    exact moV fun Q Q' E E' hq he z => (evP_mono a r).S _ _ E E' (fun x q => (evP_mono b r).S _ _ E E' (fun y q => idxW_mono hq q) he q) he z
  | .slc o lo hi, r => by
    unfold evP
    exact moV fun Q Q' E E' hq he z => (evP_mono o r).S _ _ E E' (fun x q => evO_mono lo r _ _ E E' (fun l q => evO_mono hi r _ _ E E' (fun h q => slcW_mono hq q) he q) he q) he z
  | .dct kvs, r => by
    unfold evP
    exact moV fun Q Q' E E' hq he z => hq _ z
  | .rev o, r => by
    unfold evP
    exact moV fun Q Q' E E' hq he z => (evP_mono o r).S _ _ E E' (fun x ⟨xs, e, q⟩ => ⟨xs, e, hq _ q⟩) he z
  | .lc elt tg it cond own, r => by
    unfold evP
    exact moV fun Q Q' E E' hq he z => evI_mono it r _ _ E E' (fun items q => ⟨q.1, foldW_mono (fun x a K K' hk q => bindTg_mono tg x _ _ _ (fun r2 q => evC_mono cond r2 _ _ (fun b q => ite_mono (fun q => (evP_mono elt r2).R _ _ E0 E0 (fun y q => hk _ q) (fun _ _ z => z) q) (fun q => hk _ q) q) q) q) items [] _ _ (fun acc q => hq _ q) q.2⟩) he z
  | .fst es, r => by
    unfold evP
    exact moV fun Q Q' E E' hq he z => evF_mono es r _ _ _ E E' (fun s q => hq _ q) he z
theorem evAs_mono : ∀ (es : Exs) (r : Env), MoA (evAs B C es r)
  | .nil, r => by
    unfold evAs
    exact ⟨fun Q Q' E E' hq he z => hq _ z, fun Q Q' E E' hq he z => hq _ z⟩
  | .cons e es, r => by
    unfold evAs
    exact ⟨fun Q Q' E E' hq he z => (evP_mono e r).R _ _ E E' (fun x q => (evAs_mono es r).R _ _ E E' (fun xs q => hq _ q) he q) he z, fun Q Q' E E' hq he z => (evP_mono e r).S _ _ E E' (fun x q => (evAs_mono es r).S _ _ E E' (fun xs q => hq _ q) he q) he z⟩
  | .star e es, r => by
    unfold evAs
    exact ⟨fun Q Q' E E' hq he z => (evP_mono e r).S _ _ E E' (fun x q => enuW_mono (fun ys q => (evAs_mono es r).R _ _ E E' (fun xs q => hq _ q) he q) q) he z, fun Q Q' E E' hq he z => z⟩
theorem evF_mono : ∀ (es : Exs) (r : Env) (acc : Str) (Q Q' : Str → Prop) (E E' : XP), (∀ r, Q r → Q' r) → (∀ c ds, E c ds → E' c ds) → evF B C es r acc Q E → evF B C es r acc Q' E'
  | .nil, r, acc, Q, Q', E, E', hq, he, z => by
    unfold evF at z ⊢
    exact hq _ z
  | .cons e es, r, acc, Q, Q', E, E', hq, he, z => by
    unfold evF at z ⊢
    exact (evP_mono e r).S _ _ E E' (fun x q => fmtW_mono (fun s q => ⟨q.1, evF_mono es r _ _ _ E E' hq he q.2⟩) q) he z
  | .star e es, r, acc, Q, Q', E, E', hq, he, z => by
    unfold evF at z
    exact z.elim
theorem evO_mono : ∀ (e : Exo) (r : Env) (Q Q' : Option Int → Prop) (E E' : XP), (∀ r, Q r → Q' r) → (∀ c ds, E c ds → E' c ds) → evO B C e r Q E → evO B C e r Q' E'
  | .no, r, Q, Q', E, E', hq, he, z => by
    unfold evO at z ⊢
    exact hq _ z
  | .so e, r, Q, Q', E, E', hq, he, z => by
    unfold evO at z ⊢
    exact (evP_mono e r).S _ _ E E' (fun x ⟨i, e, q⟩ => ⟨i, e, hq _ q⟩) he z
theorem evC_mono : ∀ (e : Exo) (r : Env) (Q Q' : Bool → Prop), (∀ r, Q r → Q' r) → evC B C e r Q → evC B C e r Q'
  | .no, r, Q, Q', hq, z => by
    unfold evC at z ⊢
    exact hq _ z
  | .so e, r, Q, Q', hq, z => by
    unfold evC at z ⊢
    exact (evP_mono e r).T _ _ E0 E0 hq (fun _ _ z => z) z
theorem evI_mono : ∀ (e : Ix) (r : Env) (Q Q' : List D → Prop) (E E' : XP), (∀ r, Q r → Q' r) → (∀ c ds, E c ds → E' c ds) → evI B C e r Q E → evI B C e r Q' E'
  | .seq e, r, Q, Q', E, E', hq, he, z => by
    unfold evI at z ⊢
    exact (evP_mono e r).S _ _ E E' (fun x q => seqW_mono hq q) he z
  | .rng1 a, r, Q, Q', E, E', hq, he, z => by
    unfold evI at z ⊢
    exact (evP_mono a r).S _ _ E E' (fun x ⟨j, e, l, q⟩ => ⟨j, e, l, hq _ q⟩) he z
  | .rng2 a b, r, Q, Q', E, E', hq, he, z => by
    unfold evI at z ⊢
    exact (evP_mono a r).S _ _ E E' (fun x q => (evP_mono b r).S _ _ E E' (fun y ⟨i, j, e, f, l1, l2, l3, l4, q⟩ => ⟨i, j, e, f, l1, l2, l3, l4, hq _ q⟩) he q) he z
  | .enu e, r, Q, Q', E, E', hq, he, z => by
    unfold evI at z ⊢
    exact (evP_mono e r).S _ _ E E' (fun x q => enuW_mono (fun ys q => hq _ q) q) he z
  | .zip a b, r, Q, Q', E, E', hq, he, z => by
    unfold evI at z ⊢
    exact (evP_mono a r).S _ _ E E' (fun x q => (evP_mono b r).S _ _ E E' (fun y q => zipW_mono (fun xs ys q => hq _ q) q) he q) he z
end
end
end En
/-! En3: how data lies in the heap; readings. -/
namespace En
open PySem L2
/-- all but lists that may change, and tables, stays -/
def Stb (H H' : Hp) : Prop := ∀ b o, H b = some o → (∀ xs, o ≠ .lst xs) → (∀ ps, o ≠ .tbl ps) → H' b = some o
theorem Stb.refl (H : Hp) : Stb H H := fun _ _ h _ _ => h
theorem Stb.trans {H H1 H2 : Hp} (a : Stb H H1) (b : Stb H1 H2) : Stb H H2 := fun c o h n m => b c o (a c o h n m) n m
abbrev ExN := LamX.ExtN
theorem ExN.stb {H H' : Hp} (h : ExN H H') : Stb H H' := fun b o e _ m => h b o e m
theorem ExN.new {H : Hp} {p : Addr} {o : HO} (h : H p = none) : ExN H (upd H p o) := fun b u e _ => by
  rw [upd_ne (ne_of_none e h)]
  exact e
theorem Stb.own {H : Hp} {p : Addr} {xs ys : List V} (h : H p = some (.lst xs)) : Stb H (upd H p (.lst ys)) := fun b u e n _ => by
  have ne : b ≠ p := fun z => by
    rw [z, h] at e
    exact n xs (Option.some.inj e).symm
  rw [upd_ne ne]
  exact e
/-- nothing lies there but perhaps a table -/
def Fr (H : Hp) (p : Addr) : Prop := ∀ o, H p = some o → ∃ ps, o = HO.tbl ps
theorem Fr.of {H : Hp} {p : Addr} (h : H p = none) : Fr H p := fun o e => by
  rw [h] at e
  cases e
theorem Fr.ne {H : Hp} {p b : Addr} {o : HO} (h : Fr H p) (e : H b = some o) (m : ∀ ps, o ≠ .tbl ps) : b ≠ p := fun z => by
  subst z
  obtain ⟨ps, q⟩ := h o e
  exact m ps q
theorem Fr.back {H H' : Hp} {p : Addr} (x : ExN H H') (h : Fr H' p) : Fr H p := fun o e => by
  cases o with
  | tbl ps => exact ⟨ps, rfl⟩
  | _ => exact h _ (x _ _ e (fun _ z => nomatch z))
theorem ExN.frz {H H' : Hp} {p : Addr} {o : HO} (x : ExN H H') (h : Fr H p) : ExN H (upd H' p o) := fun b u e m => by
  rw [upd_ne (h.ne e m)]
  exact x b u e m
/-- a list that is changed no more -/
def FzH (H : Hp) (a : Addr) (xs : List V) : Prop := ∃ o, H a = some (.frz o (.lst xs))
/-- .. or one of the text's own -/
def FzL (K : PySem.W.Frag) (H : Hp) (a : Addr) (xs : List V) : Prop := FzH H a xs ∨ ∃ (its : List Value) (n : Nat), K.lookup a = some { cls := .type "list", data := .seq its.toArray n } ∧ its.length ≤ sizeLine ∧ Vals xs its
theorem FzL.sq {K : PySem.W.Frag} {H : Hp} {a : Addr} {xs : List V} (h : FzL K H a xs) : SqL K H a xs := by
  rcases h with ⟨o, e⟩ | h
  · exact .inl (.inr ⟨o, e⟩)
  · obtain ⟨its, n, hk, hz, r⟩ := h
    exact .inr ⟨_, its.toArray, n, hk, rfl, rfl, rfl, by simpa using hz, by simpa using r⟩
/-- the pail of draws: three ints -/
def PailO (a : Addr) : HO := .ext fun h => ∃ (i j k : Int) (t u w : Tok) (n : Nat), h.get? a = some { cls := .type "list", data := .seq #[.int i t, .int j u, .int k w] n } ∧ 0 ≤ i ∧ 0 ≤ j ∧ j < 2147483648
mutual
inductive RD (K : PySem.W.Frag) (H : Hp) : D → V → Prop
  | non : RD K H .non .non
  | bl (b : Bool) : RD K H (.bl b) (.bl b)
  | int (i : Int) : RD K H (.int i) (.int i)
  | str (x : Str) : RD K H (.str x) (.str x)
  | tup {a : Addr} {xs : List V} {ds : List D} : SqT K H a xs → RDs K H ds xs → RD K H (.tup ds) (.ref a)
  | lst {a : Addr} {xs : List V} {ds : List D} : FzL K H a xs → RDs K H ds xs → RD K H (.lst ds) (.ref a)
  | dic {a : Addr} {o : Obj} {kvs : List (Key × D)} {xs : List V} : H a = some (.frz o (.dK ((kvs.map (·.1)).zip xs))) → xs.length = kvs.length → RDs K H (kvs.map (·.2)) xs → RD K H (.dic kvs) (.ref a)
  | cls (x : Str) : RD K H (.cls x) (.ref (He.ga K x))
  | ty (n : Tn) : RD K H (.ty n) (.ty n.nm)
  | obj {c : Str} {a dx : Addr} {vs : List V} {ds : List D} : SlX.Slt H a (He.ga K c) dx (vs.map some) → RDs K H ds vs → RD K H (.obj c ds) (.ref a)
  | pail {a : Addr} : H a = some (PailO a) → RD K H .pail (.ref a)
  | adr (a : Addr) : RD K H (.adr a) (.ref a)
  | exc {a dd : Addr} {f : Str} {d : D} {v : V} : H dd = some (.xd [(f, v)]) → RD K H d v → RD K H (.exc a dd f d) (.ref a)
inductive RDs (K : PySem.W.Frag) (H : Hp) : List D → List V → Prop
  | nil : RDs K H [] []
  | cons {d : D} {ds : List D} {v : V} {vs : List V} : RD K H d v → RDs K H ds vs → RDs K H (d :: ds) (v :: vs)
end
theorem SqT.stb {K : PySem.W.Frag} {H H' : Hp} {a : Addr} {xs : List V} (s : Stb H H') (h : SqT K H a xs) : SqT K H' a xs := by
  rcases h with (h | ⟨o, h⟩) | h
  · exact .inl (.inl (s _ _ h (fun _ z => nomatch z) (fun _ z => nomatch z)))
  · exact .inl (.inr ⟨o, s _ _ h (fun _ z => nomatch z) (fun _ z => nomatch z)⟩)
  · exact .inr h
theorem FzL.stb {K : PySem.W.Frag} {H H' : Hp} {a : Addr} {xs : List V} (s : Stb H H') (h : FzL K H a xs) : FzL K H' a xs := by
  rcases h with ⟨o, h⟩ | h
  · exact .inl ⟨o, s _ _ h (fun _ z => nomatch z) (fun _ z => nomatch z)⟩
  · exact .inr h
theorem Slt.stb {H H' : Hp} {a C dx : Addr} {vs : List (Option V)} (s : Stb H H') (h : SlX.Slt H a C dx vs) : SlX.Slt H' a C dx vs := by
  rcases h with ⟨h, e⟩ | ⟨h, e⟩
  · exact .inl ⟨s _ _ h (fun _ z => nomatch z) (fun _ z => nomatch z), e⟩
  · exact .inr ⟨s _ _ h (fun _ z => nomatch z) (fun _ z => nomatch z), s _ _ e (fun _ z => nomatch z) (fun _ z => nomatch z)⟩
section
variable {K : PySem.W.Frag} {H H' : Hp}
mutual
theorem RD.stb (s : Stb H H') : ∀ {d : D} {v : V}, RD K H d v → RD K H' d v
  | _, _, .non => .non
  | _, _, .bl b => .bl b
  | _, _, .int i => .int i
  | _, _, .str x => .str x
  | _, _, .tup h r => .tup (SqT.stb s h) (RDs.stb s r)
  | _, _, .lst h r => .lst (FzL.stb s h) (RDs.stb s r)
  | _, _, .dic h l r => .dic (s _ _ h (fun _ z => nomatch z) (fun _ z => nomatch z)) l (RDs.stb s r)
  | _, _, .cls x => .cls x
  | _, _, .ty n => .ty n
  | _, _, .obj h r => .obj (Slt.stb s h) (RDs.stb s r)
  | _, _, .pail h => .pail (s _ _ h (fun _ z => nomatch z) (fun _ z => nomatch z))
  | _, _, .adr a => .adr a
  | _, _, .exc h r => .exc (s _ _ h (fun _ z => nomatch z) (fun _ z => nomatch z)) (RD.stb s r)
theorem RDs.stb (s : Stb H H') : ∀ {ds : List D} {vs : List V}, RDs K H ds vs → RDs K H' ds vs
  | _, _, .nil => .nil
  | _, _, .cons r q => .cons (RD.stb s r) (RDs.stb s q)
end
theorem RDs.length : ∀ {ds : List D} {vs : List V}, RDs K H ds vs → ds.length = vs.length
  | _, _, .nil => rfl
  | _, _, .cons _ q => congrArg (· + 1) (RDs.length q)
theorem RDs.get : ∀ {ds : List D} {vs : List V} {i : Nat} {d : D}, RDs K H ds vs → ds[i]? = some d → ∃ v, vs[i]? = some v ∧ RD K H d v
  | _, _, _, _, .nil, e => by simp at e
  | _, _, 0, _, .cons r _, e => by
    simp at e
    subst e
    exact ⟨_, rfl, r⟩
  | _, _, i + 1, d, .cons _ q, e => by
    obtain ⟨v, h1, h2⟩ := RDs.get (i := i) (d := d) q (by simpa using e)
    exact ⟨v, by simpa using h1, h2⟩
theorem RDs.getv : ∀ {ds : List D} {vs : List V} {i : Nat} {v : V}, RDs K H ds vs → vs[i]? = some v → ∃ d, ds[i]? = some d ∧ RD K H d v
  | _, _, _, _, .nil, e => by simp at e
  | _, _, 0, _, .cons r _, e => by
    simp at e
    subst e
    exact ⟨_, rfl, r⟩
  | _, _, i + 1, d, .cons _ q, e => by
    obtain ⟨v, h1, h2⟩ := RDs.getv (i := i) (v := d) q (by simpa using e)
    exact ⟨v, by simpa using h1, h2⟩
theorem RDs.append : ∀ {ds es : List D} {vs ws : List V}, RDs K H ds vs → RDs K H es ws → RDs K H (ds ++ es) (vs ++ ws)
  | _, _, _, _, .nil, s => s
  | _, _, _, _, .cons r q, s => .cons r (RDs.append q s)
theorem RDs.drop : ∀ {ds : List D} {vs : List V} (n : Nat), RDs K H ds vs → RDs K H (ds.drop n) (vs.drop n)
  | _, _, 0, r => r
  | _, _, _ + 1, .nil => .nil
  | _, _, n + 1, .cons _ q => RDs.drop n q
theorem RDs.take : ∀ {ds : List D} {vs : List V} (n : Nat), RDs K H ds vs → RDs K H (ds.take n) (vs.take n)
  | _, _, 0, _ => .nil
  | _, _, _ + 1, .nil => .nil
  | _, _, n + 1, .cons r q => .cons r (RDs.take n q)
theorem RDs.set {d : D} {v : V} (r : RD K H d v) : ∀ {ds : List D} {vs : List V} (i : Nat), RDs K H ds vs → RDs K H (ds.set i d) (vs.set i v)
  | _, _, _, .nil => .nil
  | _, _, 0, .cons _ t => .cons r t
  | _, _, i + 1, .cons q t => .cons q (RDs.set r i t)
theorem RDs.one {d : D} {v : V} (h : RD K H d v) : RDs K H [d] [v] := .cons h .nil
theorem RDs.reverse {ds : List D} {vs : List V} (h : RDs K H ds vs) : RDs K H ds.reverse vs.reverse := by
  induction ds generalizing vs with
  | nil => cases h; exact .nil
  | cons d ds ih =>
    cases h with
    | cons r q =>
      rw [List.reverse_cons, List.reverse_cons]
      exact (ih q).append (.one r)
end
/-- a datum that is only read: also a list that may change -/
def RB (K : PySem.W.Frag) (H : Hp) (d : D) (v : V) : Prop := RD K H d v ∨ ∃ xs p us, d = .lst xs ∧ v = .ref p ∧ H p = some (.lst us) ∧ RDs K H xs us
theorem RB.ext {K : PySem.W.Frag} {H H' : Hp} {d : D} {v : V} (x : ExN H H') (h : RB K H d v) : RB K H' d v := by
  rcases h with h | ⟨xs, p, us, e1, e2, e3, r⟩
  · exact .inl (h.stb (ExN.stb x))
  · exact .inr ⟨xs, p, us, e1, e2, x _ _ e3 (fun _ z => nomatch z), r.stb (ExN.stb x)⟩
theorem RB.lst {K : PySem.W.Frag} {H : Hp} {xs : List D} {v : V} (h : RB K H (.lst xs) v) : ∃ p us, v = .ref p ∧ SqL K H p us ∧ RDs K H xs us := by
  rcases h with h | ⟨xs', p, us, e1, e2, e3, r⟩
  · cases h with
    | lst h r => exact ⟨_, _, rfl, h.sq, r⟩
  · cases e1
    exact ⟨p, us, e2, .inl (.inl e3), r⟩
theorem RB.rd {K : PySem.W.Frag} {H : Hp} {d : D} {v : V} (h : RB K H d v) (n : ∀ xs, d ≠ .lst xs) : RD K H d v := by
  rcases h with h | ⟨xs', p, us, e1, _⟩
  · exact h
  · exact absurd e1 (n _)
/-- behind an expression -/
def RR (K : PySem.W.Frag) (H H' : Hp) : Rv → V → Prop
  | .v d, v => RD K H' d v
  | .fr xs, v => ∃ p us, v = .ref p ∧ Fr H p ∧ H' p = some (.lst us) ∧ RDs K H' xs us
theorem RR.back {K : PySem.W.Frag} {H H1 H' : Hp} {x : Rv} {v : V} (e : ExN H H1) (h : RR K H1 H' x v) : RR K H H' x v := by
  cases x with
  | v d => exact h
  | fr xs =>
    obtain ⟨p, us, e1, e2, e3, e4⟩ := h
    exact ⟨p, us, e1, e2.back e, e3, e4⟩
def RSl (K : PySem.W.Frag) (H : Hp) : Slot → V → Prop
  | .val d, v => RD K H d v
  | .own xs t, v => ∃ p us, v = .ref p ∧ H p = some (.lst us) ∧ RDs K H xs us ∧ ∀ a, t = some a → p = a
structure RE (K : PySem.W.Frag) (H : Hp) (r : Env) (σ : St) : Prop where
  at_ : ∀ (i : Nat) (s : Slot), r[i]? = some (some s) → ∃ v, σ[i]? = some (some v) ∧ RSl K H s v
  inj : ∀ (i j : Nat) (xs ys : List D) (t u : Option Addr) (v : V), r[i]? = some (some (.own xs t)) → r[j]? = some (some (.own ys u)) → σ[i]? = some (some v) → σ[j]? = some (some v) → i = j
  len : r.length = σ.length
theorem RSl.ext {K : PySem.W.Frag} {H H' : Hp} {s : Slot} {v : V} (x : ExN H H') (h : RSl K H s v) : RSl K H' s v := by
  cases s with
  | val d => exact RD.stb (ExN.stb x) h
  | own xs t =>
    obtain ⟨p, us, e1, e2, r, ta⟩ := h
    exact ⟨p, us, e1, x _ _ e2 (fun _ z => nomatch z), r.stb (ExN.stb x), ta⟩
theorem RE.ext {K : PySem.W.Frag} {H H' : Hp} {r : Env} {σ : St} (x : ExN H H') (h : RE K H r σ) : RE K H' r σ :=
  ⟨fun i s e => by
    obtain ⟨v, e1, q⟩ := h.at_ i s e
    exact ⟨v, e1, q.ext x⟩, h.inj, h.len⟩
def RX (K : PySem.W.Frag) (fl : Str → List Str) (H : Hp) (c : Str) (ds : List D) (cls : Value) (d : Option Addr) : Prop :=
  cls = .ref (He.ga K c) ∧ (match fl c with
    | [] => d = none ∧ ds = []
    | fs => ∃ dx vs, d = some dx ∧ H dx = some (.xd (fs.zip vs)) ∧ vs.length = fs.length ∧ RDs K H ds vs)
/-- what the engine is told of a program -/
structure Cfg where
  K : PySem.W.Frag
  B : Lib
  T : List (Addr × Str)
  fl : Str → List Str
section
variable (G : Cfg) (C : Call) (W : WX)
abbrev Tb (H : Hp) : Prop := LamX.Tabs G.T H
/-- the wish about errors, told of data -/
def exq (σ : St) (H : Hp) : XP := fun c ds => ∀ cls d H', RX G.K G.fl H' c ds cls d → ExN H H' → Tb G H' → W cls d σ H'
def rdR (e : Ex) : TE := fun σ H Q => ∃ r, RE G.K H r σ ∧ Tb G H ∧ evR G.B C e r (fun x => ∀ v H', RR G.K H H' x v → ExN H H' → Tb G H' → Q v H') (exq G W σ H)
def rdV (e : Ex) : TE := fun σ H Q => ∃ r, RE G.K H r σ ∧ Tb G H ∧ evR G.B C e r (fun x => ∀ v H', RD G.K H' x.d v → ExN H H' → Tb G H' → Q v H') (exq G W σ H)
def rdS (e : Ex) : TE := fun σ H Q => ∃ r, RE G.K H r σ ∧ Tb G H ∧ evS G.B C e r (fun d => ∀ v H', RB G.K H' d v → ExN H H' → Tb G H' → Q v H') (exq G W σ H)
def rdT (e : Ex) : TT := fun σ H Q => ∃ r, RE G.K H r σ ∧ Tb G H ∧ evT G.B C e r (fun b => ∀ H', ExN H H' → Tb G H' → Q b H') (exq G W σ H)
def rdA (es : Exs) : TA := fun σ H Q => ∃ r, RE G.K H r σ ∧ Tb G H ∧ (evAs G.B C es r).R (fun xs => ∀ vs H', RDs G.K H' xs vs → ExN H H' → Tb G H' → Q vs H') (exq G W σ H)
def RBs (K : PySem.W.Frag) (H : Hp) (ds : List D) (vs : List V) : Prop := Paired (RB K H) ds vs
def rdAS (es : Exs) : TA := fun σ H Q => ∃ r, RE G.K H r σ ∧ Tb G H ∧ (evAs G.B C es r).S (fun xs => ∀ vs H', RBs G.K H' xs vs → ExN H H' → Tb G H' → Q vs H') (exq G W σ H)
end
theorem exq.ext {G : Cfg} {W : WX} {σ : St} {H H' : Hp} (x : ExN H H') (c : Str) (ds : List D) (h : exq G W σ H c ds) : exq G W σ H' c ds :=
  fun cls d H2 r x2 t => h cls d H2 r (x.trans x2) t
theorem RBs.ext {K : PySem.W.Frag} {H H' : Hp} (x : ExN H H') : ∀ {ds : List D} {vs : List V}, RBs K H ds vs → RBs K H' ds vs
  | _, _, .nil => .nil
  | _, _, .cons r q => .cons (r.ext x) (RBs.ext x q)
/-! ### weaker readings -/
section
variable {X : Cx}
theorem PE.imp {e : Expr} {t t' : TE} (h : PE X e t) (w : ∀ σ H Q, t' σ H Q → t σ H Q) : PE X e t' := ⟨fun pins s σ H Q I q => h.run pins s σ H Q I (w σ H Q q)⟩
theorem PT.imp {e : Expr} {t t' : TT} (h : PT X e t) (w : ∀ σ H Q, t' σ H Q → t σ H Q) : PT X e t' := ⟨fun pins s σ H Q I q => h.run pins s σ H Q I (w σ H Q q)⟩
theorem PW.imp {e : Expr} {t t' : TT} (h : PW X e t) (w : ∀ σ H Q, t' σ H Q → t σ H Q) : PW X e t' := ⟨fun wh pins s σ H Q I q => h.run wh pins s σ H Q I (w σ H Q q)⟩
theorem PA.imp {e : List Expr} {t t' : TA} (h : PA X e t) (w : ∀ σ H Q, t' σ H Q → t σ H Q) : PA X e t' := ⟨fun pos pins s σ H Q I q => h.run pos pins s σ H Q I (w σ H Q q)⟩
theorem PS.imp {e : Stmt} {t t' : TS} (h : PS X e t) (w : ∀ D σ H, t' D σ H → t D σ H) : PS X e t' := ⟨fun pins s σ H D I q => h.run pins s σ H D I (w D σ H q)⟩
theorem PSs.imp {e : List Stmt} {t t' : TS} (h : PSs X e t) (w : ∀ D σ H, t' D σ H → t D σ H) : PSs X e t' := ⟨fun pins s σ H D I q => h.run pins s σ H D I (w D σ H q)⟩
/-! ### a list is frozen -/
theorem Inv.freeze {pins : List (Addr × Obj)} {σ : St} {H : Hp} {s : Shared} {p : Addr} {xs : List V} (I : Inv X pins σ H s) (h : H p = some (.lst xs)) : ∃ o, Inv X pins σ (upd H p (.frz o (.lst xs))) s := by
  have ok := I.hok p _ h
  obtain ⟨z, its, n, r, e⟩ := id ok
  refine ⟨_, I.un (h' := s.heap) (t' := s.toks) (H' := upd H p (.frz { cls := .type "list", data := .seq its.toArray n } (.lst xs))) ⟨fun b o q _ _ _ => q, fun b o q _ _ _ => ⟨o.slots, q⟩, fun b o _ n _ => ?_, fun b o q _ => ⟨o, q⟩, fun b ys q => ?_, fun b o u q => ?_, fun b ps q => ⟨#[], ?_⟩⟩ fun b u q => ?_⟩
  · rw [upd_ne (ne_of_none h n).symm]
    exact n
  · rw [upd_ne (ne_of q h (fun z => nomatch z))]
    exact q
  · rw [upd_ne (ne_of q h (fun z => nomatch z))]
    exact q
  · rw [upd_ne (ne_of q h (fun z => nomatch z)), q]
    simp
  · by_cases hb : b = p
    · subst hb
      rw [upd_same] at q
      cases q
      exact ⟨e, z, its, n, r, e⟩
    · rw [upd_ne hb] at q
      refine (I.hok b u q).stay (fun c v _ e => e) (fun c q => ?_) fun c ys q => ?_
      · rw [upd_ne (ne_of q h (fun z => nomatch z))]
        exact q
      · rw [upd_ne (ne_of q h (fun z => nomatch z))]
        exact q
theorem Tabs.frz {T : List (Addr × Str)} {H : Hp} {p : Addr} {xs : List V} {o : Obj} (t : LamX.Tabs T H) (h : H p = some (.lst xs)) : LamX.Tabs T (upd H p (.frz o (.lst xs))) := fun q hq => by
  obtain ⟨ps, h1, h2, h3⟩ := t q hq
  refine ⟨ps, ?_, h2, fun pos cv hc => ?_⟩
  · rw [upd_ne (ne_of h1 h (fun z => nomatch z))]
    exact h1
  · obtain ⟨c, e1, e2⟩ := h3 pos cv hc
    refine ⟨c, e1, ?_⟩
    rw [upd_ne (ne_of e2 h (fun z => nomatch z))]
    exact e2
theorem Tabs.new {T : List (Addr × Str)} {H : Hp} {p : Addr} {o : HO} (t : LamX.Tabs T H) (h : H p = none) : LamX.Tabs T (upd H p o) := t.ext fun b u e => by
  rw [upd_ne (ne_of_none e h)]
  exact e
theorem RDs.frz {K : PySem.W.Frag} {H : Hp} {p : Addr} {us : List V} {o : Obj} (h : H p = some (.lst us)) {ds : List D} {vs : List V} (r : RDs K H ds vs) : RDs K (upd H p (.frz o (.lst us))) ds vs :=
  r.stb fun b u e n _ => by
    rw [upd_ne (fun z => n us (by rw [z, h] at e; exact (Option.some.inj e).symm))]
    exact e
theorem pe_frz {G : Cfg} {C : Call} {W : WX} {e : Expr} {i : Ex} (hB : G.B.Mono) (hC : MonoC C) (h : PE X e (rdR G C W i)) : PE X e (rdV G C W i) := by
  refine ⟨fun pins s σ H Q I q => ?_⟩
  obtain ⟨r, re, tb, q⟩ := q
  refine thn (h.run pins s σ H (fun v H1 => Tb G H1 ∧ ((∀ H2, H2 = H1 → Q v H2) ∨ ∃ p us, H1 p = some (.lst us) ∧ ∀ o, Q v (upd H1 p (.frz o (.lst us))))) I ⟨r, re, tb, (evP_mono hB hC i r).R _ _ _ _ (fun x z v H' rr x2 t => ?_) (fun _ _ z => z) q⟩) fun u s1 ⟨v, H1, I1, rv, tb1, z⟩ => ?_
  · refine ⟨t, ?_⟩
    cases x with
    | v d => exact .inl fun H2 e => by rw [e]; exact z v H' rr x2 t
    | fr xs =>
      obtain ⟨p, us, e1, e2, e3, e4⟩ := rr
      refine .inr ⟨p, us, e3, fun o => ?_⟩
      refine z v _ ?_ (ExN.frz x2 e2) (Tabs.frz t e3)
      rw [e1]
      exact .lst (.inl ⟨o, upd_same⟩) (RDs.frz e3 e4)
  · rcases z with z | ⟨p, us, e, z⟩
    · exact ⟨v, H1, I1, rv, z H1 rfl⟩
    · obtain ⟨o, I2⟩ := Inv.freeze I1 e
      exact ⟨v, _, I2, rv, z o⟩
/-- from the value as it comes to the value that is only read -/
theorem rdS_of {G : Cfg} {C : Call} {W : WX} {e : Expr} {i : Ex} (hB : G.B.Mono) (hC : MonoC C) (hn : ∀ k, i ≠ .var k) (h : PE X e (rdV G C W i)) : PE X e (rdS G C W i) := by
  refine PE.imp h fun σ H Q q => ?_
  obtain ⟨r, re, tb, q⟩ := q
  refine ⟨r, re, tb, ?_⟩
  have e : evS G.B C i r (fun d => ∀ v H', RB G.K H' d v → ExN H H' → Tb G H' → Q v H') (exq G W σ H) → evR G.B C i r (fun x => ∀ v H', RB G.K H' x.d v → ExN H H' → Tb G H' → Q v H') (exq G W σ H) := by
    intro z
    cases i <;> first
      | exact z
      | exact absurd rfl (hn _)
  exact (evP_mono hB hC i r).R _ _ _ _ (fun x z v H' rd => z v H' (.inl rd)) (fun _ _ z => z) (e q)
end
end En
namespace En
open PySem L2 PyProof.Rows TL
/-! Xm1: t * 1 of a tuple; t == () of any tuple; a dict that stays as it is. -/
open PySem.Spec
theorem tuple_mul1 (l : Addr) (items : Array Value) (n : Nat) (dd : Option Addr) (sl : Array (Option Value)) (u : Tok) :
    Meets (Builtin.«tuple.__mul__» ⟨[.ref l, .int 1 u], []⟩) (fun _ R s => s.heap.get? l = some { cls := .type "tuple", dict := dd, data := .seq items n, slots := sl } ∧ R (.ok (.ret (Value.ref l))) s) :=
  .of_wp fun prog w A R s h => by
    obtain ⟨hp, g, d, tk, os⟩ := s
    obtain ⟨hl, h⟩ := h
    have f1 := AutoSeq1.idx_int
    wp_walk using wpAny_loadPart' hl
    exact ⟨_, rfl, h⟩
theorem tuple_eq0 (l b : Addr) (items : Array Value) (n n2 : Nat) (dd dd2 : Option Addr) (sl sl2 : Array (Option Value)) :
    Meets (Builtin.«tuple.__eq__» ⟨[.ref l, .ref b], []⟩) (fun _ R s => s.heap.get? l = some { cls := .type "tuple", dict := dd, data := .seq items n, slots := sl } ∧ s.heap.get? b = some { cls := .type "tuple", dict := dd2, data := .seq #[] n2, slots := sl2 } ∧ R (.ok (.ret (Value.bool (items.size == 0)))) s) :=
  .of_wp fun prog w A R s h => by
    obtain ⟨hp, g, d, tk, os⟩ := s
    obtain ⟨hl, hb, h⟩ := h
    wp_walk using wpAny_loadPart' hl
    refine wpAny_of_eq (a := true) isSubtype_tuple_tuple ?_
    rw [if_neg (by decide)]
    refine wpAny_bind (tupleItemsOf_ ⟨_, hl, rfl, n, rfl⟩ (wpAny_bind (tupleItemsOf_ ⟨_, hb, rfl, n2, rfl⟩ ?_)))
    have ez : items.toList.zip (#[] : Array Value).toList = [] := by simp
    rw [ez]
    simp only [List.forIn_nil]
    refine wpAny_bind (wpAny_pure ?_)
    have e : Builtin.Tuple.tupleCompareSizes CmpOp.Eq items.size (#[] : Array Value).size = .bool (items.size == 0) := by
      unfold Builtin.Tuple.tupleCompareSizes
      rfl
    show wpAny _ _ (ret (Builtin.Tuple.tupleCompareSizes CmpOp.Eq items.size (#[] : Array Value).size)) _ _ _
    rw [e]
    exact wpAny_pure ⟨_, rfl, h⟩
theorem tuple_ne0 (l b : Addr) (items : Array Value) (n n2 : Nat) (dd dd2 : Option Addr) (sl sl2 : Array (Option Value)) :
    Meets (Builtin.«tuple.__ne__» ⟨[.ref l, .ref b], []⟩) (fun _ R s => s.heap.get? l = some { cls := .type "tuple", dict := dd, data := .seq items n, slots := sl } ∧ s.heap.get? b = some { cls := .type "tuple", dict := dd2, data := .seq #[] n2, slots := sl2 } ∧ R (.ok (.ret (Value.bool (items.size != 0)))) s) :=
  .of_wp fun prog w A R s h => by
    obtain ⟨hp, g, d, tk, os⟩ := s
    obtain ⟨hl, hb, h⟩ := h
    wp_walk using wpAny_loadPart' hl
    refine wpAny_of_eq (a := true) isSubtype_tuple_tuple ?_
    rw [if_neg (by decide)]
    refine wpAny_bind (tupleItemsOf_ ⟨_, hl, rfl, n, rfl⟩ (wpAny_bind (tupleItemsOf_ ⟨_, hb, rfl, n2, rfl⟩ ?_)))
    have ez : items.toList.zip (#[] : Array Value).toList = [] := by simp
    rw [ez]
    simp only [List.forIn_nil]
    refine wpAny_bind (wpAny_pure ?_)
    have e : Builtin.Tuple.tupleCompareSizes CmpOp.NotEq items.size (#[] : Array Value).size = .bool (items.size != 0) := by
      unfold Builtin.Tuple.tupleCompareSizes
      rfl
    show wpAny _ _ (ret (Builtin.Tuple.tupleCompareSizes CmpOp.NotEq items.size (#[] : Array Value).size)) _ _ _
    rw [e]
    exact wpAny_pure ⟨_, rfl, h⟩
section
variable {X : Cx}
theorem op_rep1 : OpR X (binaryOp .Mult) (fun x y H Q => ∃ l xs, x = .ref l ∧ y = .int 1 ∧ SqT X.K H l xs ∧ Q (.ref l) H) := by
  intro pins s σ H x y v u Q I rx ry h
  obtain ⟨l, xs, rfl, rfl, hT, q⟩ := h
  cases rx
  obtain ⟨t, rfl⟩ := ry
  obtain ⟨its, r, ⟨⟨cls, dd, data, sl⟩, ho, hc, n, hd⟩, hs⟩ := I.tuple hT
  simp only at hc hd
  subst hc hd
  refine wpAny_binaryOp_repeat_ref (T := "tuple") (U := "int") (by decide) ⟨_, ho, rfl⟩ (fun s' => typeIs_int s' 1 t) noFill_tuple_mul F.fills_int_mul F.slot_int_rmul repeat_tuple F.slot_int_index.lookup
    (call_meets F.slot_int_rmul (typeIs_int s 1 t) F.entry_int_rmul (F.args_int_rmul_2 _ _) (int_rmul_tuple 1 t l its.toArray n dd sl)
      ⟨ho, rfl, ⟨_, ho, rfl⟩, call_meets F.slot_tuple_mul ⟨_, ho, rfl⟩ F.entry_tuple_mul (F.args_tuple_mul_2 _ _) (tuple_mul1 l its.toArray n dd sl t) ⟨ho, ⟨.ref l, H, I, rfl, q⟩⟩⟩)
theorem op_eq0 (hu : X.A.units < cLine) : OpR X (compareOp .Eq) (fun x y H Q => ∃ l b xs, x = .ref l ∧ y = .ref b ∧ SqT X.K H l xs ∧ SqT X.K H b [] ∧ Q (.bl xs.isEmpty) H) := by
  intro pins s σ H x y v u Q I rx ry h
  obtain ⟨l, b, xs, rfl, rfl, hT, hB, q⟩ := h
  cases rx
  cases ry
  obtain ⟨its, r, ⟨⟨cls, dd, data, sl⟩, ho, hc, n, hd⟩, hs⟩ := I.tuple hT
  simp only at hc hd
  subst hc hd
  obtain ⟨its2, r2, ⟨⟨cls2, dd2, data2, sl2⟩, ho2, hc2, n2, hd2⟩, hs2⟩ := I.tuple hB
  simp only at hc2 hd2
  subst hc2 hd2
  cases r2
  refine richCompare_meets_room (op := .Eq) ⟨_, ho, rfl⟩ ⟨_, ho2, rfl⟩ F.slot_tuple_eq F.entry_tuple_eq (F.args_tuple_eq_2 _ _) (tuple_eq0 l b its.toArray n n2 dd dd2 sl sl2) ⟨ho, ho2, (fun z => nomatch z), ?_⟩ hu
  have e : (its.toArray.size == 0) = xs.isEmpty := by
    have hl := r.length
    rw [List.size_toArray, ← hl]
    cases xs <;> rfl
  rw [e]
  exact ⟨.bl xs.isEmpty, H, I, rfl, q⟩
theorem op_ne0 (hu : X.A.units < cLine) : OpR X (compareOp .NotEq) (fun x y H Q => ∃ l b xs, x = .ref l ∧ y = .ref b ∧ SqT X.K H l xs ∧ SqT X.K H b [] ∧ Q (.bl (!xs.isEmpty)) H) := by
  intro pins s σ H x y v u Q I rx ry h
  obtain ⟨l, b, xs, rfl, rfl, hT, hB, q⟩ := h
  cases rx
  cases ry
  obtain ⟨its, r, ⟨⟨cls, dd, data, sl⟩, ho, hc, n, hd⟩, hs⟩ := I.tuple hT
  simp only at hc hd
  subst hc hd
  obtain ⟨its2, r2, ⟨⟨cls2, dd2, data2, sl2⟩, ho2, hc2, n2, hd2⟩, hs2⟩ := I.tuple hB
  simp only at hc2 hd2
  subst hc2 hd2
  cases r2
  refine richCompare_meets_room (op := .NotEq) ⟨_, ho, rfl⟩ ⟨_, ho2, rfl⟩ F.slot_tuple_ne F.entry_tuple_ne (F.args_tuple_ne_2 _ _) (tuple_ne0 l b its.toArray n n2 dd dd2 sl sl2) ⟨ho, ho2, (fun z => nomatch z), ?_⟩ hu
  have e : (its.toArray.size != 0) = !xs.isEmpty := by
    have hl := r.length
    rw [List.size_toArray, ← hl]
    cases xs <;> rfl
  rw [e]
  exact ⟨.bl (!xs.isEmpty), H, I, rfl, q⟩
theorem plain_isl {h : Heap} {a : Addr} {its : Array Value} (z : PlainL h a its) : h.IsList a its := by
  obtain ⟨o, n, e1, e2, _, e3⟩ := z
  exact ⟨o, e1, e2, n, e3⟩
theorem op_eqL0 (hu : X.A.units < cLine) : OpR X (compareOp .Eq) (fun x y H Q => ∃ l b xs, x = .ref l ∧ y = .ref b ∧ SqL X.K H l xs ∧ SqL X.K H b [] ∧ Q (.bl xs.isEmpty) H) := by
  intro pins s σ H x y v u Q I rx ry h
  obtain ⟨l, b, xs, rfl, rfl, hT, hB, q⟩ := h
  cases rx
  cases ry
  obtain ⟨its, r, hl, _⟩ := I.list hT
  obtain ⟨its2, r2, hl2, _⟩ := I.list hB
  cases r2
  have e : (its.toArray.size == 0) = xs.isEmpty := by
    have hl := r.length
    rw [List.size_toArray, ← hl]
    cases xs <;> rfl
  by_cases h0 : its.toArray.size = 0
  · have e2 : xs.isEmpty = true := by rw [← e, h0]; rfl
    rw [e2] at q
    refine PySem.SeqAt.RcAt.lists (e := fun _ => true) (plain_isl hl) (plain_isl hl2) (by rw [h0]; rfl) hu (fun j h1 h2 => absurd h1 (by omega)) _ _ _ _ ?_
    have e3 : (List.range its.toArray.size).all (fun _ => true) = true := by simp
    rw [e3]
    exact ⟨.bl true, H, I, rfl, q⟩
  · have e2 : xs.isEmpty = false := by rw [← e]; simpa using h0
    rw [e2] at q
    refine PySem.SeqAt.RcAt.lists_lengths (plain_isl hl) (plain_isl hl2) (by simpa using h0) hu _ _ _ _ ?_
    exact ⟨.bl false, H, I, rfl, q⟩
theorem op_neL0 (hu : X.A.units < cLine) : OpR X (compareOp .NotEq) (fun x y H Q => ∃ l b xs, x = .ref l ∧ y = .ref b ∧ SqL X.K H l xs ∧ SqL X.K H b [] ∧ Q (.bl (!xs.isEmpty)) H) := by
  intro pins s σ H x y v u Q I rx ry h
  obtain ⟨l, b, xs, rfl, rfl, hT, hB, q⟩ := h
  cases rx
  cases ry
  obtain ⟨its, r, hl, _⟩ := I.list hT
  obtain ⟨its2, r2, hl2, _⟩ := I.list hB
  cases r2
  have e : (its.toArray.size == 0) = xs.isEmpty := by
    have hl := r.length
    rw [List.size_toArray, ← hl]
    cases xs <;> rfl
  by_cases h0 : its.toArray.size = 0
  · have e2 : xs.isEmpty = true := by rw [← e, h0]; rfl
    rw [e2] at q
    refine PySem.SeqAt.RcNeAt.lists (e := fun _ => true) (plain_isl hl) (plain_isl hl2) (by rw [h0]; rfl) hu (fun j h1 h2 => absurd h1 (by omega)) _ _ _ _ ?_
    have e3 : (!(List.range its.toArray.size).all (fun _ => true)) = false := by simp
    rw [e3]
    exact ⟨.bl false, H, I, rfl, q⟩
  · have e2 : xs.isEmpty = false := by rw [← e]; simpa using h0
    rw [e2] at q
    refine PySem.SeqAt.RcNeAt.lists_lengths (plain_isl hl) (plain_isl hl2) (by simpa using h0) hu _ _ _ _ ?_
    exact ⟨.bl true, H, I, rfl, q⟩
end
/-! ### a dict that stays as it is -/
section
variable {X : Cx}
theorem upd2 {H : Hp} {p : Addr} {o u : HO} : upd (upd H p o) p u = upd H p u := by
  funext b
  by_cases e : b = p
  · rw [e, upd_same, upd_same]
  · rw [upd_ne e, upd_ne e, upd_ne e]
theorem pe_dct0 {pos : Pos} : PE X (.Dict [] [] pos) (fun _ H Q => ∀ p o, H p = none → Q (.ref p) (upd H p (.frz o (.dK [])))) := ⟨fun pins s σ H Q I h =>
  wpAny_Dict_empty ⟨.ref s.heap.objs.size, _, I.laid (a := s.heap.objs.size) (o := .frz { cls := .type "dict", data := .dict #[] } (.dK [])) (t' := s.toks) (fun _ _ q => Heap.get?_push_of_some _ q) (Nat.le_refl _) ⟨Heap.get?_push_size _ rfl, dk_empty s.heap I.big⟩, rfl, h _ _ (I.hok.fresh (Nat.le_refl _))⟩⟩
theorem Inv.freezeK {pins : List (Addr × Obj)} {σ : L2.St} {H : Hp} {s : Shared} {p : Addr} {kvs : List (Key × V)} (I : Inv X pins σ H s) (h : H p = some (.dK kvs)) : ∃ o, Inv X pins σ (upd H p (.frz o (.dK kvs))) s := by
  have ok := I.hok p _ h
  obtain ⟨z, hm, vs, kv, o, es, ep, e, rest⟩ := id ok
  refine ⟨o, I.un (h' := s.heap) (t' := s.toks) (H' := upd H p (.frz o (.dK kvs))) ⟨fun b o q _ _ _ => q, fun b o q _ _ _ => ⟨o.slots, q⟩, fun b o _ n _ => ?_, fun b o q _ => ⟨o, q⟩, fun b ys q => ?_, fun b o u q => ?_, fun b ps q => ⟨#[], ?_⟩⟩ fun b u q => ?_⟩
  · rw [upd_ne (ne_of_none h n).symm]
    exact n
  · rw [upd_ne (ne_of q h (fun z => nomatch z))]
    exact q
  · rw [upd_ne (ne_of q h (fun z => nomatch z))]
    exact q
  · rw [upd_ne (ne_of q h (fun z => nomatch z)), q]
    simp
  · by_cases hb : b = p
    · subst hb
      rw [upd_same] at q
      cases q
      exact ⟨e, z, hm, vs, kv, o, es, ep, e, rest⟩
    · rw [upd_ne hb] at q
      refine (I.hok b u q).stay (fun c v _ e => e) (fun c q => ?_) fun c ys q => ?_
      · rw [upd_ne (ne_of q h (fun z => nomatch z))]
        exact q
      · rw [upd_ne (ne_of q h (fun z => nomatch z))]
        exact q
theorem pe_dct1 {k : Str} {j : Nat} {p1 pos : Pos} {v : Expr} {y : V} (hv : PE X v (tC y)) : PE X (.Dict [some (.Constant (.str k) j p1)] [v] pos) (fun _ H Q => ∀ p o, H p = none → Q (.ref p) (upd H p (.frz o (.dK [(.inr k, y)])))) := by
  refine ⟨fun pins s σ H Q I h => ?_⟩
  refine thn ((pe_disp (pps_cons (pe_str (x := k) (j := j) (pos := p1)) hv pps_nil) rfl rfl (by simp) (by simp)).run pins s σ H (fun w H1 => ∃ p, w = .ref p ∧ H p = none ∧ H1 = upd H p (.dK [(.inr k, y)])) I fun p hp => ?_) fun u s1 ⟨w, H1, I1, rw1, p, e1, e2, e3⟩ => ?_
  · refine ⟨upd_same, [(.inr k, y)], rfl, by simp, p, rfl, hp, ?_⟩
    rw [upd2]
    rfl
  · subst e1 e3
    obtain ⟨o, I2⟩ := Inv.freezeK I1 (upd_same (H := H) (a := p))
    rw [upd2] at I2
    exact ⟨_, _, I2, rw1, h p o e2⟩
end
theorem RDs.rep {K : PySem.W.Frag} {H : Hp} {ds : List D} {vs : List V} (h : RDs K H ds vs) : ∀ n : Nat, RDs K H (List.replicate n ds).flatten (List.replicate n vs).flatten
  | 0 => .nil
  | n + 1 => by
    rw [List.replicate_succ, List.replicate_succ, List.flatten_cons, List.flatten_cons]
    exact h.append (RDs.rep h n)
theorem RDs.emp {K : PySem.W.Frag} {H : Hp} {d : List D} {v : List V} (h : RDs K H d v) : v.isEmpty = d.isEmpty := by
  cases h <;> rfl
section
variable {X : Cx} {G : Cfg} {C : Call} {W : WX}
theorem p_dct0 {pos : Pos} : PE X (.Dict [] [] pos) (rdR G C W (.dct [])) := PE.imp pe_dct0 fun σ H Q ⟨r, re, tb, z⟩ p o hp => by
  have x : ∀ b u, H b = some u → upd H p (.frz o (.dK [])) b = some u := fun b u e => by
    rw [upd_ne (ne_of_none e hp)]
    exact e
  exact z _ _ (.dic (xs := []) (by rw [upd_same]; rfl) rfl .nil) (LamX.ExtN.of x) (Tabs.new tb hp)
theorem p_dct1 {k : Str} {j : Nat} {p1 pos : Pos} {v : Expr} {y : V} {d : D} (hv : PE X v (tC y)) (hd : ∀ H, RD G.K H d y) : PE X (.Dict [some (.Constant (.str k) j p1)] [v] pos) (rdR G C W (.dct [(.inr k, d)])) := PE.imp (pe_dct1 hv) fun σ H Q ⟨r, re, tb, z⟩ p o hp => by
  have x : ∀ b u, H b = some u → upd H p (.frz o (.dK [(.inr k, y)])) b = some u := fun b u e => by
    rw [upd_ne (ne_of_none e hp)]
    exact e
  exact z _ _ (.dic (xs := [y]) (by rw [upd_same]; rfl) rfl (.cons (hd _) .nil)) (LamX.ExtN.of x) (Tabs.new tb hp)
end
end En
/-! En4: the operators, by values. -/
namespace En
open PySem L2 PyProof.Rows
abbrev St := L2.St
section
variable {X : Cx} {G : Cfg}
/-- a list that is read, in the heap itself -/
theorem RB.obj {pins : List (Addr × Obj)} {σ : St} {H : Hp} {s : Shared} {K : PySem.W.Frag} {xs : List D} {v : V} (hK : X.K = K) (I : Inv X pins σ H s) (h : RB K H (.lst xs) v) :
    ∃ p us its n, v = .ref p ∧ RDs K H xs us ∧ us.length ≤ sizeLine ∧ Vals us its ∧ s.heap.get? p = some { cls := .type "list", data := .seq its.toArray n } := by
  rcases h with h | ⟨xs', p, us, e1, e2, e3, r⟩
  · cases h with
    | lst h r =>
      rcases h with ⟨o, e⟩ | ⟨its, n, hk, hz, rv⟩
      · obtain ⟨_, z, its, n, rv, e2⟩ := I.hok _ _ e
        exact ⟨_, _, its, n, rfl, r, z, rv, e2⟩
      · exact ⟨_, _, its, n, rfl, r, by rw [rv.length]; exact hz, rv, I.kIn _ _ (by rw [hK]; exact hk)⟩
  · cases e1
    obtain ⟨z, its, n, rv, e4⟩ := I.hok _ _ e3
    exact ⟨p, us, its, n, e2, r, z, rv, e4⟩
/-- the end of an expression -/
abbrev fin (G : Cfg) (H : Hp) (Q : VK) : Rv → Prop := fun x => ∀ v H', RR G.K H H' x v → ExN H H' → Tb G H' → Q v H'
def rBin (G : Cfg) (op : Operator) : R2 := fun x y H Q => ∃ dx dy, RB G.K H dx x ∧ RB G.K H dy y ∧ Tb G H ∧ binW op dx dy (fin G H Q)
theorem notL_int (i : Int) : ∀ xs, D.int i ≠ .lst xs := fun _ z => nomatch z
theorem notL_str (i : Str) : ∀ xs, D.str i ≠ .lst xs := fun _ z => nomatch z
theorem notL_tup (i : List D) : ∀ xs, D.tup i ≠ .lst xs := fun _ z => nomatch z
theorem RB.int {K : PySem.W.Frag} {H : Hp} {i : Int} {v : V} (h : RB K H (.int i) v) : v = .int i := by
  cases h.rd (notL_int i)
  rfl
theorem RB.str {K : PySem.W.Frag} {H : Hp} {i : Str} {v : V} (h : RB K H (.str i) v) : v = .str i := by
  cases h.rd (notL_str i)
  rfl
theorem RB.bl {K : PySem.W.Frag} {H : Hp} {i : Bool} {v : V} (h : RB K H (.bl i) v) : v = .bl i := by
  cases h.rd (fun _ z => nomatch z)
  rfl
theorem RB.tup {K : PySem.W.Frag} {H : Hp} {i : List D} {v : V} (h : RB K H (.tup i) v) : ∃ p us, v = .ref p ∧ SqT K H p us ∧ RDs K H i us := by
  cases h.rd (notL_tup i) with
  | tup q r => exact ⟨_, _, rfl, q, r⟩
theorem op_mulX : OpR X (binaryOp .Mult) (rI IntMulOk fun i j => .int (i * j)) := opI fun _ _ _ _ _ _ _ hc q => mul_int q hc
theorem fin_same {H : Hp} {Q : VK} {d : D} {v : V} (t : Tb G H) (z : fin G H Q (.v d)) (r : RD G.K H d v) : Q v H := z v H r (LamX.ExtN.refl H) t
theorem fin_tup {H : Hp} {Q : VK} {ds : List D} {vs : List V} (t : Tb G H) (z : fin G H Q (.v (.tup ds))) (r : RDs G.K H ds vs) (p : Addr) (hp : H p = none) : Q (.ref p) (upd H p (.tup vs)) :=
  z _ _ (.tup (.inl (.inl upd_same)) (r.stb (ExN.stb (ExN.new hp)))) (ExN.new hp) (Tabs.new t hp)
theorem fin_fr {H : Hp} {Q : VK} {ds : List D} {vs : List V} (t : Tb G H) (z : fin G H Q (.fr ds)) (r : RDs G.K H ds vs) (p : Addr) (hp : H p = none) : Q (.ref p) (upd H p (.lst vs)) :=
  z _ _ ⟨p, vs, rfl, Fr.of hp, upd_same, r.stb (ExN.stb (ExN.new hp))⟩ (ExN.new hp) (Tabs.new t hp)
theorem op_bin (hK : X.K = G.K) (op : Operator) : OpR X (binaryOp op) (rBin G op) := by
  intro pins s σ H x y v u Q I rx ry h
  obtain ⟨dx, dy, hx, hy, t, z⟩ := h
  unfold binW at z
  split at z
  · have ex := hx.int
    have ey := hy.int
    subst ex ey
    exact op_add pins s σ H _ _ v u Q I rx ry ⟨_, _, rfl, rfl, fin_same t z (.int _)⟩
  · have ex := hx.str
    have ey := hy.str
    subst ex ey
    exact op_add_str pins s σ H _ _ v u Q I rx ry ⟨_, _, rfl, rfl, z.1, fin_same t z.2 (.str _)⟩
  · obtain ⟨p, us, e1, s1, r1⟩ := hx.tup
    obtain ⟨q, ws, e2, s2, r2⟩ := hy.tup
    subst e1 e2
    have l1 := r1.length
    have l2 := r2.length
    refine op_catA pins s σ H _ _ v u Q I rx ry ⟨p, q, us, ws, rfl, rfl, by rw [hK]; exact s1, by rw [hK]; exact s2, by rw [← l1, ← l2]; exact z.1, fun e => ?_, fun e1 e2 => ?_, fun e1 e2 a ha => ?_⟩
    · subst e
      cases r1
      exact fin_same t z.2 (.tup s2 r2)
    · subst e2
      cases r2
      have z2 := z.2
      rw [List.append_nil] at z2
      exact fin_same t z2 (.tup s1 r1)
    · exact fin_tup t z.2 (r1.append r2) a ha
  · obtain ⟨p, us, its, n, e1, r1, l1, v1, o1⟩ := RB.obj hK I hx
    obtain ⟨q, ws, its2, n2, e2, r2, l2, v2, o2⟩ := RB.obj hK I hy
    subst e1 e2
    cases rx
    cases ry
    have k1 := r1.length
    have k2 := r2.length
    have m1 := v1.length
    have m2 := v2.length
    have z1 := z.1
    refine PySem.P.add_list o1 o2 ?_ (by rw [List.size_toArray, List.size_toArray]; omega)
    have ea : its.toArray ++ its2.toArray = (its ++ its2).toArray := by simp
    rw [ea]
    exact ⟨.ref _, _, I.lnew (t' := s.toks) (v1.append v2) (by rw [List.length_append]; omega), rfl, fin_fr t z.2 (r1.append r2) _ I.fresh⟩
  · have ex := hx.int
    have ey := hy.int
    subst ex ey
    exact op_sub pins s σ H _ _ v u Q I rx ry ⟨_, _, rfl, rfl, fin_same t z (.int _)⟩
  · have ex := hx.int
    have ey := hy.int
    subst ex ey
    exact op_mulX pins s σ H _ _ v u Q I rx ry ⟨_, _, rfl, rfl, z.1, fin_same t z.2 (.int _)⟩
  · obtain ⟨p, us, e1, s1, r1⟩ := hx.tup
    have ey := hy.int
    subst e1 ey
    obtain ⟨z1, z2, z3, z4, z⟩ := z
    have l1 := r1.length
    rename_i xs k
    by_cases hk : k = 1
    · subst hk
      refine op_rep1 pins s σ H _ _ v u Q I rx ry ⟨p, us, rfl, rfl, by rw [hK]; exact s1, ?_⟩
      have e : (List.replicate (1 : Int).toNat xs).flatten = xs := by simp
      rw [e] at z
      exact fin_same t z (.tup s1 r1)
    · refine op_repT pins s σ H _ _ v u Q I rx ry ⟨p, k, us, rfl, rfl, by rw [hK]; exact s1, fun e => z1 ?_, by omega, z3, by omega, fun p1 hp1 => fin_tup t z ?_ p1 hp1⟩
      · rw [e] at l1
        exact List.eq_nil_of_length_eq_zero l1
      · exact r1.rep k.toNat
  · obtain ⟨p, us, its, n, e1, r1, l1, v1, o1⟩ := RB.obj hK I hx
    have ey := hy.int
    subst e1 ey
    obtain ⟨z1, z2, z3, z⟩ := z
    rename_i xs k
    cases rx
    obtain ⟨t', rfl⟩ := ry
    have k1 := r1.length
    have m1 := v1.length
    have bd : its.length * k.toNat ≤ 1000 * 1000 := Nat.mul_le_mul (by omega) (by omega)
    have fit : its.toArray.size * k.toNat ≤ sizeLine := by
      rw [List.size_toArray, sizeLine_eq]
      omega
    refine wpAny_binaryOp_repeat_ref (T := "list") (U := "int") (by decide) ⟨_, o1, rfl⟩ (fun s' => typeIs_int s' k t') noFill_list_mul F.fills_int_mul F.slot_int_rmul repeat_list F.slot_int_index.lookup
      (call_meets F.slot_int_rmul (typeIs_int s k t') F.entry_int_rmul (F.args_int_rmul_2 _ _) (int___rmul___int_list k t' p its.toArray n)
        ⟨o1, rfl, ⟨_, o1, rfl⟩, call_meets F.slot_list_mul ⟨_, o1, rfl⟩ F.entry_list_mul (F.args_list_mul_2 _ _) (AutoListH.list___mul___list_int_3 p its.toArray n k t' (by rw [fitsIndex_both (by omega) (by omega)]; exact Bool.false_ne_true) (by rw [List.size_toArray]; omega) (by rw [notLongL fit]; exact Bool.false_ne_true)) ⟨o1, ?_⟩⟩)
    have hne : List.foldl (fun x1 x2 => x1 ++ x2) #[] (List.replicate (if its.toArray.isEmpty = true then 0 else k.toNat) its.toArray) = (List.replicate k.toNat its).flatten.toArray := by
      cases its with
      | nil => simp
      | cons a r' =>
        rw [if_neg (by simp)]
        have := foldl_rep (a :: r') k.toNat []
        rw [List.nil_append] at this
        exact this
    rw [hne]
    refine ⟨.ref _, _, I.lnew (t' := s.toks) (v1.rep k.toNat) ?_, rfl, fin_fr t z (r1.rep k.toNat) _ I.fresh⟩
    rw [PyProof.Rows.lm_len_rep_flat, m1, Nat.mul_comm, sizeLine_eq]
    omega
  · have ex := hx.int
    have ey := hy.int
    subst ex ey
    exact op_fdiv pins s σ H _ _ v u Q I rx ry ⟨_, _, rfl, rfl, z.1, fin_same t z.2 (.int _)⟩
  · have ex := hx.int
    have ey := hy.int
    subst ex ey
    exact op_mod pins s σ H _ _ v u Q I rx ry ⟨_, _, rfl, rfl, z.1, fin_same t z.2 (.int _)⟩
  · have ex := hx.int
    have ey := hy.int
    subst ex ey
    exact op_pow pins s σ H _ _ v u Q I rx ry ⟨_, _, rfl, rfl, z.1, fin_same t z.2 (.int _)⟩
  · exact z.elim
def rNeg (G : Cfg) : V → Hp → VK → Prop := fun x H Q => ∃ dx, RB G.K H dx x ∧ Tb G H ∧ negW dx (fin G H Q)
theorem un_negD : UnR X (unaryOp .USub) (rNeg G) := by
  intro pins s σ H x v Q I rx h
  obtain ⟨dx, hx, t, z⟩ := h
  unfold negW at z
  split at z
  · have ex := hx.int
    subst ex
    exact un_neg pins s σ H _ v Q I rx ⟨_, rfl, fin_same t z (.int _)⟩
  · exact z.elim
/-! ### comparisons -/
mutual
theorem RD.dp {K : PySem.W.Frag} {H : Hp} : ∀ {d : D} {v : V}, RD K H d v → isDat d = true → Dp K H v (toPy d)
  | _, _, .non, _ => .non
  | _, _, .bl b, _ => .bl b
  | _, _, .int i, _ => .int i
  | _, _, .str x, _ => .str x
  | _, _, .tup h r, e => by
    unfold isDat at e
    unfold toPy
    exact .tup h (RDs.dp r e)
  | _, _, .lst h r, e => by
    unfold isDat at e
    unfold toPy
    exact .lst h.sq (RDs.dp r e)
  | _, _, .dic _ _ _, e => by simp [isDat] at e
  | _, _, .cls _, e => by simp [isDat] at e
  | _, _, .ty _, e => by simp [isDat] at e
  | _, _, .obj _ _, e => by simp [isDat] at e
  | _, _, .pail _, e => by simp [isDat] at e
theorem RDs.dp {K : PySem.W.Frag} {H : Hp} : ∀ {ds : List D} {vs : List V}, RDs K H ds vs → isDats ds = true → DpAll K H vs (toPys ds)
  | _, _, .nil, _ => .nil
  | _, _, .cons r q, e => by
    unfold isDats at e
    unfold toPys
    have e' := Bool.and_eq_true_iff.mp e
    exact .cons (RD.dp r e'.1) (RDs.dp q e'.2)
end
theorem RB.dp {K : PySem.W.Frag} {H : Hp} {d : D} {v : V} (h : RB K H d v) (e : isDat d = true) : Dp K H v (toPy d) := by
  rcases h with h | ⟨xs, p, us, e1, e2, e3, r⟩
  · exact h.dp e
  · subst e1 e2
    unfold isDat at e
    unfold toPy
    exact .lst (.inl (.inl e3)) (r.dp e)
theorem RD.flat {K : PySem.W.Frag} {H : Hp} {d : D} {v : V} (h : RD K H d v) (e : flatD d = true) : flatV v = true := by
  cases h <;> first
    | rfl
    | (simp [flatD] at e)
theorem RDs.flat {K : PySem.W.Frag} {H : Hp} : ∀ {d : List D} {v : List V}, RDs K H d v → d.all flatD = true → v.all flatV = true
  | _, _, .nil, _ => rfl
  | _, _, .cons r q, e => by
    have e' := Bool.and_eq_true_iff.mp (show (_ && _) = true from e)
    show (_ && _) = true
    rw [r.flat e'.1, RDs.flat q e'.2]
    rfl
theorem RD.eqF {K : PySem.W.Frag} {H : Hp} {d e : D} {v u : V} (h : RD K H d v) (k : RD K H e u) (f : flatD d = true) (g : flatD e = true) : eqV v u = eqF d e := by
  cases h <;> first
    | (simp [flatD] at f; done)
    | (cases k <;> first
        | (simp [flatD] at g; done)
        | (simp [eqV, En.eqF]; done)
        | rfl)
theorem RDs.inF {K : PySem.W.Frag} {H : Hp} {e : D} {u : V} (k : RD K H e u) (g : flatD e = true) : ∀ {d : List D} {v : List V}, RDs K H d v → d.all flatD = true → inV u v = d.any fun y => eqF y e
  | _, _, .nil, _ => rfl
  | _, _, .cons r q, f => by
    have e' := Bool.and_eq_true_iff.mp (show (_ && _) = true from f)
    have ih := RDs.inF k g q e'.2
    unfold inV at ih ⊢
    show (eqV _ u || List.any _ fun y => eqV y u) = (En.eqF _ e || List.any _ fun y => En.eqF y e)
    rw [r.eqF k e'.1 g, ih]
abbrev finB (G : Cfg) (H : Hp) (Q : VK) : Bool → Prop := fun b => ∀ H', ExN H H' → Tb G H' → Q (.bl b) H'
def rCmp (G : Cfg) (C : Call) (op : CmpOp) : R2 := fun x y H Q => ∃ dx dy, RB G.K H dx x ∧ RB G.K H dy y ∧ Tb G H ∧ cmpW C op dx dy (finB G H Q)
/-- == and != of own objects -/
structure EqoOk (X : Cx) (G : Cfg) (C : Call) : Prop where
  eq : OpR X (compareOp .Eq) (fun x y H Q => ∃ dx dy, RB G.K H dx x ∧ RB G.K H dy y ∧ Tb G H ∧ isObj dx = true ∧ isObj dy = true ∧ C "__eq__" [dx, dy] (fun r => ∃ b, r = .v (.bl b) ∧ finB G H Q b) E0)
  ne : OpR X (compareOp .NotEq) (fun x y H Q => ∃ dx dy, RB G.K H dx x ∧ RB G.K H dy y ∧ Tb G H ∧ isObj dx = true ∧ isObj dy = true ∧ C "__eq__" [dx, dy] (fun r => ∃ b, r = .v (.bl b) ∧ finB G H Q (!b)) E0)
theorem RB.flat {K : PySem.W.Frag} {H : Hp} {d : D} {v : V} (h : RB K H d v) (e : flatD d = true) : RD K H d v := h.rd fun xs z => by
  subst z
  cases e
theorem finB_same {H : Hp} {Q : VK} {b : Bool} (t : Tb G H) (z : finB G H Q b) : Q (.bl b) H := z H (LamX.ExtN.refl H) t
theorem RB.non_iff {K : PySem.W.Frag} {H : Hp} {d : D} {v : V} (h : RB K H d v) : decide (v = .non) = isNon d := by
  rcases h with h | ⟨xs, p, us, e1, e2, e3, r⟩
  · cases h <;> rfl
  · subst e1 e2
    rfl
/-- x in y, by flat things and by signs -/
theorem in_D (hK : X.K = G.K) {pins : List (Addr × Obj)} {s : Shared} {σ : St} {H : Hp} {x y : V} {v u : Value} {Q : VK} {dx dy : D} (I : Inv X pins σ H s) (rx : RelV x v) (ry : RelV y u) (hx : RB G.K H dx x) (hy : RB G.K H dy y) (t : Tb G H)
    (z : inW dx dy (finB G H Q)) : wpAny (model X.prog X.w) X.A (compareOp .In v u) (EP X pins σ Q) X.xe s := by
  unfold inW at z
  split at z
  · obtain ⟨p, us, e, sq, r⟩ := hy.lst
    subst e
    refine op_in_seq pins s σ H _ _ v u Q I rx ry ⟨p, us, rfl, .inl (by rw [hK]; exact sq), (hx.flat z.1).flat z.1, r.flat z.2.1, ?_⟩
    show Q (.bl (inV x us)) H
    rw [r.inF (hx.flat z.1) z.1 z.2.1]
    exact finB_same t z.2.2
  · obtain ⟨p, us, e, sq, r⟩ := hy.tup
    subst e
    refine op_in_seq pins s σ H _ _ v u Q I rx ry ⟨p, us, rfl, .inr (by rw [hK]; exact sq), (hx.flat z.1).flat z.1, r.flat z.2.1, ?_⟩
    show Q (.bl (inV x us)) H
    rw [r.inF (hx.flat z.1) z.1 z.2.1]
    exact finB_same t z.2.2
  · obtain ⟨c, e, z⟩ := z
    subst e
    have ex := hx.str
    have ey := hy.str
    subst ex ey
    exact op_in_sign pins s σ H _ _ v u Q I rx ry ⟨c, _, rfl, rfl, finB_same t z⟩
  · exact z.elim
theorem notin_D (hK : X.K = G.K) {pins : List (Addr × Obj)} {s : Shared} {σ : St} {H : Hp} {x y : V} {v u : Value} {Q : VK} {dx dy : D} (I : Inv X pins σ H s) (rx : RelV x v) (ry : RelV y u) (hx : RB G.K H dx x) (hy : RB G.K H dy y) (t : Tb G H)
    (z : inW dx dy fun b => finB G H Q (!b)) : wpAny (model X.prog X.w) X.A (compareOp .NotIn v u) (EP X pins σ Q) X.xe s := by
  unfold inW at z
  split at z
  · obtain ⟨p, us, e, sq, r⟩ := hy.lst
    subst e
    refine op_notIn_seq pins s σ H _ _ v u Q I rx ry ⟨p, us, rfl, .inl (by rw [hK]; exact sq), (hx.flat z.1).flat z.1, r.flat z.2.1, ?_⟩
    show Q (.bl (!inV x us)) H
    rw [r.inF (hx.flat z.1) z.1 z.2.1]
    exact finB_same t z.2.2
  · obtain ⟨p, us, e, sq, r⟩ := hy.tup
    subst e
    refine op_notIn_seq pins s σ H _ _ v u Q I rx ry ⟨p, us, rfl, .inr (by rw [hK]; exact sq), (hx.flat z.1).flat z.1, r.flat z.2.1, ?_⟩
    show Q (.bl (!inV x us)) H
    rw [r.inF (hx.flat z.1) z.1 z.2.1]
    exact finB_same t z.2.2
  · obtain ⟨c, e, z⟩ := z
    subst e
    have ex := hx.str
    have ey := hy.str
    subst ex ey
    exact op_notIn_sign pins s σ H _ _ v u Q I rx ry ⟨c, _, rfl, rfl, finB_same t z⟩
  · exact z.elim
theorem op_cmp {C : Call} (hK : X.K = G.K) (hu : X.A.units + 64 < cLine) (ho : EqoOk X G C) (op : CmpOp) : OpR X (compareOp op) (rCmp G C op) := by
  intro pins s σ H x y v u Q I rx ry h
  obtain ⟨dx, dy, hx, hy, t, z⟩ := h
  unfold cmpW at z
  split at z
  · have ex := hx.int
    have ey := hy.int
    subst ex ey
    exact op_lt pins s σ H _ _ v u Q I rx ry ⟨_, _, rfl, rfl, finB_same t z⟩
  · have ex := hx.int
    have ey := hy.int
    subst ex ey
    exact op_le pins s σ H _ _ v u Q I rx ry ⟨_, _, rfl, rfl, finB_same t z⟩
  · have ex := hx.int
    have ey := hy.int
    subst ex ey
    exact op_gt pins s σ H _ _ v u Q I rx ry ⟨_, _, rfl, rfl, finB_same t z⟩
  · have ex := hx.int
    have ey := hy.int
    subst ex ey
    exact op_ge pins s σ H _ _ v u Q I rx ry ⟨_, _, rfl, rfl, finB_same t z⟩
  · cases hy.rd (fun _ z => nomatch z)
    refine op_isN pins s σ H _ _ v u Q I rx ry ⟨rfl, ?_⟩
    rw [hx.non_iff]
    exact finB_same t z
  · cases hy.rd (fun _ z => nomatch z)
    refine op_notN pins s σ H _ _ v u Q I rx ry ⟨rfl, ?_⟩
    rw [hx.non_iff]
    exact finB_same t z
  · rcases z with ⟨a, b, e1, e2, z⟩ | z
    · subst e1 e2
      have ex := hx.str
      have ey := hy.str
      subst ex ey
      refine op_eq pins s σ H _ _ v u Q I rx ry ⟨rfl, ?_⟩
      have e : decide (V.str a = V.str b) = decide (a = b) := by simp
      rw [e]
      exact finB_same t z
    rcases z with z | ⟨h1, h2, z⟩ | ⟨xs, e1, e2, z⟩ | ⟨xs, e1, e2, z⟩
    rotate_left
    rotate_left
    rotate_left
    · subst e1 e2
      obtain ⟨p, us, e1, s1, r1⟩ := hx.lst
      obtain ⟨q, ws, e2, s2, r2⟩ := hy.lst
      subst e1 e2
      cases r2
      first
        | refine op_eqL0 (by omega) pins s σ H _ _ v u Q I rx ry ⟨p, q, us, rfl, rfl, by rw [hK]; exact s1, by rw [hK]; exact s2, ?_⟩
        | refine op_neL0 (by omega) pins s σ H _ _ v u Q I rx ry ⟨p, q, us, rfl, rfl, by rw [hK]; exact s1, by rw [hK]; exact s2, ?_⟩
      rw [r1.emp]
      exact finB_same t z
    rotate_left
    rotate_left
    · subst e1 e2
      obtain ⟨p, us, e1, s1, r1⟩ := hx.tup
      obtain ⟨q, ws, e2, s2, r2⟩ := hy.tup
      subst e1 e2
      cases r2
      first
        | refine op_eq0 (by omega) pins s σ H _ _ v u Q I rx ry ⟨p, q, us, rfl, rfl, by rw [hK]; exact s1, by rw [hK]; exact s2, ?_⟩
        | refine op_ne0 (by omega) pins s σ H _ _ v u Q I rx ry ⟨p, q, us, rfl, rfl, by rw [hK]; exact s1, by rw [hK]; exact s2, ?_⟩
      rw [r1.emp]
      exact finB_same t z
    rotate_left
    · exact ho.eq pins s σ H _ _ v u Q I rx ry ⟨_, _, hx, hy, t, h1, h2, z⟩
    obtain ⟨z1, z2, z3, z4, z⟩ := z
    exact op_eqD hu pins s σ H _ _ v u Q I rx ry ⟨_, _, by rw [hK]; exact hx.dp z1, by rw [hK]; exact hy.dp z2, z3, z4, finB_same t z⟩
  · rcases z with ⟨a, b, e1, e2, z⟩ | z
    · subst e1 e2
      have ex := hx.str
      have ey := hy.str
      subst ex ey
      refine op_ne pins s σ H _ _ v u Q I rx ry ⟨rfl, ?_⟩
      have e : decide (V.str a = V.str b) = decide (a = b) := by simp
      rw [e]
      exact finB_same t z
    rcases z with z | ⟨h1, h2, z⟩ | ⟨xs, e1, e2, z⟩ | ⟨xs, e1, e2, z⟩
    rotate_left
    rotate_left
    rotate_left
    · subst e1 e2
      obtain ⟨p, us, e1, s1, r1⟩ := hx.lst
      obtain ⟨q, ws, e2, s2, r2⟩ := hy.lst
      subst e1 e2
      cases r2
      first
        | refine op_eqL0 (by omega) pins s σ H _ _ v u Q I rx ry ⟨p, q, us, rfl, rfl, by rw [hK]; exact s1, by rw [hK]; exact s2, ?_⟩
        | refine op_neL0 (by omega) pins s σ H _ _ v u Q I rx ry ⟨p, q, us, rfl, rfl, by rw [hK]; exact s1, by rw [hK]; exact s2, ?_⟩
      rw [r1.emp]
      exact finB_same t z
    rotate_left
    rotate_left
    · subst e1 e2
      obtain ⟨p, us, e1, s1, r1⟩ := hx.tup
      obtain ⟨q, ws, e2, s2, r2⟩ := hy.tup
      subst e1 e2
      cases r2
      first
        | refine op_eq0 (by omega) pins s σ H _ _ v u Q I rx ry ⟨p, q, us, rfl, rfl, by rw [hK]; exact s1, by rw [hK]; exact s2, ?_⟩
        | refine op_ne0 (by omega) pins s σ H _ _ v u Q I rx ry ⟨p, q, us, rfl, rfl, by rw [hK]; exact s1, by rw [hK]; exact s2, ?_⟩
      rw [r1.emp]
      exact finB_same t z
    rotate_left
    · exact ho.ne pins s σ H _ _ v u Q I rx ry ⟨_, _, hx, hy, t, h1, h2, z⟩
    obtain ⟨z1, z2, z3, z4, z⟩ := z
    exact op_neD hu pins s σ H _ _ v u Q I rx ry ⟨_, _, by rw [hK]; exact hx.dp z1, by rw [hK]; exact hy.dp z2, z3, z4, finB_same t z⟩
  · exact in_D hK I rx ry hx hy t z
  · exact notin_D hK I rx ry hx hy t z
  · exact z.elim
/-! ### truth, items, slices -/
theorem RDs.empty {K : PySem.W.Frag} {H : Hp} {d : List D} {v : List V} (h : RDs K H d v) : v.isEmpty = d.isEmpty := by
  cases h <;> rfl
theorem tru_D (hK : X.K = G.K) : TruR X (fun x H Q => ∃ dx, RB G.K H dx x ∧ Tb G H ∧ truW dx fun b => ∀ H', ExN H H' → Tb G H' → Q b H') := by
  intro pins s σ H x v Q I rx h
  obtain ⟨dx, hx, t, z⟩ := h
  unfold truW at z
  split at z
  · cases hx.rd (fun _ z => nomatch z)
    exact tru_ok pins s σ H _ v Q I rx ⟨_, rfl, z H (LamX.ExtN.refl H) t⟩
  · have ex := hx.bl
    subst ex
    exact tru_ok pins s σ H _ v Q I rx ⟨_, rfl, z H (LamX.ExtN.refl H) t⟩
  · have ex := hx.int
    subst ex
    exact tru_ok pins s σ H _ v Q I rx ⟨_, rfl, z H (LamX.ExtN.refl H) t⟩
  · have ex := hx.str
    subst ex
    exact tru_ok pins s σ H _ v Q I rx ⟨_, ⟨z.1, rfl⟩, z.2 H (LamX.ExtN.refl H) t⟩
  · obtain ⟨p, us, e, sq, r⟩ := hx.tup
    subst e
    refine tru_ok pins s σ H _ v Q I rx ⟨!us.isEmpty, .inr (.inl ⟨us, by rw [hK]; exact sq, rfl⟩), ?_⟩
    rw [r.empty]
    exact z H (LamX.ExtN.refl H) t
  · obtain ⟨p, us, e, sq, r⟩ := hx.lst
    subst e
    refine tru_ok pins s σ H _ v Q I rx ⟨!us.isEmpty, .inl ⟨us, by rw [hK]; exact sq, rfl⟩, ?_⟩
    rw [r.empty]
    exact z H (LamX.ExtN.refl H) t
  · exact z.elim
theorem RDs.atI {K : PySem.W.Frag} {H : Hp} {ds : List D} {vs : List V} {i : Int} {d : D} (r : RDs K H ds vs) (h : atI ds i = some d) : ∃ v, L2.atI vs i = some v ∧ RD K H d v := by
  unfold L2.atI at h ⊢
  rw [← r.length]
  cases e : ixN ds.length i with
  | none =>
    rw [e] at h
    cases h
  | some j =>
    rw [e] at h
    exact r.get h
def rIdx (G : Cfg) : R2 := fun x y H Q => ∃ dx dy, RB G.K H dx x ∧ RB G.K H dy y ∧ Tb G H ∧ idxW dx dy (fin G H Q)
theorem ix_D (hK : X.K = G.K) : IxR X (rIdx G) := by
  intro value slice pins s σ H x y v u Q I rx ry h hs
  obtain ⟨dx, dy, hx, hy, t, z⟩ := h
  unfold idxW at z
  split at z
  · obtain ⟨d, e, z⟩ := z
    obtain ⟨p, us, ex, sq, r⟩ := hx.lst
    have ey := hy.int
    subst ex ey
    obtain ⟨w, hw, rw'⟩ := r.atI e
    exact ix_list value slice pins s σ H _ _ v u Q I rx ry ⟨p, us, _, w, rfl, rfl, by rw [hK]; exact sq, hw, fin_same t z rw'⟩ hs
  · obtain ⟨d, e, z⟩ := z
    obtain ⟨p, us, ex, sq, r⟩ := hx.tup
    have ey := hy.int
    subst ex ey
    obtain ⟨w, hw, rw'⟩ := r.atI e
    exact ix_tup value slice pins s σ H _ _ v u Q I rx ry ⟨p, us, _, w, rfl, rfl, by rw [hK]; exact sq, hw, fin_same t z rw'⟩ hs
  · obtain ⟨l, c, e, z⟩ := z
    have ex := hx.str
    have ey := hy.int
    subst ex ey
    exact ix_str value slice pins s σ H _ _ v u Q I rx ry ⟨_, _, c, rfl, rfl, l, e, fin_same t z (.str _)⟩ hs
  · exact z.elim
theorem RDs.cut {K : PySem.W.Frag} {H : Hp} {ds : List D} {vs : List V} (lo hi : Option Int) (r : RDs K H ds vs) : RDs K H (cutD ds lo hi) (cutV vs lo hi) := by
  unfold cutD cutV
  rw [r.length]
  exact (r.drop _).take _
def rSlc (G : Cfg) : V → Option Int → Option Int → Hp → VK → Prop := fun x lo hi H Q => ∃ dx, RB G.K H dx x ∧ Tb G H ∧ slcW dx lo hi (fin G H Q)
theorem sl_D (hK : X.K = G.K) : SlR X (rSlc G) := by
  intro pins s σ H x v vl vu lo hi sl Q I rx hs pl pu h
  obtain ⟨dx, hx, t, z⟩ := h
  unfold slcW at z
  split at z
  · obtain ⟨p, us, ex, sq, r⟩ := hx.lst
    subst ex
    exact sl_list pins s σ H _ v vl vu lo hi sl Q I rx hs pl pu ⟨p, us, rfl, by rw [hK]; exact sq, fun a ha => fin_fr t z (r.cut lo hi) a ha⟩
  · obtain ⟨p, us, ex, sq, r⟩ := hx.tup
    subst ex
    refine sl_tupA pins s σ H _ v vl vu lo hi sl Q I rx hs pl pu ⟨p, us, rfl, by rw [hK]; exact sq, fun e => ?_, fun e a ha => fin_tup t z (r.cut lo hi) a ha⟩
    refine fin_same t z (.tup sq ?_)
    have c := r.cut lo hi
    have e2 : cutV us lo hi = us := by
      unfold cutV
      rw [e.1, e.2, List.drop_zero, Nat.sub_zero, List.take_length]
    rw [e2] at c
    exact c
  · have ex := hx.str
    subst ex
    exact sl_str pins s σ H _ v vl vu lo hi sl Q I rx hs pl pu ⟨_, rfl, z.1, fin_same t z.2 (.str _)⟩
  · exact z.elim
end
end En
/-! En5: enumerate of a tuple; what is walked. -/
namespace En
open PySem L2 PyProof.Rows
theorem mk_enumT (l : Addr) (items : Array Value) (n : Nat) (dc : Option Addr) (sl : Array (Option Value)) :
    Meets (Builtin.«enumerate.__new__» ⟨[.type "enumerate", .ref l], []⟩) (fun _ R s =>
      s.heap.get? l = some { cls := .type "tuple", dict := dc, data := .seq items n, slots := sl } ∧
      R (.ok (.ret (.ref (s.heap.push { cls := .type "tuple_iterator", data := .fields #[.ref l, .int 0 0] }).objs.size)))
        { s with heap := (s.heap.push { cls := .type "tuple_iterator", data := .fields #[.ref l, .int 0 0] }).push { cls := .type "enumerate", data := .fields #[.none, .bool false, .ref s.heap.objs.size, rawInt 0, .none, .none] } }) :=
  .of_wp fun prog w A R s h => by
    obtain ⟨hp, g, d, tk, os⟩ := s
    obtain ⟨hl, h⟩ := h
    have sb := sub_enumerate
    have hT : Heap.IsTuple (Shared.heap ⟨hp, g, d, tk, os⟩) l items := ⟨_, hl, rfl, n, rfl⟩
    wp_walk using AutoSeq1.wpAny_loadPart' hl
    refine wpAny_stack_any fun st => wpAny_pure ?_
    split
    · rename_i c _ _ _ _ _
      cases (c == Value.type "enumerate")
      · wp_walk using AutoSeq1.wpAny_loadPart' hl, wpAny_pyIter_tuple hT
        exact ⟨_, rfl, h⟩
      · wp_walk using AutoSeq1.wpAny_loadPart' hl, wpAny_pyIter_tuple hT
        exact ⟨_, rfl, h⟩
    · wp_walk using AutoSeq1.wpAny_loadPart' hl, wpAny_pyIter_tuple hT
      exact ⟨_, rfl, h⟩
section
variable {prog : Program} {w : World} {A : Around} {E : Value → Shared → Prop} {s : Shared}
theorem call_enumT {l : Addr} {items : Array Value} {Q : Value → Shared → Prop} (hL : IsTup s.heap l items)
    (h : ∀ h', IsEnum h' (s.heap.objs.size + 1) s.heap.objs.size 0 .none → h'.IsTupleIter s.heap.objs.size l 0 →
      (∀ b o, s.heap.get? b = some o → h'.get? b = some o) → Q (.ref (s.heap.objs.size + 1)) { s with heap := h' }) :
    wpAny (model prog w) A (call (.type "enumerate") [.ref l]) Q E s := by
  obtain ⟨⟨c, dc, dt, sl⟩, hl, hc, n, hd⟩ := hL
  replace hc : c = .type "tuple" := hc
  replace hd : dt = .seq items n := hd
  subst hc hd
  refine callType_new F.called_enumerate (by decide) (F.typeCall_enumerate_1 _) (F.newCall_enumerate_1 _) (fun o => F.args_object_init_2 o _) F.entry_enumerate_new (mk_enumT l items n dc sl) ⟨hl, ?_⟩
  have z1 : (s.heap.push { cls := .type "tuple_iterator", data := .fields #[.ref l, .int 0 0] }).objs.size = s.heap.objs.size + 1 := Heap.size_push ..
  show _ ∧ _
  rw [z1]
  have he : IsEnum ((s.heap.push { cls := .type "tuple_iterator", data := .fields #[.ref l, .int 0 0] }).push { cls := .type "enumerate", data := .fields #[.none, .bool false, .ref s.heap.objs.size, rawInt 0, .none, .none] })
      (s.heap.objs.size + 1) s.heap.objs.size 0 .none := by
    have q := Heap.get?_push_size (s.heap.push { cls := .type "tuple_iterator", data := .fields #[.ref l, .int 0 0] }) (o := { cls := .type "enumerate", data := .fields #[.none, .bool false, .ref s.heap.objs.size, rawInt 0, .none, .none] }) rfl
    rw [z1] at q
    exact q
  refine ⟨⟨_, he, rfl⟩, h _ he ⟨{ cls := .type "tuple_iterator", data := .fields #[.ref l, .int 0 0] }, Heap.get?_push_of_some _ (Heap.get?_push_size _ rfl), rfl, rfl⟩ fun b o x => Heap.get?_push_of_some _ (Heap.get?_push_of_some _ x)⟩
end
/-- the tuple at a, each item in a new pair -/
def IteT (K : PySem.W.Frag) (a : Addr) : It :=
  ⟨fun i H => ∃ (xs : List V) (x : V), SqT K H a xs ∧ xs[i]? = some x,
   fun i H v H' => ∃ T x, v = .ref T ∧ H T = none ∧ H' = upd H T (.tup [.int (i : Nat), x]) ∧ ∀ xs, SqT K H a xs → xs[i]? = some x,
   fun i H => ∃ xs : List V, SqT K H a xs ∧ xs.length = i⟩
theorem turn_enumT {P : Program} {w : World} {K : PySem.W.Frag} {elts : List Expr} {kk : Nat} {tpos : Pos} (a e it : Addr) :
    Turn P w K (.Tuple elts kk tpos) (IteT K a) [e, it] e (fun i h => (∃ old, IsEnum h e it ((i : Nat) : Int) old) ∧ h.IsTupleIter it a i ∧ e ≠ it ∧ a ≠ it ∧ a ≠ e) where
  mem := by simp
  obj := fun i h st b hb => by
    obtain ⟨⟨old, he⟩, ⟨o, ho, hc, hd⟩, _⟩ := st
    have e' : b = e ∨ b = it := by simpa using hb
    rcases e' with z | z
    · rw [z]
      exact ⟨_, he, fun v q => nomatch q⟩
    · rw [z]
      exact ⟨o, ho, fun v q => by rw [hd] at q; cases q⟩
  keep := fun i h h' st k => let ⟨⟨old, he⟩, hi, ne⟩ := st; ⟨⟨old, k e (by simp) _ he⟩, hi.at fun o q => k it (by simp) o q, ne⟩
  item := by
    intro X hP hw hK hc i pins s σ H E I hf st hg
    subst hP hw hK
    obtain ⟨⟨old, he⟩, hit, ne, ne1, ne2⟩ := st
    obtain ⟨xs, x, hq, hx⟩ := hg
    obtain ⟨its, rv, p, hz⟩ := I.tuple hq
    obtain ⟨u, hu, ru⟩ := rv.get hx
    have hel : e < s.heap.objs.size := Heap.lt_size he
    have hil : it < s.heap.objs.size := by obtain ⟨_, q, _⟩ := hit; exact Heap.lt_size q
    have hlt : i < its.toArray.size := by
      rw [List.size_toArray]
      exact (List.getElem?_eq_some_iff.mp hu).1
    have ha : X.A.in1.handled = none := I.ok.hd hc
    refine wpAny_pyNext_enum_itemD (Draws.tuple ha it a ne1 its.toArray) he ⟨hit, p⟩ hlt ne (by simp [ne, Ne.symm ne2]) fun y h' tk hy ho hst hT hsz hk => ?_
    have ey : y = u := by
      have z : its.toArray[i]? = some u := by simpa using hu
      rw [z] at hy
      exact (Option.some.inj hy).symm
    subst ey
    refine ⟨_, rfl, wpAny_letOwnedTupleGo_enum (s := { s with heap := h', toks := tk + 1 }) ho fun h'' he' sb => ?_⟩
    have hT2 : h''.get? s.heap.objs.size = some { cls := .type "tuple", data := .seq #[.int i tk, y] } := (sb.2 _ (Nat.ne_of_gt hel)).trans hT
    have new : ObjOk X.prog X.w (upd H s.heap.objs.size (.tup [.int (i : Nat), x])) h'' s.heap.objs.size (.tup [.int (i : Nat), x]) :=
      ⟨by show 2 ≤ sizeLine; decide, [.int i tk, y], .cons ⟨_, rfl⟩ (.cons ru .nil), ⟨_, hT2, rfl, _, rfl⟩⟩
    have I1 : Inv X pins σ (upd H s.heap.objs.size (.tup [.int (i : Nat), x])) { s with heap := h'', toks := tk + 1 } :=
      I.turnedNew (ch := [e, it]) (fun b ob hb q => (sb.2 b (fun z => hb (by simp [z]))).trans (hk b ob (fun z => hb (by simp [z])) (fun z => hb (by simp [z])) q)) hf (Nat.le_refl _) new
    refine ⟨.ref s.heap.objs.size, _, I1, rfl, ⟨_, x, rfl, I.hok.fresh (Nat.le_refl _), rfl, fun ys hy => by rw [I.tuple_inj hy hq]; exact hx⟩, ⟨⟨y, ?_⟩, hst.1.at fun o q => (sb.2 it (Ne.symm ne)).trans q, ne, ne1, ne2⟩, fun b hb => ?_⟩
    · have e1 : ((i + 1 : Nat) : Int) = (i : Int) + 1 := by omega
      rw [e1]
      exact he'
    · have hb' : b < s.heap.objs.size := by
        have e' : b = e ∨ b = it := by simpa using hb
        rcases e' with z | z
        · rw [z]
          exact hel
        · rw [z]
          exact hil
      rw [upd_ne (Nat.ne_of_lt hb')]
      exact (hf b hb).1
  done := by
    intro X hP hw hK hc i pins s σ H E I hf st hg
    subst hP hw hK
    obtain ⟨⟨old, he⟩, hit, ne, ne1, ne2⟩ := st
    obtain ⟨xs, hq, hx⟩ := hg
    obtain ⟨its, rv, p, hz⟩ := I.tuple hq
    obtain ⟨f0, f1, f2, f3, f4, f5⟩ := hf it (by simp)
    have hl := rv.length
    have ha : X.A.in1.handled = none := I.ok.hd hc
    have es : i = its.toArray.size := by
      rw [List.size_toArray]
      omega
    subst es
    exact wpAny_pyNext_enum_endD (Draws.tuple ha it a ne1 its.toArray) he ⟨hit, p⟩ fun h' eb => ⟨rfl, I.turned (t' := s.toks) (fun b o hb q => eb b o hb q) f0 f1 f3 f4 f5⟩
  self := fun A i s Q E st h => let ⟨⟨_, he⟩, _⟩ := st; wpAny_pyIter_enum he h
/-- enumerate of a list or a tuple -/
def iEnuA (K : PySem.W.Frag) (ta : TA) : TI := fun σ H R => ta σ H fun vs H1 => ∃ a xs, vs = [.ref a] ∧ ((SqL K H1 a xs ∧ R (Ite K a) H1) ∨ (SqT K H1 a xs ∧ R (IteT K a) H1))
theorem pi_enumA {X : Cx} {e : Expr} {ta : TA} {p pos tpos : Pos} {elts : List Expr} {kk : Nat} (hg : Gl X "enumerate") (hm : X.mg "enumerate" = none) (ha : PA X [e] ta) (hs : starEach [e] X.env = [(false, eval e X.env)]) :
    PI X (.Tuple elts kk tpos) (.Call (.Name "enumerate" p) [e] [] pos) (iEnuA X.K ta) := by
  refine ⟨fun pins s σ H R I h => ?_⟩
  refine Call_ (ld_blt I hg hm boot_enumerate (PyProof.Rows.callWith_type1 (thn (ha.run pos pins s σ H _ I h) fun us s1 ⟨vs, H1, I1, r1, q1⟩ => ?_) hs rfl))
  obtain ⟨a, xs, ex, q⟩ := q1
  subst ex
  cases r1 with
  | cons r rr =>
    cases rr
    cases r
    have fp : ∀ b ∈ [s1.heap.objs.size + 1, s1.heap.objs.size], FpOk X pins H1 b := fun b hb => by
      have e' : b = s1.heap.objs.size + 1 ∨ b = s1.heap.objs.size := by simpa using hb
      have hle : s1.heap.objs.size ≤ b := by
        rcases e' with z | z
        · rw [z]
          exact Nat.le_add_right _ _
        · rw [z]
          exact Nat.le_refl _
      exact I1.fpOk hle (I1.hok.fresh hle)
    rcases q with ⟨hq, q⟩ | ⟨hq, q⟩
    · obtain ⟨its, rv, p', hz⟩ := I1.list hq
      refine call_enumerate_list p'.isList fun h' he hit hsz hk => wpAny_pyIter_enum he ?_
      have I2 : Inv X pins σ H1 { s1 with heap := h' } := I1.kept (t' := s1.toks) hk
      exact ⟨s1.heap.objs.size + 1, [s1.heap.objs.size + 1, s1.heap.objs.size], _, _, H1, rfl, I2, turn_enum a (s1.heap.objs.size + 1) s1.heap.objs.size, ⟨⟨.none, he⟩, hit, Nat.succ_ne_self _⟩, fp, q⟩
    · obtain ⟨its, rv, p', hz⟩ := I1.tuple hq
      have lt := p'.lt
      refine call_enumT p' fun h' he hit hk => wpAny_pyIter_enum he ?_
      have I2 : Inv X pins σ H1 { s1 with heap := h' } := I1.kept (t' := s1.toks) hk
      exact ⟨s1.heap.objs.size + 1, [s1.heap.objs.size + 1, s1.heap.objs.size], _, _, H1, rfl, I2, turn_enumT a (s1.heap.objs.size + 1) s1.heap.objs.size, ⟨⟨.none, he⟩, hit, Nat.succ_ne_self _, Nat.ne_of_lt lt, Nat.ne_of_lt (Nat.lt_succ_of_lt lt)⟩, fp, q⟩
theorem walk_enumT {K : PySem.W.Frag} {a : Addr} {xs : List V} : Walk (IteT K a) xs.length (fun H => SqT K H a xs) (YPair (fun i => some (.int (i : Nat))) (fun i => xs[i]?)) := by
  refine ⟨fun i _ hi q => ⟨xs, xs[i], q, by simp [hi]⟩, fun _ q => ⟨xs, q, rfl⟩, fun i H v H' _ q y => ?_⟩
  obtain ⟨T, x, h1, h2, h3, h4⟩ := y
  exact ⟨T, .int (i : Nat), x, h1, h2, h3, rfl, h4 xs q⟩
end En
/-! En6: expressions. -/
namespace En
open PySem L2 PyProof.Rows
/-- what a context must bear -/
structure Bs (X : Cx) (G : Cfg) : Prop where
  K : X.K = G.K
  un : X.A.units + 64 < cLine
  calm : X.calm = true
  nd : X.N.Nodup
section
variable {X : Cx} {G : Cfg} {C : Call} {W : WX}
theorem fin.ext {H H1 : Hp} {Q : VK} {x : Rv} (e : ExN H H1) (z : fin G H Q x) : fin G H1 Q x := fun v H' rr x2 t => z v H' (rr.back e) (e.trans x2) t
theorem finB.ext {H H1 : Hp} {Q : VK} {x : Bool} (e : ExN H H1) (z : finB G H Q x) : finB G H1 Q x := fun H' x2 t => z H' (e.trans x2) t
section
variable (hB : G.B.Mono) (hC : MonoC C)
include hB hC
theorem s_bind {a : Ex} {σ : St} {H0 H : Hp} {Q : VK} {r : Env} {F : D → Prop} (re : RE G.K H r σ) (tb : Tb G H) (x0 : ExN H0 H) (z : evS G.B C a r F (exq G W σ H0))
    (k : ∀ d v H1, RB G.K H1 d v → ExN H H1 → Tb G H1 → F d → Q v H1) : rdS G C W a σ H Q :=
  ⟨r, re, tb, (evP_mono hB hC a r).S _ _ _ _ (fun d f v H1 rb x t => k d v H1 rb x t f) (fun c ds z => exq.ext x0 c ds z) z⟩
theorem r_bind {a : Ex} {σ : St} {H0 H : Hp} {Q : VK} {r : Env} {F : Rv → Prop} (re : RE G.K H r σ) (tb : Tb G H) (x0 : ExN H0 H) (z : evR G.B C a r F (exq G W σ H0))
    (k : ∀ d v H1, RR G.K H H1 d v → ExN H H1 → Tb G H1 → F d → Q v H1) : rdR G C W a σ H Q :=
  ⟨r, re, tb, (evP_mono hB hC a r).R _ _ _ _ (fun d f v H1 rb x t => k d v H1 rb x t f) (fun c ds z => exq.ext x0 c ds z) z⟩
theorem v_bind {a : Ex} {σ : St} {H0 H : Hp} {Q : VK} {r : Env} {F : Rv → Prop} (re : RE G.K H r σ) (tb : Tb G H) (x0 : ExN H0 H) (z : evR G.B C a r F (exq G W σ H0))
    (k : ∀ (d : Rv) v H1, RD G.K H1 d.d v → ExN H H1 → Tb G H1 → F d → Q v H1) : rdV G C W a σ H Q :=
  ⟨r, re, tb, (evP_mono hB hC a r).R _ _ _ _ (fun d f v H1 rb x t => k d v H1 rb x t f) (fun c ds z => exq.ext x0 c ds z) z⟩
theorem t_bind {a : Ex} {σ : St} {H0 H : Hp} {Q : Bool → Hp → Prop} {r : Env} {F : Bool → Prop} (re : RE G.K H r σ) (tb : Tb G H) (x0 : ExN H0 H) (z : evT G.B C a r F (exq G W σ H0))
    (k : ∀ b H1, ExN H H1 → Tb G H1 → F b → Q b H1) : rdT G C W a σ H Q :=
  ⟨r, re, tb, (evP_mono hB hC a r).T _ _ _ _ (fun d f H1 x t => k d H1 x t f) (fun c ds z => exq.ext x0 c ds z) z⟩
theorem a_bind {a : Exs} {σ : St} {H0 H : Hp} {Q : List V → Hp → Prop} {r : Env} {F : List D → Prop} (re : RE G.K H r σ) (tb : Tb G H) (x0 : ExN H0 H) (z : (evAs G.B C a r).R F (exq G W σ H0))
    (k : ∀ ds vs H1, RDs G.K H1 ds vs → ExN H H1 → Tb G H1 → F ds → Q vs H1) : rdA G C W a σ H Q :=
  ⟨r, re, tb, (evAs_mono hB hC a r).R _ _ _ _ (fun d f v H1 rb x t => k d v H1 rb x t f) (fun c ds z => exq.ext x0 c ds z) z⟩
theorem as_bind {a : Exs} {σ : St} {H0 H : Hp} {Q : List V → Hp → Prop} {r : Env} {F : List D → Prop} (re : RE G.K H r σ) (tb : Tb G H) (x0 : ExN H0 H) (z : (evAs G.B C a r).S F (exq G W σ H0))
    (k : ∀ ds vs H1, RBs G.K H1 ds vs → ExN H H1 → Tb G H1 → F ds → Q vs H1) : rdAS G C W a σ H Q :=
  ⟨r, re, tb, (evAs_mono hB hC a r).S _ _ _ _ (fun d f v H1 rb x t => k d v H1 rb x t f) (fun c ds z => exq.ext x0 c ds z) z⟩
end
/-! ### names and constants -/
theorem p_con {e : Expr} {v : V} {d : D} (h : PE X e (tC v)) (hd : ∀ H, RD G.K H d v) : PE X e (rdR G C W (.con d)) := by
  refine PE.imp h fun σ H Q ⟨r, re, tb, z⟩ => ?_
  exact (show ∀ v H', RR G.K H H' (.v d) v → ExN H H' → Tb G H' → Q v H' from z) v H (hd H) (LamX.ExtN.refl H) tb
theorem p_glo {e : Expr} {v : V} {d : D} (h : PE X e (tC v)) (hd : ∀ H, RD G.K H d v) : PE X e (rdR G C W (.glo d)) := by
  refine PE.imp h fun σ H Q ⟨r, re, tb, z⟩ => ?_
  exact (show ∀ v H', RR G.K H H' (.v d) v → ExN H H' → Tb G H' → Q v H' from z) v H (hd H) (LamX.ExtN.refl H) tb
theorem p_var {e : Expr} {i : Nat} (h : PE X e (tVar i)) : PE X e (rdR G C W (.var i)) := by
  refine PE.imp h fun σ H Q ⟨r, re, tb, z⟩ => ?_
  obtain ⟨d, e1, z⟩ := (show varW i r fun d => ∀ v H', RR G.K H H' (.v d) v → ExN H H' → Tb G H' → Q v H' from z)
  obtain ⟨v, e2, q⟩ := re.at_ i _ e1
  exact ⟨v, e2, z v H q (LamX.ExtN.refl H) tb⟩
theorem p_varS {e : Expr} {i : Nat} (h : PE X e (tVar i)) : PE X e (rdS G C W (.var i)) := by
  refine PE.imp h fun σ H Q ⟨r, re, tb, z⟩ => ?_
  rcases (show barW i r fun d => ∀ v H', RB G.K H' d v → ExN H H' → Tb G H' → Q v H' from z) with ⟨d, e1, z⟩ | ⟨d, t, e1, z⟩
  · obtain ⟨v, e2, q⟩ := re.at_ i _ e1
    exact ⟨v, e2, z v H (.inl q) (LamX.ExtN.refl H) tb⟩
  · obtain ⟨v, e2, p, us, q1, q2, q3, _⟩ := re.at_ i _ e1
    exact ⟨v, e2, z v H (.inr ⟨_, p, us, rfl, q1, q2, q3⟩) (LamX.ExtN.refl H) tb⟩
/-! ### operators -/
section
variable (hB : G.B.Mono) (hC : MonoC C)
include hB hC
theorem p_bin {a b : Expr} {ia ib : Ex} {op : Operator} {pos : Pos} (hK : X.K = G.K) (ha : PE X a (rdS G C W ia)) (hb : PE X b (rdS G C W ib)) : PE X (.BinOp a op b pos) (rdR G C W (.bin op ia ib)) := by
  refine PE.imp (pe_op (op_bin hK op) ha hb) fun σ H Q ⟨r, re, tb, z⟩ => ?_
  refine s_bind hB hC re tb (LamX.ExtN.refl H) z fun dx x H1 rx x1 t1 z1 => ?_
  refine s_bind hB hC (re.ext x1) t1 x1 z1 fun dy y H2 ry x2 t2 z2 => ?_
  exact ⟨dx, dy, rx.ext x2, ry, t2, binW_mono (fun rv f => fin.ext (x1.trans x2) f) z2⟩
theorem p_neg {a : Expr} {ia : Ex} {pos : Pos} (ha : PE X a (rdS G C W ia)) : PE X (.UnaryOp .USub a pos) (rdR G C W (.neg ia)) := by
  refine PE.imp (pe_un (un_negD (G := G)) ha) fun σ H Q ⟨r, re, tb, z⟩ => ?_
  refine s_bind hB hC re tb (LamX.ExtN.refl H) z fun dx x H1 rx x1 t1 z1 => ?_
  exact ⟨dx, rx, t1, negW_mono (fun rv f => fin.ext x1 f) z1⟩
theorem p_cmp {a b : Expr} {ia ib : Ex} {op : CmpOp} {pos : Pos} (hX : Bs X G) (ho : EqoOk X G C) (ha : PE X a (rdS G C W ia)) (hb : PE X b (rdS G C W ib)) (hm : behindInMarks op b = false) : PE X (.Compare a [op] [b] pos) (rdR G C W (.cmp op ia ib)) := by
  refine PE.imp (pe_cmpR (op_cmp hX.K hX.un ho op) ha hb hm) fun σ H Q ⟨r, re, tb, z⟩ => ?_
  refine s_bind hB hC re tb (LamX.ExtN.refl H) z fun dx x H1 rx x1 t1 z1 => ?_
  refine s_bind hB hC (re.ext x1) t1 x1 z1 fun dy y H2 ry x2 t2 z2 => ?_
  exact ⟨dx, dy, rx.ext x2, ry, t2, cmpW_mono hC (fun b f H' x3 t3 => f _ _ (.bl b) ((x1.trans x2).trans x3) t3) z2⟩
theorem t_cmp {a b : Expr} {ia ib : Ex} {op : CmpOp} {pos : Pos} (hX : Bs X G) (ho : EqoOk X G C) (ha : PE X a (rdS G C W ia)) (hb : PE X b (rdS G C W ib)) (hm : behindInMarks op b = false) : PT X (.Compare a [op] [b] pos) (rdT G C W (.cmp op ia ib)) := by
  refine PT.imp (pt_cmpR (op_cmp hX.K hX.un ho op) ha hb hm) fun σ H Q ⟨r, re, tb, z⟩ => ?_
  refine s_bind hB hC re tb (LamX.ExtN.refl H) z fun dx x H1 rx x1 t1 z1 => ?_
  refine s_bind hB hC (re.ext x1) t1 x1 z1 fun dy y H2 ry x2 t2 z2 => ?_
  exact ⟨dx, dy, rx.ext x2, ry, t2, cmpW_mono hC (fun b f H' x3 t3 => ⟨b, rfl, f _ ((x1.trans x2).trans x3) t3⟩) z2⟩
theorem p_chn {a b c : Expr} {ia ib ic : Ex} {o p : CmpOp} {pos : Pos} (hX : Bs X G) (ho : EqoOk X G C) (ha : PE X a (rdS G C W ia)) (hb : PE X b (rdS G C W ib)) (hc : PE X c (rdS G C W ic)) (hm : lastMarks [o, p] [b, c] = false) : PE X (.Compare a [o, p] [b, c] pos) (rdR G C W (.chn o p ia ib ic)) := by
  refine PE.imp (pe_chain (op_cmp hX.K hX.un ho o) (op_cmp hX.K hX.un ho p) ha hb hc hm) fun σ H Q ⟨r, re, tb, z⟩ => ?_
  refine s_bind hB hC re tb (LamX.ExtN.refl H) z fun dx x H1 rx x1 t1 z1 => ?_
  refine s_bind hB hC (re.ext x1) t1 x1 z1 fun dy y H2 ry x2 t2 z2 => ?_
  refine ⟨dx, dy, rx.ext x2, ry, t2, cmpW_mono hC (fun k f H3 x3 t3 => ⟨k, rfl, ?_⟩) z2⟩
  cases k with
  | false => exact f _ _ (.bl false) ((x1.trans x2).trans x3) t3
  | true =>
    refine s_bind hB hC (re.ext ((x1.trans x2).trans x3)) t3 ((x1.trans x2).trans x3) f fun dz w H4 rz x4 t4 z4 => ?_
    exact ⟨dy, dz, ry.ext (x3.trans x4), rz, t4, cmpW_mono hC (fun b f H' x5 t5 => f _ _ (.bl b) ((((x1.trans x2).trans x3).trans x4).trans x5) t5) z4⟩
theorem t_chn {a b c : Expr} {ia ib ic : Ex} {o p : CmpOp} {pos : Pos} (hX : Bs X G) (ho : EqoOk X G C) (ha : PE X a (rdS G C W ia)) (hb : PE X b (rdS G C W ib)) (hc : PE X c (rdS G C W ic)) (hm : lastMarks [o, p] [b, c] = false) : PT X (.Compare a [o, p] [b, c] pos) (rdT G C W (.chn o p ia ib ic)) := by
  refine PT.imp (pt_chain (op_cmp hX.K hX.un ho o) (op_cmp hX.K hX.un ho p) ha hb hc hm) fun σ H Q ⟨r, re, tb, z⟩ => ?_
  refine s_bind hB hC re tb (LamX.ExtN.refl H) z fun dx x H1 rx x1 t1 z1 => ?_
  refine s_bind hB hC (re.ext x1) t1 x1 z1 fun dy y H2 ry x2 t2 z2 => ?_
  refine ⟨dx, dy, rx.ext x2, ry, t2, cmpW_mono hC (fun k f H3 x3 t3 => ⟨k, rfl, ?_⟩) z2⟩
  cases k with
  | false => exact ⟨false, rfl, f _ ((x1.trans x2).trans x3) t3⟩
  | true =>
    refine s_bind hB hC (re.ext ((x1.trans x2).trans x3)) t3 ((x1.trans x2).trans x3) f fun dz w H4 rz x4 t4 z4 => ?_
    exact ⟨dy, dz, ry.ext (x3.trans x4), rz, t4, cmpW_mono hC (fun b f H' x5 t5 => ⟨b, rfl, f _ ((((x1.trans x2).trans x3).trans x4).trans x5) t5⟩) z4⟩
/-! ### and, or, not, if -/
theorem p_not {a : Expr} {ia : Ex} {pos : Pos} (hK : X.K = G.K) (ha : PE X a (rdS G C W ia)) : PE X (.UnaryOp .Not a pos) (rdR G C W (.not ia)) := by
  refine ⟨fun pins s σ H Q I ⟨r, re, tb, z⟩ => ?_⟩
  refine UnaryOp_ (thn (ha.run pins s σ H (fun v H1 => ∃ dx, RB G.K H1 dx v ∧ Tb G H1 ∧ truW dx fun b => ∀ H', ExN H1 H' → Tb G H' → Q (.bl (!b)) H') I ?_) fun v s1 ⟨x, H1, I1, r1, q1⟩ => ?_)
  · exact s_bind hB hC re tb (LamX.ExtN.refl H) z fun dx x H1 rx x1 t1 z1 => ⟨dx, rx, t1, truW_mono (fun b f H' x2 t2 => f _ H' (.bl _) (x1.trans x2) t2) z1⟩
  · refine not_of (thn (tru_D hK pins s1 σ H1 x v (fun b H' => Q (.bl (!b)) H') I1 r1 q1) fun b s2 ⟨H2, I2, q2⟩ => ?_)
    exact ⟨.bl (!b), H2, I2, rfl, q2⟩
theorem t_not {a : Expr} {ia : Ex} {pos : Pos} (ha : PT X a (rdT G C W ia)) : PT X (.UnaryOp .Not a pos) (rdT G C W (.not ia)) := by
  refine PT.imp (pt_not ha) fun σ H Q ⟨r, re, tb, z⟩ => ?_
  exact t_bind hB hC re tb (LamX.ExtN.refl H) z fun b H1 x1 t1 z1 => z1 _ x1 t1
theorem p_and {a b : Expr} {rest : List Expr} {ia ib : Ex} {pos : Pos} (ha : PE X a (rdS G C W ia)) (hb : PE X (.BoolOp .And (b :: rest) pos) (rdR G C W ib)) : PE X (.BoolOp .And (a :: b :: rest) pos) (rdR G C W (.and ia ib)) := by
  refine PE.imp (pe_and ha hb) fun σ H Q ⟨r, re, tb, z⟩ => ?_
  refine s_bind hB hC re tb (LamX.ExtN.refl H) z fun d v H1 rx x1 t1 ⟨c, e, z1⟩ => ?_
  subst e
  refine ⟨c, rx.bl, ?_⟩
  cases c with
  | true => exact r_bind hB hC (re.ext x1) t1 x1 z1 fun d v H2 rr x2 t2 f => f v H2 (rr.back x1) (x1.trans x2) t2
  | false => exact z1 _ _ (.bl false) x1 t1
theorem p_or {a b : Expr} {rest : List Expr} {ia ib : Ex} {pos : Pos} (ha : PE X a (rdS G C W ia)) (hb : PE X (.BoolOp .Or (b :: rest) pos) (rdR G C W ib)) : PE X (.BoolOp .Or (a :: b :: rest) pos) (rdR G C W (.or ia ib)) := by
  refine PE.imp (pe_or ha hb) fun σ H Q ⟨r, re, tb, z⟩ => ?_
  refine s_bind hB hC re tb (LamX.ExtN.refl H) z fun d v H1 rx x1 t1 ⟨c, e, z1⟩ => ?_
  subst e
  refine ⟨c, rx.bl, ?_⟩
  cases c with
  | false => exact r_bind hB hC (re.ext x1) t1 x1 z1 fun d v H2 rr x2 t2 f => f v H2 (rr.back x1) (x1.trans x2) t2
  | true => exact z1 _ _ (.bl true) x1 t1
theorem w_and {a b : Expr} {rest : List Expr} {ia ib : Ex} {pos : Pos} (ha : PT X a (rdT G C W ia)) (hb : PW X (.BoolOp .And (b :: rest) pos) (rdT G C W ib)) : PW X (.BoolOp .And (a :: b :: rest) pos) (rdT G C W (.and ia ib)) := by
  refine PW.imp (pw_and ha hb) fun σ H Q ⟨r, re, tb, z⟩ => ?_
  refine t_bind hB hC re tb (LamX.ExtN.refl H) z fun c H1 x1 t1 z1 => ?_
  cases c with
  | true => exact t_bind hB hC (re.ext x1) t1 x1 z1 fun c H2 x2 t2 f => f H2 (x1.trans x2) t2
  | false => exact z1 _ x1 t1
theorem w_or {a b : Expr} {rest : List Expr} {ia ib : Ex} {pos : Pos} (ha : PT X a (rdT G C W ia)) (hb : PW X (.BoolOp .Or (b :: rest) pos) (rdT G C W ib)) : PW X (.BoolOp .Or (a :: b :: rest) pos) (rdT G C W (.or ia ib)) := by
  refine PW.imp (pw_or ha hb) fun σ H Q ⟨r, re, tb, z⟩ => ?_
  refine t_bind hB hC re tb (LamX.ExtN.refl H) z fun c H1 x1 t1 z1 => ?_
  cases c with
  | false => exact t_bind hB hC (re.ext x1) t1 x1 z1 fun c H2 x2 t2 f => f H2 (x1.trans x2) t2
  | true => exact z1 _ x1 t1
theorem p_ite {t a b : Expr} {it ia ib : Ex} {pos : Pos} (ht : PT X t (rdT G C W it)) (ha : PE X a (rdR G C W ia)) (hb : PE X b (rdR G C W ib)) : PE X (.IfExp t a b pos) (rdR G C W (.ite it ia ib)) := by
  refine PE.imp (pe_ifExp ht ha hb) fun σ H Q ⟨r, re, tb, z⟩ => ?_
  refine t_bind hB hC re tb (LamX.ExtN.refl H) z fun c H1 x1 t1 z1 => ?_
  cases c with
  | true => exact r_bind hB hC (re.ext x1) t1 x1 z1 fun d v H2 rr x2 t2 f => f v H2 (rr.back x1) (x1.trans x2) t2
  | false => exact r_bind hB hC (re.ext x1) t1 x1 z1 fun d v H2 rr x2 t2 f => f v H2 (rr.back x1) (x1.trans x2) t2
/-- a datum's truth as a test -/
theorem t_val {a : Expr} {ia : Ex} (hK : X.K = G.K) (hT : ∀ r Q E, evT G.B C ia r Q E = evS G.B C ia r (fun x => truW x Q) E) (ha : PE X a (rdS G C W ia)) (he : ∀ whole, isTrue a X.env whole = (do let v ← whole; standAt a.pos; holding [v] (truthy v))) : PT X a (rdT G C W ia) := by
  refine ⟨fun pins s σ H Q I ⟨r, re, tb, z⟩ => ?_⟩
  rw [hT] at z
  refine isTrue_plain (thn (ha.run pins s σ H (fun v H1 => ∃ dx, RB G.K H1 dx v ∧ Tb G H1 ∧ truW dx fun b => ∀ H', ExN H1 H' → Tb G H' → Q b H') I ?_) fun v s1 ⟨x, H1, I1, r1, q1⟩ => tru_D hK pins s1 σ H1 x v Q I1 r1 q1) (he _)
  exact s_bind hB hC re tb (LamX.ExtN.refl H) z fun dx x H1 rx x1 t1 z1 => ⟨dx, rx, t1, truW_mono (fun b f H' x2 t2 => f H' (x1.trans x2) t2) z1⟩
/-! ### items, slices -/
theorem p_idx {a b : Expr} {ia ib : Ex} {pos : Pos} (hK : X.K = G.K) (ha : PE X a (rdS G C W ia)) (hb : PE X b (rdS G C W ib)) (hs : PlainIx b) : PE X (.Subscript a b pos) (rdR G C W (.idx ia ib)) := by
  refine PE.imp (pe_ix (ix_D hK) ha hb hs) fun σ H Q ⟨r, re, tb, z⟩ => ?_
  refine s_bind hB hC re tb (LamX.ExtN.refl H) z fun dx x H1 rx x1 t1 z1 => ?_
  refine s_bind hB hC (re.ext x1) t1 x1 z1 fun dy y H2 ry x2 t2 z2 => ?_
  exact ⟨dx, dy, rx.ext x2, ry, t2, idxW_mono (fun rv f => fin.ext (x1.trans x2) f) z2⟩
/-- a part of a slice -/
def rdO (G : Cfg) (C : Call) (W : WX) (e : Exo) : TO := fun σ H Q => ∃ r, RE G.K H r σ ∧ Tb G H ∧ evO G.B C e r (fun o => ∀ H', ExN H H' → Tb G H' → Q o H') (exq G W σ H)
theorem o_bind {a : Exo} {σ : St} {H0 H : Hp} {Q : Option Int → Hp → Prop} {r : Env} {F : Option Int → Prop} (re : RE G.K H r σ) (tb : Tb G H) (x0 : ExN H0 H) (z : evO G.B C a r F (exq G W σ H0))
    (k : ∀ o H1, ExN H H1 → Tb G H1 → F o → Q o H1) : rdO G C W a σ H Q :=
  ⟨r, re, tb, evO_mono hB hC a r _ _ _ _ (fun d f H1 x t => k d H1 x t f) (fun c ds z => exq.ext x0 c ds z) z⟩
omit hB hC in
theorem PO.imp {e : Option Expr} {t t' : TO} (h : PO X e t) (w : ∀ σ H Q, t' σ H Q → t σ H Q) : PO X e t' := ⟨fun pins s σ H Q I q => h.run pins s σ H Q I (w σ H Q q)⟩
omit hB hC in
theorem o_no : PO X none (rdO G C W .no) := PO.imp po_none fun σ H Q ⟨r, re, tb, z⟩ => by
  unfold evO at z
  exact z H (LamX.ExtN.refl H) tb
theorem o_so {e : Expr} {i : Ex} (h : PE X e (rdS G C W i)) : PO X (some e) (rdO G C W (.so i)) := PO.imp (po_some h) fun σ H Q ⟨r, re, tb, z⟩ => by
  unfold evO at z
  refine s_bind hB hC re tb (LamX.ExtN.refl H) z fun dx x H1 rx x1 t1 ⟨i, e, z1⟩ => ?_
  subst e
  exact ⟨i, rx.int, z1 H1 x1 t1⟩
theorem p_slc {a : Expr} {lo hi : Option Expr} {ia : Ex} {il ih : Exo} {pos p2 : Pos} (hK : X.K = G.K) (ha : PE X a (rdS G C W ia)) (hl : PO X lo (rdO G C W il)) (hh : PO X hi (rdO G C W ih)) : PE X (.Subscript a (.Slice lo hi none p2) pos) (rdR G C W (.slc ia il ih)) := by
  refine PE.imp (pe_slice (sl_D hK) ha hl hh) fun σ H Q ⟨r, re, tb, z⟩ => ?_
  refine s_bind hB hC re tb (LamX.ExtN.refl H) z fun dx x H1 rx x1 t1 z1 => ?_
  refine o_bind hB hC (re.ext x1) t1 x1 z1 fun l H2 x2 t2 z2 => ?_
  refine o_bind hB hC (re.ext (x1.trans x2)) t2 (x1.trans x2) z2 fun h H3 x3 t3 z3 => ?_
  exact ⟨dx, rx.ext (x2.trans x3), t3, slcW_mono (fun rv f => fin.ext ((x1.trans x2).trans x3) f) z3⟩
/-! ### arguments and displays -/
omit hB hC in
theorem a_nil : PA X [] (rdA G C W .nil) := PA.imp pa_nil fun σ H Q ⟨r, re, tb, z⟩ => by
  unfold evAs at z
  exact z [] H .nil (LamX.ExtN.refl H) tb
theorem a_cons {e : Expr} {es : List Expr} {i : Ex} {is : Exs} (h : PE X e (rdV G C W i)) (hr : PA X es (rdA G C W is)) (hs : starEach (e :: es) X.env = (false, eval e X.env) :: starEach es X.env) : PA X (e :: es) (rdA G C W (.cons i is)) := by
  refine PA.imp (pa_cons h hr hs) fun σ H Q ⟨r, re, tb, z⟩ => ?_
  unfold evAs at z
  refine v_bind hB hC re tb (LamX.ExtN.refl H) z fun d v H1 rx x1 t1 z1 => ?_
  refine a_bind hB hC (re.ext x1) t1 x1 z1 fun ds vs H2 rs x2 t2 f => ?_
  exact f _ H2 (.cons (rx.stb (ExN.stb x2)) rs) (x1.trans x2) t2
omit hB hC in
theorem as_nil : PA X [] (rdAS G C W .nil) := PA.imp pa_nil fun σ H Q ⟨r, re, tb, z⟩ => by
  unfold evAs at z
  exact z [] H .nil (LamX.ExtN.refl H) tb
theorem as_cons {e : Expr} {es : List Expr} {i : Ex} {is : Exs} (h : PE X e (rdS G C W i)) (hr : PA X es (rdAS G C W is)) (hs : starEach (e :: es) X.env = (false, eval e X.env) :: starEach es X.env) : PA X (e :: es) (rdAS G C W (.cons i is)) := by
  refine PA.imp (pa_cons h hr hs) fun σ H Q ⟨r, re, tb, z⟩ => ?_
  unfold evAs at z
  refine s_bind hB hC re tb (LamX.ExtN.refl H) z fun d v H1 rx x1 t1 z1 => ?_
  refine as_bind hB hC (re.ext x1) t1 x1 z1 fun ds vs H2 rs x2 t2 f => ?_
  exact f _ H2 (.cons (rx.ext x2) rs) (x1.trans x2) t2
theorem p_tup {es : List Expr} {is : Exs} {k : Nat} {pos : Pos} (h : PA X es (rdA G C W is)) : PE X (.Tuple es k pos) (rdR G C W (.tup is)) := by
  refine PE.imp (pe_tup h) fun σ H Q ⟨r, re, tb, z⟩ => ?_
  refine a_bind hB hC re tb (LamX.ExtN.refl H) z fun ds vs H1 rs x1 t1 ⟨l, f⟩ => ?_
  exact ⟨by rw [← rs.length]; exact l, fun p hp => fin_tup t1 (fin.ext x1 f) rs p hp⟩
theorem p_lst {es : List Expr} {is : Exs} {pos : Pos} (h : PA X es (rdA G C W is)) : PE X (.List es pos) (rdR G C W (.lst is)) := by
  refine PE.imp (pe_lst h) fun σ H Q ⟨r, re, tb, z⟩ => ?_
  refine a_bind hB hC re tb (LamX.ExtN.refl H) z fun ds vs H1 rs x1 t1 ⟨l, f⟩ => ?_
  exact ⟨by rw [← rs.length]; exact l, fun p hp => fin_fr t1 (fin.ext x1 f) rs p hp⟩
end
end
end En
namespace En
open PySem L2 PyProof.Rows TL
/-! Ee1: equality of small expressions, decided (constants: flat ones alone). -/
def dEq : D → D → Bool
  | .non, y => match y with
    | .non => true
    | _ => false
  | .bl a0, y => match y with
    | .bl b0 => decide (a0 = b0)
    | _ => false
  | .int a0, y => match y with
    | .int b0 => decide (a0 = b0)
    | _ => false
  | .str a0, y => match y with
    | .str b0 => decide (a0 = b0)
    | _ => false
  | .cls a0, y => match y with
    | .cls b0 => decide (a0 = b0)
    | _ => false
  | .ty a0, y => match y with
    | .ty b0 => decide (a0 = b0)
    | _ => false
  | _, _ => false
theorem dEq_ok : ∀ x y : D, dEq x y = true → x = y
  | .non, y, h => by
    rw [dEq.eq_def] at h
    dsimp only at h
    split at h
    · rfl
    · cases h
  | .bl a0, y, h => by
    rw [dEq.eq_def] at h
    dsimp only at h
    split at h
    · try simp only [Bool.and_eq_true, decide_eq_true_eq, beq_iff_eq] at h
      have h0 := h
      subst h0
      rfl
    · cases h
  | .int a0, y, h => by
    rw [dEq.eq_def] at h
    dsimp only at h
    split at h
    · try simp only [Bool.and_eq_true, decide_eq_true_eq, beq_iff_eq] at h
      have h0 := h
      subst h0
      rfl
    · cases h
  | .str a0, y, h => by
    rw [dEq.eq_def] at h
    dsimp only at h
    split at h
    · try simp only [Bool.and_eq_true, decide_eq_true_eq, beq_iff_eq] at h
      have h0 := h
      subst h0
      rfl
    · cases h
  | .cls a0, y, h => by
    rw [dEq.eq_def] at h
    dsimp only at h
    split at h
    · try simp only [Bool.and_eq_true, decide_eq_true_eq, beq_iff_eq] at h
      have h0 := h
      subst h0
      rfl
    · cases h
  | .ty a0, y, h => by
    rw [dEq.eq_def] at h
    dsimp only at h
    split at h
    · try simp only [Bool.and_eq_true, decide_eq_true_eq, beq_iff_eq] at h
      have h0 := h
      subst h0
      rfl
    · cases h
  | .tup _, y, h => by simp [dEq] at h
  | .lst _, y, h => by simp [dEq] at h
  | .dic _, y, h => by simp [dEq] at h
  | .obj _ _, y, h => by simp [dEq] at h
  | .exc _ _ _ _, y, h => by simp [dEq] at h
  | .pail, y, h => by simp [dEq] at h
  | .adr _, y, h => by simp [dEq] at h
mutual
def tgEq : Tg → Tg → Bool
  | .nm a0, y => match y with
    | .nm b0 => decide (a0 = b0)
    | _ => false
  | .tp a0, y => match y with
    | .tp b0 => tgsEq a0 b0
    | _ => false
def tgsEq : Tgs → Tgs → Bool
  | .nil, y => match y with
    | .nil => true
    | _ => false
  | .cons a0 a1, y => match y with
    | .cons b0 b1 => tgEq a0 b0 && tgsEq a1 b1
    | _ => false
end
mutual
theorem tgEq_ok : ∀ x y : Tg, tgEq x y = true → x = y
  | .nm a0, y, h => by
    rw [tgEq.eq_def] at h
    dsimp only at h
    split at h
    · try simp only [Bool.and_eq_true, decide_eq_true_eq, beq_iff_eq] at h
      have h0 := h
      subst h0
      rfl
    · cases h
  | .tp a0, y, h => by
    rw [tgEq.eq_def] at h
    dsimp only at h
    split at h
    · try simp only [Bool.and_eq_true, decide_eq_true_eq, beq_iff_eq] at h
      have h0 := h
      have h0 := tgsEq_ok _ _ h0
      subst h0
      rfl
    · cases h
theorem tgsEq_ok : ∀ x y : Tgs, tgsEq x y = true → x = y
  | .nil, y, h => by
    rw [tgsEq.eq_def] at h
    dsimp only at h
    split at h
    · rfl
    · cases h
  | .cons a0 a1, y, h => by
    rw [tgsEq.eq_def] at h
    dsimp only at h
    split at h
    · try simp only [Bool.and_eq_true, decide_eq_true_eq, beq_iff_eq] at h
      obtain ⟨h0, h1⟩ := h
      have h0 := tgEq_ok _ _ h0
      have h1 := tgsEq_ok _ _ h1
      subst h0 h1
      rfl
    · cases h
end
mutual
def exEq : Ex → Ex → Bool
  | .var a0, y => match y with
    | .var b0 => (a0 == b0)
    | _ => false
  | .con a0, y => match y with
    | .con b0 => dEq a0 b0
    | _ => false
  | .glo a0, y => match y with
    | .glo b0 => dEq a0 b0
    | _ => false
  | .bin a0 a1 a2, y => match y with
    | .bin b0 b1 b2 => decide (a0 = b0) && exEq a1 b1 && exEq a2 b2
    | _ => false
  | .neg a0, y => match y with
    | .neg b0 => exEq a0 b0
    | _ => false
  | .not a0, y => match y with
    | .not b0 => exEq a0 b0
    | _ => false
  | .and a0 a1, y => match y with
    | .and b0 b1 => exEq a0 b0 && exEq a1 b1
    | _ => false
  | .or a0 a1, y => match y with
    | .or b0 b1 => exEq a0 b0 && exEq a1 b1
    | _ => false
  | .cmp a0 a1 a2, y => match y with
    | .cmp b0 b1 b2 => decide (a0 = b0) && exEq a1 b1 && exEq a2 b2
    | _ => false
  | .chn a0 a1 a2 a3 a4, y => match y with
    | .chn b0 b1 b2 b3 b4 => decide (a0 = b0) && decide (a1 = b1) && exEq a2 b2 && exEq a3 b3 && exEq a4 b4
    | _ => false
  | .ite a0 a1 a2, y => match y with
    | .ite b0 b1 b2 => exEq a0 b0 && exEq a1 b1 && exEq a2 b2
    | _ => false
  | .tup a0, y => match y with
    | .tup b0 => exsEq a0 b0
    | _ => false
  | .lst a0, y => match y with
    | .lst b0 => exsEq a0 b0
    | _ => false
  | .fn a0 a1, y => match y with
    | .fn b0 b1 => decide (a0 = b0) && exsEq a1 b1
    | _ => false
  | .fnk a0 a1 a2 a3, y => match y with
    | .fnk b0 b1 b2 b3 => decide (a0 = b0) && decide (a1 = b1) && exsEq a2 b2 && exsEq a3 b3
    | _ => false
  | .blt a0 a1, y => match y with
    | .blt b0 b1 => decide (a0 = b0) && exsEq a1 b1
    | _ => false
  | .mth a0 a1 a2, y => match y with
    | .mth b0 b1 b2 => decide (a0 = b0) && exEq a1 b1 && exsEq a2 b2
    | _ => false
  | .mcl a0 a1 a2, y => match y with
    | .mcl b0 b1 b2 => decide (a0 = b0) && exEq a1 b1 && exsEq a2 b2
    | _ => false
  | .mck a0 a1 a2 a3 a4, y => match y with
    | .mck b0 b1 b2 b3 b4 => decide (a0 = b0) && decide (a1 = b1) && exEq a2 b2 && exsEq a3 b3 && exsEq a4 b4
    | _ => false
  | .att a0 a1, y => match y with
    | .att b0 b1 => exEq a0 b0 && decide (a1 = b1)
    | _ => false
  | .idx a0 a1, y => match y with
    | .idx b0 b1 => exEq a0 b0 && exEq a1 b1
    | _ => false
  | .slc a0 a1 a2, y => match y with
    | .slc b0 b1 b2 => exEq a0 b0 && exoEq a1 b1 && exoEq a2 b2
    | _ => false
  | .rev a0, y => match y with
    | .rev b0 => exEq a0 b0
    | _ => false
  | .lc a0 a1 a2 a3 a4, y => match y with
    | .lc b0 b1 b2 b3 b4 => exEq a0 b0 && tgEq a1 b1 && ixEq a2 b2 && exoEq a3 b3 && decide (a4 = b4)
    | _ => false
  | .fst a0, y => match y with
    | .fst b0 => exsEq a0 b0
    | _ => false
  | .dct _, _ => false
def exsEq : Exs → Exs → Bool
  | .nil, y => match y with
    | .nil => true
    | _ => false
  | .cons a0 a1, y => match y with
    | .cons b0 b1 => exEq a0 b0 && exsEq a1 b1
    | _ => false
  | .star a0 a1, y => match y with
    | .star b0 b1 => exEq a0 b0 && exsEq a1 b1
    | _ => false
def exoEq : Exo → Exo → Bool
  | .no, y => match y with
    | .no => true
    | _ => false
  | .so a0, y => match y with
    | .so b0 => exEq a0 b0
    | _ => false
def ixEq : Ix → Ix → Bool
  | .seq a0, y => match y with
    | .seq b0 => exEq a0 b0
    | _ => false
  | .rng1 a0, y => match y with
    | .rng1 b0 => exEq a0 b0
    | _ => false
  | .rng2 a0 a1, y => match y with
    | .rng2 b0 b1 => exEq a0 b0 && exEq a1 b1
    | _ => false
  | .enu a0, y => match y with
    | .enu b0 => exEq a0 b0
    | _ => false
  | .zip a0 a1, y => match y with
    | .zip b0 b1 => exEq a0 b0 && exEq a1 b1
    | _ => false
end
mutual
theorem exEq_ok : ∀ x y : Ex, exEq x y = true → x = y
  | .var a0, y, h => by
    rw [exEq.eq_def] at h
    dsimp only at h
    split at h
    · try simp only [Bool.and_eq_true, decide_eq_true_eq, beq_iff_eq] at h
      have h0 := h
      subst h0
      rfl
    · cases h
  | .con a0, y, h => by
    rw [exEq.eq_def] at h
    dsimp only at h
    split at h
    · try simp only [Bool.and_eq_true, decide_eq_true_eq, beq_iff_eq] at h
      have h0 := h
      have h0 := dEq_ok _ _ h0
      subst h0
      rfl
    · cases h
  | .glo a0, y, h => by
    rw [exEq.eq_def] at h
    dsimp only at h
    split at h
    · try simp only [Bool.and_eq_true, decide_eq_true_eq, beq_iff_eq] at h
      have h0 := h
      have h0 := dEq_ok _ _ h0
      subst h0
      rfl
    · cases h
  | .bin a0 a1 a2, y, h => by
    rw [exEq.eq_def] at h
    dsimp only at h
    split at h
    · try simp only [Bool.and_eq_true, decide_eq_true_eq, beq_iff_eq] at h
      obtain ⟨⟨h0, h1⟩, h2⟩ := h
      have h1 := exEq_ok _ _ h1
      have h2 := exEq_ok _ _ h2
      subst h0 h1 h2
      rfl
    · cases h
  | .neg a0, y, h => by
    rw [exEq.eq_def] at h
    dsimp only at h
    split at h
    · try simp only [Bool.and_eq_true, decide_eq_true_eq, beq_iff_eq] at h
      have h0 := h
      have h0 := exEq_ok _ _ h0
      subst h0
      rfl
    · cases h
  | .not a0, y, h => by
    rw [exEq.eq_def] at h
    dsimp only at h
    split at h
    · try simp only [Bool.and_eq_true, decide_eq_true_eq, beq_iff_eq] at h
      have h0 := h
      have h0 := exEq_ok _ _ h0
      subst h0
      rfl
    · cases h
  | .and a0 a1, y, h => by
    rw [exEq.eq_def] at h
    dsimp only at h
    split at h
    · try simp only [Bool.and_eq_true, decide_eq_true_eq, beq_iff_eq] at h
      obtain ⟨h0, h1⟩ := h
      have h0 := exEq_ok _ _ h0
      have h1 := exEq_ok _ _ h1
      subst h0 h1
      rfl
    · cases h
  | .or a0 a1, y, h => by
    rw [exEq.eq_def] at h
    dsimp only at h
    split at h
    · try simp only [Bool.and_eq_true, decide_eq_true_eq, beq_iff_eq] at h
      obtain ⟨h0, h1⟩ := h
      have h0 := exEq_ok _ _ h0
      have h1 := exEq_ok _ _ h1
      subst h0 h1
      rfl
    · cases h
  | .cmp a0 a1 a2, y, h => by
    rw [exEq.eq_def] at h
    dsimp only at h
    split at h
    · try simp only [Bool.and_eq_true, decide_eq_true_eq, beq_iff_eq] at h
      obtain ⟨⟨h0, h1⟩, h2⟩ := h
      have h1 := exEq_ok _ _ h1
      have h2 := exEq_ok _ _ h2
      subst h0 h1 h2
      rfl
    · cases h
  | .chn a0 a1 a2 a3 a4, y, h => by
    rw [exEq.eq_def] at h
    dsimp only at h
    split at h
    · try simp only [Bool.and_eq_true, decide_eq_true_eq, beq_iff_eq] at h
      obtain ⟨⟨⟨⟨h0, h1⟩, h2⟩, h3⟩, h4⟩ := h
      have h2 := exEq_ok _ _ h2
      have h3 := exEq_ok _ _ h3
      have h4 := exEq_ok _ _ h4
      subst h0 h1 h2 h3 h4
      rfl
    · cases h
  | .ite a0 a1 a2, y, h => by
    rw [exEq.eq_def] at h
    dsimp only at h
    split at h
    · try simp only [Bool.and_eq_true, decide_eq_true_eq, beq_iff_eq] at h
      obtain ⟨⟨h0, h1⟩, h2⟩ := h
      have h0 := exEq_ok _ _ h0
      have h1 := exEq_ok _ _ h1
      have h2 := exEq_ok _ _ h2
      subst h0 h1 h2
      rfl
    · cases h
  | .tup a0, y, h => by
    rw [exEq.eq_def] at h
    dsimp only at h
    split at h
    · try simp only [Bool.and_eq_true, decide_eq_true_eq, beq_iff_eq] at h
      have h0 := h
      have h0 := exsEq_ok _ _ h0
      subst h0
      rfl
    · cases h
  | .lst a0, y, h => by
    rw [exEq.eq_def] at h
    dsimp only at h
    split at h
    · try simp only [Bool.and_eq_true, decide_eq_true_eq, beq_iff_eq] at h
      have h0 := h
      have h0 := exsEq_ok _ _ h0
      subst h0
      rfl
    · cases h
  | .fn a0 a1, y, h => by
    rw [exEq.eq_def] at h
    dsimp only at h
    split at h
    · try simp only [Bool.and_eq_true, decide_eq_true_eq, beq_iff_eq] at h
      obtain ⟨h0, h1⟩ := h
      have h1 := exsEq_ok _ _ h1
      subst h0 h1
      rfl
    · cases h
  | .fnk a0 a1 a2 a3, y, h => by
    rw [exEq.eq_def] at h
    dsimp only at h
    split at h
    · try simp only [Bool.and_eq_true, decide_eq_true_eq, beq_iff_eq] at h
      obtain ⟨⟨⟨h0, h1⟩, h2⟩, h3⟩ := h
      have h2 := exsEq_ok _ _ h2
      have h3 := exsEq_ok _ _ h3
      subst h0 h1 h2 h3
      rfl
    · cases h
  | .blt a0 a1, y, h => by
    rw [exEq.eq_def] at h
    dsimp only at h
    split at h
    · try simp only [Bool.and_eq_true, decide_eq_true_eq, beq_iff_eq] at h
      obtain ⟨h0, h1⟩ := h
      have h1 := exsEq_ok _ _ h1
      subst h0 h1
      rfl
    · cases h
  | .mth a0 a1 a2, y, h => by
    rw [exEq.eq_def] at h
    dsimp only at h
    split at h
    · try simp only [Bool.and_eq_true, decide_eq_true_eq, beq_iff_eq] at h
      obtain ⟨⟨h0, h1⟩, h2⟩ := h
      have h1 := exEq_ok _ _ h1
      have h2 := exsEq_ok _ _ h2
      subst h0 h1 h2
      rfl
    · cases h
  | .mcl a0 a1 a2, y, h => by
    rw [exEq.eq_def] at h
    dsimp only at h
    split at h
    · try simp only [Bool.and_eq_true, decide_eq_true_eq, beq_iff_eq] at h
      obtain ⟨⟨h0, h1⟩, h2⟩ := h
      have h1 := exEq_ok _ _ h1
      have h2 := exsEq_ok _ _ h2
      subst h0 h1 h2
      rfl
    · cases h
  | .mck a0 a1 a2 a3 a4, y, h => by
    rw [exEq.eq_def] at h
    dsimp only at h
    split at h
    · try simp only [Bool.and_eq_true, decide_eq_true_eq, beq_iff_eq] at h
      obtain ⟨⟨⟨⟨h0, h1⟩, h2⟩, h3⟩, h4⟩ := h
      have h2 := exEq_ok _ _ h2
      have h3 := exsEq_ok _ _ h3
      have h4 := exsEq_ok _ _ h4
      subst h0 h1 h2 h3 h4
      rfl
    · cases h
  | .att a0 a1, y, h => by
    rw [exEq.eq_def] at h
    dsimp only at h
    split at h
    · try simp only [Bool.and_eq_true, decide_eq_true_eq, beq_iff_eq] at h
      obtain ⟨h0, h1⟩ := h
      have h0 := exEq_ok _ _ h0
      subst h0 h1
      rfl
    · cases h
  | .idx a0 a1, y, h => by
    rw [exEq.eq_def] at h
    dsimp only at h
    split at h
    · try simp only [Bool.and_eq_true, decide_eq_true_eq, beq_iff_eq] at h
      obtain ⟨h0, h1⟩ := h
      have h0 := exEq_ok _ _ h0
      have h1 := exEq_ok _ _ h1
      subst h0 h1
      rfl
    · cases h
  | .slc a0 a1 a2, y, h => by
    rw [exEq.eq_def] at h
    dsimp only at h
    split at h
    · try simp only [Bool.and_eq_true, decide_eq_true_eq, beq_iff_eq] at h
      obtain ⟨⟨h0, h1⟩, h2⟩ := h
      have h0 := exEq_ok _ _ h0
      have h1 := exoEq_ok _ _ h1
      have h2 := exoEq_ok _ _ h2
      subst h0 h1 h2
      rfl
    · cases h
  | .rev a0, y, h => by
    rw [exEq.eq_def] at h
    dsimp only at h
    split at h
    · try simp only [Bool.and_eq_true, decide_eq_true_eq, beq_iff_eq] at h
      have h0 := h
      have h0 := exEq_ok _ _ h0
      subst h0
      rfl
    · cases h
  | .lc a0 a1 a2 a3 a4, y, h => by
    rw [exEq.eq_def] at h
    dsimp only at h
    split at h
    · try simp only [Bool.and_eq_true, decide_eq_true_eq, beq_iff_eq] at h
      obtain ⟨⟨⟨⟨h0, h1⟩, h2⟩, h3⟩, h4⟩ := h
      have h0 := exEq_ok _ _ h0
      have h1 := tgEq_ok _ _ h1
      have h2 := ixEq_ok _ _ h2
      have h3 := exoEq_ok _ _ h3
      subst h0 h1 h2 h3 h4
      rfl
    · cases h
  | .fst a0, y, h => by
    rw [exEq.eq_def] at h
    dsimp only at h
    split at h
    · try simp only [Bool.and_eq_true, decide_eq_true_eq, beq_iff_eq] at h
      have h0 := h
      have h0 := exsEq_ok _ _ h0
      subst h0
      rfl
    · cases h
  | .dct a0, y, h => by
    rw [exEq.eq_def] at h
    cases h
theorem exsEq_ok : ∀ x y : Exs, exsEq x y = true → x = y
  | .nil, y, h => by
    rw [exsEq.eq_def] at h
    dsimp only at h
    split at h
    · rfl
    · cases h
  | .cons a0 a1, y, h => by
    rw [exsEq.eq_def] at h
    dsimp only at h
    split at h
    · try simp only [Bool.and_eq_true, decide_eq_true_eq, beq_iff_eq] at h
      obtain ⟨h0, h1⟩ := h
      have h0 := exEq_ok _ _ h0
      have h1 := exsEq_ok _ _ h1
      subst h0 h1
      rfl
    · cases h
  | .star a0 a1, y, h => by
    rw [exsEq.eq_def] at h
    dsimp only at h
    split at h
    · try simp only [Bool.and_eq_true, decide_eq_true_eq, beq_iff_eq] at h
      obtain ⟨h0, h1⟩ := h
      have h0 := exEq_ok _ _ h0
      have h1 := exsEq_ok _ _ h1
      subst h0 h1
      rfl
    · cases h
theorem exoEq_ok : ∀ x y : Exo, exoEq x y = true → x = y
  | .no, y, h => by
    rw [exoEq.eq_def] at h
    dsimp only at h
    split at h
    · rfl
    · cases h
  | .so a0, y, h => by
    rw [exoEq.eq_def] at h
    dsimp only at h
    split at h
    · try simp only [Bool.and_eq_true, decide_eq_true_eq, beq_iff_eq] at h
      have h0 := h
      have h0 := exEq_ok _ _ h0
      subst h0
      rfl
    · cases h
theorem ixEq_ok : ∀ x y : Ix, ixEq x y = true → x = y
  | .seq a0, y, h => by
    rw [ixEq.eq_def] at h
    dsimp only at h
    split at h
    · try simp only [Bool.and_eq_true, decide_eq_true_eq, beq_iff_eq] at h
      have h0 := h
      have h0 := exEq_ok _ _ h0
      subst h0
      rfl
    · cases h
  | .rng1 a0, y, h => by
    rw [ixEq.eq_def] at h
    dsimp only at h
    split at h
    · try simp only [Bool.and_eq_true, decide_eq_true_eq, beq_iff_eq] at h
      have h0 := h
      have h0 := exEq_ok _ _ h0
      subst h0
      rfl
    · cases h
  | .rng2 a0 a1, y, h => by
    rw [ixEq.eq_def] at h
    dsimp only at h
    split at h
    · try simp only [Bool.and_eq_true, decide_eq_true_eq, beq_iff_eq] at h
      obtain ⟨h0, h1⟩ := h
      have h0 := exEq_ok _ _ h0
      have h1 := exEq_ok _ _ h1
      subst h0 h1
      rfl
    · cases h
  | .enu a0, y, h => by
    rw [ixEq.eq_def] at h
    dsimp only at h
    split at h
    · try simp only [Bool.and_eq_true, decide_eq_true_eq, beq_iff_eq] at h
      have h0 := h
      have h0 := exEq_ok _ _ h0
      subst h0
      rfl
    · cases h
  | .zip a0 a1, y, h => by
    rw [ixEq.eq_def] at h
    dsimp only at h
    split at h
    · try simp only [Bool.and_eq_true, decide_eq_true_eq, beq_iff_eq] at h
      obtain ⟨h0, h1⟩ := h
      have h0 := exEq_ok _ _ h0
      have h1 := exEq_ok _ _ h1
      subst h0 h1
      rfl
    · cases h
end
end En
/-! En7: from the text to the small syntax. -/
namespace En
open PySem L2 PyProof.Rows
/-- what the text's global names stand for -/
structure Gi where
  con : List (Str × D)
  fns : List Str
  kws : List (Str × List (Option Str) × Nat × List Nat)
  its : List Str
  blt : List (Str × Bf)
  mth : List (Str × Mf)
  mcl : List (Str × Str)
  mkw : List (Str × List (Option Str) × Nat × List Nat)
  att : List (Str × Str)
  err : List Str
  ans : List Str := []
  lams : List (Str × List Nat × Nat × Ex) := []
/-- the same without defs that take a lambda -/
def Gi.noA (g : Gi) : Gi := { g with ans := [] }
/-- no parameters -/
def noArg : Arguments → Bool
  | ⟨[], [], none, [], [], none, []⟩ => true
  | _ => false
def varsE : List Nat → Exs
  | [] => .nil
  | i :: r => .cons (.var i) (varsE r)
/-- the lambda among those that are known -/
def lamOf (n : Nat) : List (Str × List Nat × Nat × Ex) → Ex → Option Ex
  | [], _ => none
  | (nm, is, m, e') :: r, e => if m = n ∧ exEq e e' = true then some (.fn nm (varsE is)) else lamOf n r e
theorem lamOf_mem {n : Nat} : ∀ {l : List (Str × List Nat × Nat × Ex)} {e i : Ex}, lamOf n l e = some i → ∃ nm is, (nm, is, n, e) ∈ l ∧ i = .fn nm (varsE is)
  | [], _, _, h => nomatch h
  | (nm, is, m, e') :: r, e, i, h => by
    unfold lamOf at h
    split at h
    · rename_i q
      obtain ⟨em, q⟩ := q
      have e1 := exEq_ok _ _ q
      subst e1 em
      cases h
      exact ⟨nm, is, List.mem_cons_self, rfl⟩
    · obtain ⟨nm, is, h1, h2⟩ := lamOf_mem h
      exact ⟨nm, is, List.mem_cons_of_mem _ h1, h2⟩
def ixOf : List Str → Str → Option Nat
  | [], _ => none
  | y :: r, x => if y = x then some 0 else (ixOf r x).map (· + 1)
theorem ixOf_get : ∀ {N : List Str} {x : Str} {i : Nat}, ixOf N x = some i → N[i]? = some x
  | [], x, i, h => by cases h
  | y :: r, x, i, h => by
    unfold ixOf at h
    split at h
    · rename_i e
      cases h
      rw [e]
      rfl
    · cases q : ixOf r x with
      | none =>
        rw [q] at h
        cases h
      | some j =>
        rw [q] at h
        cases h
        simpa using ixOf_get q
/-- names that the machine treats by themselves -/
def odd (x : Str) : Bool := x == ("__debug__" : Str) || x == ("__classdict__" : Str) || x == ("__name__" : Str)
def conD : Const → Option D
  | .none => some .non
  | .bool b => some (.bl b)
  | .int i => some (.int i)
  | .str x => some (.str x)
  | _ => none
def isGl (sc : Scope) (x : Str) : Bool := sc.names.lookup x == some .globalImplicit
def isVis (sc : Scope) (x : Str) : Bool := sc.names.lookup x == some .local || sc.names.lookup x == some .cell || sc.names.lookup x == some .free
def isLoc (sc : Scope) (x : Str) : Bool := sc.names.lookup x == some .local || sc.names.lookup x == some .cell
def nameE (g : Gi) (sc : Scope) (N : List Str) (x : Str) : Option Ex :=
  if odd x then none
  else if isVis sc x then (ixOf N x).map .var
  else if isGl sc x then (g.con.lookup x).map .glo
  else none
def mapA (f : Expr → Option Ex) : List Expr → Option Exs
  | [] => some .nil
  | .Starred e _ :: r => (f e).bind fun i => (mapA f r).map fun is => .star i is
  | e :: r => (f e).bind fun i => (mapA f r).map fun is => .cons i is
def mapN (f : Expr → Option Ex) : List Expr → Option Exs
  | [] => some .nil
  | e :: r => (f e).bind fun i => (mapN f r).map fun is => .cons i is
def boolA (f : Expr → Option Ex) (op : BoolOp) : List Expr → Option Ex
  | [] => none
  | [a] => f a
  | a :: b :: r => (f a).bind fun i => (boolA f op (b :: r)).map fun j => match op with
    | .And => .and i j
    | .Or => .or i j
def optE (f : Expr → Option Ex) : Option Expr → Option Exo
  | none => some .no
  | some e => (f e).map .so
def isIf : Expr → Bool
  | .IfExp .. => true
  | _ => false
def tstE (f : Expr → Option Ex) (e : Expr) : Option Ex := if isIf e then none else f e
def isSet : Expr → Bool
  | .Set .. => true
  | _ => false
def isSup : Expr → Bool
  | .Call (.Name _ _) [] [] _ => true
  | _ => false
def isCon : Ex → Bool
  | .con _ => true
  | _ => false
/-- the parts of an f-string -/
def mapF (f : Expr → Option Ex) : List Expr → Option Exs
  | [] => some .nil
  | .Constant (.str x) _ _ :: r => (mapF f r).map fun is => .cons (.con (.str x)) is
  | .FormattedValue e c none _ :: r => if c = -1 then (f e).bind fun i => if isCon i then none else (mapF f r).map fun is => .cons i is else none
  | _ => none
/-- how keywords are put in the parameters' order: told by name, keywords, number of places -/
def kwOf (l : List (Str × List (Option Str) × Nat × List Nat)) (f : Str) (ks : List (Option Str)) (n : Nat) : Option (List Nat) := (l.find? fun e => decide (e.1 = f ∧ e.2.1 = ks ∧ e.2.2.1 = n)).map fun e => e.2.2.2
theorem kwOf_mem {l : List (Str × List (Option Str) × Nat × List Nat)} {f : Str} {ks : List (Option Str)} {n : Nat} {pm : List Nat} (h : kwOf l f ks n = some pm) : (f, ks, n, pm) ∈ l := by
  unfold kwOf at h
  cases e : l.find? fun e => decide (e.1 = f ∧ e.2.1 = ks ∧ e.2.2.1 = n) with
  | none => rw [e] at h; cases h
  | some x =>
    rw [e] at h
    cases h
    have h1 := List.find?_some e
    have h2 := List.mem_of_find?_eq_some e
    simp only [decide_eq_true_eq] at h1
    obtain ⟨e1, e2, e3⟩ := h1
    rw [← e1, ← e2, ← e3]
    exact h2
mutual
def compT (sc : Scope) (N : List Str) : Nat → Expr → Option Tg
  | 0, _ => none
  | n + 1, e => match e with
    | .Name x _ => if isLoc sc x then (ixOf N x).map .nm else none
    | .Tuple es _ _ => (compTs sc N n es).map .tp
    | _ => none
def compTs (sc : Scope) (N : List Str) : Nat → List Expr → Option Tgs
  | _, [] => some .nil
  | 0, _ => none
  | n + 1, e :: r => (compT sc N n e).bind fun t => (compTs sc N n r).map fun ts => .cons t ts
end
def tupled : Expr → Bool
  | .Tuple .. => true
  | _ => false
/-- what is walked -/
def compI (g : Gi) (sc : Scope) (f : Expr → Option Ex) (tg iter : Expr) : Option Ix := match iter with
  | .Call (.Name x _) [a] [] _ =>
    if x = ("range" : Str) ∧ isGl sc x ∧ ("range" : Str) ∈ g.its then (f a).map .rng1
    else if x = ("enumerate" : Str) ∧ isGl sc x ∧ ("enumerate" : Str) ∈ g.its ∧ tupled tg then (f a).map .enu
    else (f iter).map .seq
  | .Call (.Name x _) [a, b] [] _ =>
    if x = ("range" : Str) ∧ isGl sc x ∧ ("range" : Str) ∈ g.its then (f a).bind fun i => (f b).map fun j => .rng2 i j
    else if x = ("zip" : Str) ∧ isGl sc x ∧ ("zip" : Str) ∈ g.its ∧ tupled tg then (f a).bind fun i => (f b).map fun j => .zip i j
    else (f iter).map .seq
  | .Set .. => none
  | e => (f e).map .seq
def ownOf (N : List Str) (scope : Scope) : List (Str × Nat) := scope.names.filterMap fun y => match y.2 with
  | .local => (ixOf N y.1).map fun i => (y.1, i)
  | .cell => (ixOf N y.1).map fun i => (y.1, i)
  | _ => none
mutual
def tgIx : Tg → List Nat
  | .nm i => [i]
  | .tp ts => tgsIx ts
def tgsIx : Tgs → List Nat
  | .nil => []
  | .cons t ts => tgIx t ++ tgsIx ts
end
def minus1 : Expr → Bool
  | .UnaryOp .USub (.Constant (.int 1) _ _) _ => true
  | _ => false
/-- a constant within a display -/
def dspD : Const → Option D
  | .none => some .non
  | .bool b => some (.bl b)
  | .int i => some (.int i)
  | .str x => some (.str x)
  | _ => none
def compE (g : Gi) (N : List Str) : Nat → Scope → Expr → Option Ex
  | 0, _, _ => none
  | n + 1, sc, e => match e with
    | .Constant c _ _ => (conD c).map .con
    | .Name x _ => nameE g sc N x
    | .BinOp a op b _ => (compE g N n sc a).bind fun i => (compE g N n sc b).map fun j => .bin op i j
    | .UnaryOp .USub a _ => (compE g N n sc a).map .neg
    | .UnaryOp .Not a _ => (tstE (compE g N n sc) a).map .not
    | .BoolOp op (a :: b :: r) _ => boolA (tstE (compE g N n sc)) op (a :: b :: r)
    | .Compare a [op] [b] _ => if isSet b then none else (compE g N n sc a).bind fun i => (compE g N n sc b).map fun j => .cmp op i j
    | .Compare a [o, p] [b, c] _ => if isSet b || isSet c then none else (compE g N n sc a).bind fun i => (compE g N n sc b).bind fun j => (compE g N n sc c).map fun k => .chn o p i j k
    | .IfExp t a b _ => (tstE (compE g N n sc) t).bind fun k => (compE g N n sc a).bind fun i => (compE g N n sc b).map fun j => .ite k i j
    | .Tuple es _ _ => (mapA (compE g N n sc) es).map .tup
    | .List es _ => (mapA (compE g N n sc) es).map .lst
    | .Subscript o (.Slice lo hi none _) _ => (compE g N n sc o).bind fun i => (optE (compE g N n sc) lo).bind fun l => (optE (compE g N n sc) hi).map fun h => .slc i l h
    | .Subscript o (.Slice none none (some s) _) _ => if minus1 s ∧ ("[::-1]" : Str) ∈ g.its then (compE g N n sc o).map .rev else none
    | .Subscript o i _ => (compE g N n sc o).bind fun a => (compE g N n sc i).map fun b => .idx a b
    | .Call (.Name f _) [.Lambda params body scope _] [] _ =>
      if odd f || !isGl sc f then none
      else if f ∈ g.ans ∧ noArg params = true ∧ LamX.lamSB sc scope = true then (compE g.noA N n scope body).bind (lamOf N.length g.lams) else none
    | .Call (.Name f _) args [] _ =>
      if odd f || !isGl sc f then none
      else if f ∈ g.fns then (mapN (compE g N n sc) args).map fun is => .fn f is
      else match g.blt.lookup f with
      | some b => (match args with | [] => none | _ => (mapN (compE g N n sc) args).map fun is => .blt b is)
      | none => none
    | .Call (.Name f _) args kws _ =>
      if odd f || !isGl sc f then none
      else (kwOf g.kws f (kws.map fun k => k.arg) args.length).bind fun pm =>
        (mapN (compE g N n sc) args).bind fun is => (mapN (compE g N n sc) (kws.map fun k => k.value)).map fun js => .fnk f pm is js
    | .Call (.Attribute o m ap) args [] cp =>
      if (ap.endLine == cp.line) = false ∨ isSup o = true then none
      else match g.mcl.lookup m with
      | some key => if !decide (args.length < 20) then none else (compE g N n sc o).bind fun i => (mapN (compE g N n sc) args).map fun is => .mcl key i is
      | none => (match g.mth.lookup m with
        | some b => if args.isEmpty || !decide (args.length < 20) then none else (compE g N n sc o).bind fun i => (mapN (compE g N n sc) args).map fun is => .mth b i is
        | none => none)
    | .Call (.Attribute o m ap) args kws cp =>
      if (ap.endLine == cp.line) = false ∨ isSup o = true ∨ !decide (args.length + kws.length < 20) then none
      else (g.mcl.lookup m).bind fun key => (kwOf g.mkw m (kws.map fun k => k.arg) args.length).bind fun pm =>
        (compE g N n sc o).bind fun i => (mapN (compE g N n sc) args).bind fun is => (mapN (compE g N n sc) (kws.map fun k => k.value)).map fun js => .mck key pm i is js
    | .Attribute o f _ => if isSup o then none else (g.att.lookup f).bind fun key => (compE g N n sc o).map fun i => .att i key
    | .Dict [] [] _ => some (.dct [])
    | .Dict [some (.Constant (.str k) _ _)] [.Constant c _ _] _ => (dspD c).map fun d => .dct [(.inr k, d)]
    | .JoinedStr (a :: b :: r) _ => (mapF (compE g N n sc) (a :: b :: r)).map .fst
    | .ListComp elt [⟨tg, iter, ifs, 0⟩] scope _ =>
      if blkC N sc scope (ownOf N scope) then
        (compT (relS scope sc) N n tg).bind fun t =>
        if (tgIx t).all (fun i => decide (i ∈ (ownOf N scope).map (fun (p : Str × Nat) => p.2))) then
          (compI g sc (compE g N n sc) tg iter).bind fun ix =>
          (match ifs with
            | [] => some Exo.no
            | [c] => (tstE (compE g N n (relS scope sc)) c).map .so
            | _ => none).bind fun c =>
          (compE g N n (relS scope sc) elt).map fun el => .lc el t ix c ((ownOf N scope).map (fun (p : Str × Nat) => p.2))
        else none
      else none
    | _ => none
end En
/-! En8: targets, what is walked, comprehensions. -/
namespace En
open PySem L2 PyProof.Rows
/-! ### places of names -/
theorem wip_length (r : Env) : ∀ vs : List Nat, (wip r vs).length = r.length
  | [] => rfl
  | v :: vs => by unfold wip; rw [List.length_set, wip_length r vs]
theorem wip_some {r : Env} {i : Nat} {x : Slot} : ∀ {vs : List Nat}, (wip r vs)[i]? = some (some x) → r[i]? = some (some x) ∧ i ∉ vs
  | [], h => ⟨h, by simp⟩
  | v :: vs, h => by
    unfold wip at h
    by_cases hi : v = i
    · subst hi
      by_cases hv : v < (wip r vs).length
      · rw [List.getElem?_set_self hv] at h; cases h
      · rw [List.getElem?_eq_none (by simpa using hv)] at h; cases h
    · rw [List.getElem?_set_ne hi] at h
      obtain ⟨h1, h2⟩ := wip_some h
      exact ⟨h1, by simp only [List.mem_cons, not_or]; exact ⟨fun e => hi e.symm, h2⟩⟩
theorem wipe_get {σ : St} {i : Nat} : ∀ {vs : List Nat}, i ∉ vs → (wipe σ vs)[i]? = σ[i]?
  | [], _ => rfl
  | v :: vs, h => by
    simp only [List.mem_cons, not_or] at h
    unfold wipe
    rw [List.getElem?_set_ne (fun e => h.1 e.symm), wipe_get h.2]
theorem wipe_in {σ : St} {i : Nat} : ∀ {vs : List Nat}, i ∈ vs → i < σ.length → (wipe σ vs)[i]? = some none
  | v :: vs, h, hl => by
    unfold wipe
    by_cases e : v = i
    · subst e
      rw [List.getElem?_set_self (by rw [wipe_length]; exact hl)]
    · rw [List.getElem?_set_ne e]
      rcases List.mem_cons.mp h with q | q
      · exact absurd q.symm e
      · exact wipe_in q hl
theorem wipe_set {σ : St} {i : Nat} {x : Option V} {vs : List Nat} (h : i ∈ vs) : wipe (σ.set i x) vs = wipe σ vs := by
  apply List.ext_getElem?
  intro j
  by_cases hj : j ∈ vs
  · by_cases hl : j < σ.length
    · rw [wipe_in hj hl, wipe_in hj (by rw [List.length_set]; exact hl)]
    · rw [List.getElem?_eq_none (by rw [wipe_length, List.length_set]; omega), List.getElem?_eq_none (by rw [wipe_length]; omega)]
  · rw [wipe_get hj, wipe_get hj, List.getElem?_set_ne (fun (e : i = j) => hj (by rw [← e]; exact h))]
section
variable {K : PySem.W.Frag} {H : Hp} {r : Env} {σ : St}
theorem RE.wipe (re : RE K H r σ) (vs : List Nat) : RE K H (wip r vs) (L2.wipe σ vs) := by
  refine ⟨fun i s e => ?_, fun i j xs ys ti tj v e1 e2 e3 e4 => ?_, by rw [wip_length, wipe_length]; exact re.len⟩
  · obtain ⟨e1, e2⟩ := wip_some e
    obtain ⟨v, h1, h2⟩ := re.at_ i s e1
    exact ⟨v, by rw [wipe_get e2]; exact h1, h2⟩
  · exact re.inj i j xs ys ti tj v (wip_some e1).1 (wip_some e2).1 (wipe_some e3).1 (wipe_some e4).1
theorem set_own {r : Env} {i j : Nat} {s t : Slot} (e : (r.set i (some t))[j]? = some (some s)) : (j = i ∧ s = t ∧ i < r.length) ∨ (j ≠ i ∧ r[j]? = some (some s)) := by
  by_cases h : i = j
  · subst h
    by_cases hl : i < r.length
    · rw [List.getElem?_set_self hl] at e
      cases e
      exact .inl ⟨rfl, rfl, hl⟩
    · rw [List.getElem?_eq_none (by rw [List.length_set]; omega)] at e
      cases e
  · rw [List.getElem?_set_ne h] at e
    exact .inr ⟨fun z => h z.symm, e⟩
theorem RE.setV {d : D} {v : V} (re : RE K H r σ) (i : Nat) (rd : RD K H d v) : RE K H (r.set i (some (.val d))) (σ.set i (some v)) := by
  refine ⟨fun j s e => ?_, fun j k xs ys tj tk u e1 e2 e3 e4 => ?_, by rw [List.length_set, List.length_set]; exact re.len⟩
  · rcases set_own e with ⟨rfl, rfl, hl⟩ | ⟨hj, e⟩
    · exact ⟨v, List.getElem?_set_self (by rw [← re.len]; exact hl), rd⟩
    · obtain ⟨w, h1, h2⟩ := re.at_ j s e
      exact ⟨w, by rw [List.getElem?_set_ne (fun z => hj z.symm)]; exact h1, h2⟩
  · rcases set_own e1 with ⟨_, q, _⟩ | ⟨hj, e1⟩
    · cases q
    · rcases set_own e2 with ⟨_, q, _⟩ | ⟨hk, e2⟩
      · cases q
      · rw [List.getElem?_set_ne (fun z => hj z.symm)] at e3
        rw [List.getElem?_set_ne (fun z => hk z.symm)] at e4
        exact re.inj j k xs ys tj tk u e1 e2 e3 e4
theorem RE.setO {xs : List D} {p : Addr} {us : List V} (re : RE K H r σ) (i : Nat) (h : H p = some (.lst us)) (rd : RDs K H xs us) (hn : ∀ j ys u, j ≠ i → r[j]? = some (some (.own ys u)) → σ[j]? ≠ some (some (.ref p))) (t : Option Addr) (ht : ∀ a, t = some a → p = a) :
    RE K H (r.set i (some (.own xs t))) (σ.set i (some (.ref p))) := by
  refine ⟨fun j s e => ?_, fun j k ys zs tj tk u e1 e2 e3 e4 => ?_, by rw [List.length_set, List.length_set]; exact re.len⟩
  · rcases set_own e with ⟨rfl, rfl, hl⟩ | ⟨hj, e⟩
    · exact ⟨.ref p, List.getElem?_set_self (by rw [← re.len]; exact hl), p, us, rfl, h, rd, ht⟩
    · obtain ⟨w, h1, h2⟩ := re.at_ j s e
      exact ⟨w, by rw [List.getElem?_set_ne (fun z => hj z.symm)]; exact h1, h2⟩
  · rcases set_own e1 with ⟨j1, q, hl⟩ | ⟨hj, f1⟩
    · rcases set_own e2 with ⟨k1, q, _⟩ | ⟨hk, f2⟩
      · rw [j1, k1]
      · subst j1
        rw [List.getElem?_set_self (by rw [← re.len]; exact hl)] at e3
        cases e3
        rw [List.getElem?_set_ne (fun z => hk z.symm)] at e4
        exact absurd e4 (hn k zs _ hk f2)
    · rw [List.getElem?_set_ne (fun z => hj z.symm)] at e3
      rcases set_own e2 with ⟨k1, q, hl⟩ | ⟨hk, f2⟩
      · subst k1
        rw [List.getElem?_set_self (by rw [← re.len]; exact hl)] at e4
        cases e4
        exact absurd e3 (hn j ys _ hj f1)
      · rw [List.getElem?_set_ne (fun z => hk z.symm)] at e4
        exact re.inj j k ys zs tj tk u f1 f2 e3 e4
end
/-! ### targets -/
def Wd (is : List Nat) (σ σ' : St) : Prop := ∀ vs : List Nat, (∀ i ∈ is, i ∈ vs) → wipe σ' vs = wipe σ vs
section
variable {X : Cx} {G : Cfg} {C : Call} {W : WX}
def rdG (G : Cfg) (t : Tg) : TG := fun v σ H Q => ∃ d r, RE G.K H r σ ∧ RD G.K H d v ∧ bindTg t d r fun r' => ∀ σ', RE G.K H r' σ' → Wd (tgIx t) σ σ' → Q σ' H
def rdGs (G : Cfg) (t : Tgs) : TGs := fun vs σ H Q => ∃ ds r, RE G.K H r σ ∧ RDs G.K H ds vs ∧ bindTgs t ds r fun r' => ∀ σ', RE G.K H r' σ' → Wd (tgsIx t) σ σ' → Q σ' H
theorem PG.imp {e : Expr} {t t' : TG} (h : PG X e t) (w : ∀ v σ H Q, t' v σ H Q → t v σ H Q) : PG X e t' := ⟨fun pins s σ H v u Q I r q => h.run pins s σ H v u Q I r (w v σ H Q q)⟩
theorem PGs.imp {e : List Expr} {t t' : TGs} (h : PGs X e t) (w : ∀ v σ H Q, t' v σ H Q → t v σ H Q) : PGs X e t' := ⟨fun pins s σ H v u Q I r q => h.run pins s σ H v u Q I r (w v σ H Q q)⟩
theorem g_name {i : Nat} {x : Str} {pos : Pos} (hN : X.N.Nodup) (hi : X.N[i]? = some x) (hx : Loc X.env.scope x) (hf : X.fn x = true ∨ X.env.scope.names.lookup x = some .local) : PG X (.Name x pos) (rdG G (.nm i)) := by
  refine PG.imp (pg_name hN hi hx hf) fun v σ H Q ⟨d, r, re, rd, z⟩ => ?_
  unfold bindTg at z
  refine z _ (re.setV i rd) fun vs hv => wipe_set (hv i (by simp [tgIx]))
theorem gs_nil : PGs X [] (rdGs G .nil) := by
  refine PGs.imp pgs_nil fun v σ H Q ⟨d, r, re, rd, z⟩ => ?_
  unfold bindTgs at z
  obtain ⟨e, z⟩ := z
  subst e
  cases rd
  exact ⟨rfl, z σ re fun vs _ => rfl⟩
theorem gs_cons {e : Expr} {es : List Expr} {t : Tg} {u : Tgs} (h1 : PG X e (rdG G t)) (h2 : PGs X es (rdGs G u)) (hs : (assignEach (e :: es) X.env).map (·.2) = assign e X.env :: (assignEach es X.env).map (·.2)) : PGs X (e :: es) (rdGs G (.cons t u)) := by
  refine PGs.imp (pgs_cons h1 h2 hs) fun v σ H Q ⟨ds, r, re, rd, z⟩ => ?_
  unfold bindTgs at z
  obtain ⟨x, xs, e, z⟩ := z
  subst e
  cases rd with
  | cons ra rb =>
    refine ⟨_, _, rfl, _, r, re, ra, bindTg_mono t _ _ _ _ (fun r' q σ' re' wd => ?_) z⟩
    refine ⟨_, r', re', rb, bindTgs_mono u _ _ _ _ (fun r2 q σ2 re2 wd2 => q σ2 re2 fun vs hv => ?_) q⟩
    rw [wd2 vs fun i hi => hv i (by simp [tgsIx, hi]), wd vs fun i hi => hv i (by simp [tgsIx, hi])]
mutual
theorem bindTg_ends : ∀ (t : Tg) (x : D) (r : Env) (K : Env → Prop), bindTg t x r K → ∃ r', K r'
  | .nm i, x, r, K, z => by unfold bindTg at z; exact ⟨_, z⟩
  | .tp ts, x, r, K, z => by
    unfold bindTg at z
    obtain ⟨ds, _, z⟩ := z
    exact bindTgs_ends ts ds r K z
theorem bindTgs_ends : ∀ (t : Tgs) (x : List D) (r : Env) (K : Env → Prop), bindTgs t x r K → ∃ r', K r'
  | .nil, x, r, K, z => by unfold bindTgs at z; exact ⟨_, z.2⟩
  | .cons t ts, x, r, K, z => by
    unfold bindTgs at z
    obtain ⟨x, xs, _, z⟩ := z
    obtain ⟨r', q⟩ := bindTg_ends t x r _ z
    exact bindTgs_ends ts xs r' K q
end
def tgsLen : Tgs → Nat
  | .nil => 0
  | .cons _ r => tgsLen r + 1
theorem bindTgs_length : ∀ (ts : Tgs) (ds : List D) (r : Env) (K : Env → Prop), bindTgs ts ds r K → ds.length = tgsLen ts
  | .nil, ds, r, K, z => by
    unfold bindTgs at z
    rw [z.1]
    rfl
  | .cons t ts, ds, r, K, z => by
    unfold bindTgs at z
    obtain ⟨x, xs, e, z⟩ := z
    subst e
    obtain ⟨r', q⟩ := bindTg_ends t x r _ z
    have := bindTgs_length ts xs r' K q
    simp [tgsLen, this]
theorem g_tup {es : List Expr} {k : Nat} {t : Tgs} {pos : Pos} (hc : X.calm = true) (hK : X.K = G.K) (h : PGs X es (rdGs G t)) (hn : (assignEach es X.env).length = tgsLen t) (hst : (assignEach es X.env).findIdx? (·.1) = none) : PG X (.Tuple es k pos) (rdG G (.tp t)) := by
  refine PG.imp (pg_tup hc h hn hst) fun v σ H Q ⟨d, r, re, rd, z⟩ => ?_
  unfold bindTg at z
  obtain ⟨ds, e, z⟩ := z
  subst e
  cases rd with
  | tup hq rs =>
    refine ⟨_, _, rfl, by rw [hK]; exact hq, by rw [← rs.length]; exact bindTgs_length t _ _ _ z, ds, r, re, rs, bindTgs_mono t _ _ _ _ (fun r' q σ' re' wd => q σ' re' fun vs hv => wd vs fun i hi => hv i (by simpa [tgIx] using hi)) z⟩
theorem compT_nostar {sc : Scope} {N : List Str} {n : Nat} {e : Expr} {t : Tg} (h : compT sc N n e = some t) (env : PySem.Env) (es : List Expr) : assignEach (e :: es) env = (false, assign e env) :: assignEach es env := by
  cases n with
  | zero => simp [compT] at h
  | succ n => cases e <;> first
    | rfl
    | (simp [compT] at h)
mutual
theorem compT_ok {sc : Scope} {N : List Str} (hs : X.env.scope = sc) (hN : X.N = N) (hd : N.Nodup) (hc : X.calm = true) (hK : X.K = G.K) : ∀ (n : Nat) (e : Expr) (t : Tg), compT sc N n e = some t → (∀ i ∈ tgIx t, ∀ x, N[i]? = some x → X.fn x = true ∨ X.env.scope.names.lookup x = some .local) → PG X e (rdG G t)
  | 0, e, t, h, _ => by simp [compT] at h
  | n + 1, e, t, h, hf => by
    cases e with
    | Name x pos =>
      simp only [compT] at h
      split at h
      · rename_i hl
        cases q : ixOf N x with
        | none => rw [q] at h; cases h
        | some i =>
          rw [q] at h
          cases h
          have hi := ixOf_get q
          refine g_name (by rw [hN]; exact hd) (by rw [hN]; exact hi) ?_ (hf i (by simp [tgIx]) x hi)
          unfold isLoc at hl
          rw [hs]
          simp only [Bool.or_eq_true, beq_iff_eq] at hl
          exact hl
      · cases h
    | Tuple es k pos =>
      simp only [compT] at h
      cases q : compTs sc N n es with
      | none => rw [q] at h; cases h
      | some ts =>
        rw [q] at h
        cases h
        obtain ⟨h1, h2, h3⟩ := compTs_ok hs hN hd hc hK n es ts q fun i hi => hf i (by simpa [tgIx] using hi)
        exact g_tup hc hK h1 h2 h3
    | _ => simp [compT] at h
theorem compTs_ok {sc : Scope} {N : List Str} (hs : X.env.scope = sc) (hN : X.N = N) (hd : N.Nodup) (hc : X.calm = true) (hK : X.K = G.K) : ∀ (n : Nat) (es : List Expr) (t : Tgs), compTs sc N n es = some t → (∀ i ∈ tgsIx t, ∀ x, N[i]? = some x → X.fn x = true ∨ X.env.scope.names.lookup x = some .local) →
    PGs X es (rdGs G t) ∧ (assignEach es X.env).length = tgsLen t ∧ (assignEach es X.env).findIdx? (·.1) = none
  | n, [], t, h, _ => by
    have e : t = .nil := by cases n <;> simp [compTs] at h <;> exact h.symm
    subst e
    exact ⟨gs_nil, rfl, rfl⟩
  | 0, e :: es, t, h, _ => by simp [compTs] at h
  | n + 1, e :: es, t, h, hf => by
    simp only [compTs] at h
    cases q : compT sc N n e with
    | none => rw [q] at h; cases h
    | some u =>
      rw [q] at h
      cases q2 : compTs sc N n es with
      | none => rw [q2] at h; cases h
      | some us =>
        rw [q2] at h
        cases h
        have e1 := compT_nostar q X.env es
        obtain ⟨h1, h2, h3⟩ := compTs_ok hs hN hd hc hK n es us q2 fun i hi => hf i (by simp [tgsIx, hi])
        refine ⟨gs_cons (compT_ok hs hN hd hc hK n e u q fun i hi => hf i (by simp [tgsIx, hi])) h1 (by rw [e1]; rfl), by rw [e1]; simp [tgsLen, h2], ?_⟩
        rw [e1, List.findIdx?_cons]
        simp only [h3]
        rfl
end
end
end En
/-! En9: what is walked; comprehensions. -/
namespace En
open PySem L2 PyProof.Rows
/-- J walks these items; S is what may happen meanwhile -/
def Wk (G : Cfg) (S : Hp → Hp → Prop) (J : It) (items : List D) (H : Hp) : Prop :=
  ∃ Gd : Hp → Prop, Gd H ∧ (∀ H1 H2, Gd H1 → S H1 H2 → Gd H2) ∧ Walk J items.length Gd fun i H x H' => ExN H H' ∧ (Tb G H → Tb G H') ∧ ∃ d, items[i]? = some d ∧ RD G.K H' d x
section
variable {G : Cfg} {S : Hp → Hp → Prop} {Rel : Hp → D → V → Prop} {H : Hp}
variable (hR : ∀ H d v, Rel H d v → RB G.K H d v) (hS : ∀ H1 H2 d v, Rel H1 d v → S H1 H2 → Rel H2 d v)
include hR hS
theorem wk_lst {xs : List D} {p : Addr} (h : Rel H (.lst xs) (.ref p)) : Wk G S (Itl G.K p) xs H := by
  refine ⟨fun H => Rel H (.lst xs) (.ref p), h, fun H1 H2 q s => hS _ _ _ _ q s, fun i H hi q => ?_, fun H q => ?_, fun i H x H' hi q y => ?_⟩
  · obtain ⟨p', us, e, hq, rs⟩ := (hR _ _ _ q).lst
    cases e
    have hl := rs.length
    exact ⟨us, us[i]'(by omega), hq, by simp [show i < us.length by omega]⟩
  · obtain ⟨p', us, e, hq, rs⟩ := (hR _ _ _ q).lst
    cases e
    exact ⟨us, hq, by rw [rs.length]; exact Nat.le_refl _⟩
  · obtain ⟨p', us, e, hq, rs⟩ := (hR _ _ _ q).lst
    cases e
    obtain ⟨e, y⟩ := y
    subst e
    obtain ⟨d, e1, e2⟩ := rs.getv (y us hq)
    exact ⟨LamX.ExtN.refl _, fun t => t, d, e1, e2⟩
theorem wk_tup {xs : List D} {p : Addr} (h : Rel H (.tup xs) (.ref p)) : Wk G S (Itt G.K p) xs H := by
  have key : ∀ H, Rel H (.tup xs) (.ref p) → ∃ us, SqT G.K H p us ∧ RDs G.K H xs us := fun H q => by
    cases (hR _ _ _ q).rd (fun _ z => nomatch z) with
    | tup hq rs => exact ⟨_, hq, rs⟩
  refine ⟨fun H => Rel H (.tup xs) (.ref p), h, fun H1 H2 q s => hS _ _ _ _ q s, fun i H hi q => ?_, fun H q => ?_, fun i H x H' hi q y => ?_⟩
  · obtain ⟨us, hq, rs⟩ := key H q
    have hl := rs.length
    exact ⟨us, us[i]'(by omega), hq, by simp [show i < us.length by omega]⟩
  · obtain ⟨us, hq, rs⟩ := key H q
    exact ⟨us, hq, by rw [rs.length]; exact Nat.le_refl _⟩
  · obtain ⟨us, hq, rs⟩ := key H q
    obtain ⟨e, y⟩ := y
    subst e
    obtain ⟨d, e1, e2⟩ := rs.getv (y us hq)
    exact ⟨LamX.ExtN.refl _, fun t => t, d, e1, e2⟩
omit hR hS in
theorem pair_new {H : Hp} {T : Addr} {x y : V} {d e : D} (hT : H T = none) (r1 : RD G.K H d x) (r2 : RD G.K H e y) : ExN H (upd H T (.tup [x, y])) ∧ (Tb G H → Tb G (upd H T (.tup [x, y]))) ∧ RD G.K (upd H T (.tup [x, y])) (.tup [d, e]) (.ref T) := by
  have x1 : ExN H (upd H T (.tup [x, y])) := ExN.new hT
  exact ⟨x1, fun t => Tabs.new t hT, .tup (SqT.of upd_same) (.cons (r1.stb (ExN.stb x1)) (.cons (r2.stb (ExN.stb x1)) .nil))⟩
omit hR hS in
theorem enumD_len (xs : List D) : (enumD xs).length = xs.length := by simp [enumD]
omit hR hS in
theorem enumD_get {xs : List D} {i : Nat} {d : D} (h : xs[i]? = some d) : (enumD xs)[i]? = some (.tup [.int (i : Nat), d]) := by
  have hl : i < xs.length := by
    rcases Nat.lt_or_ge i xs.length with z | z
    · exact z
    · rw [List.getElem?_eq_none z] at h; cases h
  unfold enumD
  rw [List.getElem?_map, List.getElem?_range hl]
  simp [List.getD, h]
theorem wk_enL {xs : List D} {p : Addr} (h : Rel H (.lst xs) (.ref p)) : Wk G S (Ite G.K p) (enumD xs) H := by
  refine ⟨fun H => Rel H (.lst xs) (.ref p), h, fun H1 H2 q s => hS _ _ _ _ q s, fun i H hi q => ?_, fun H q => ?_, fun i H x H' hi q y => ?_⟩
  · obtain ⟨p', us, e, hq, rs⟩ := (hR _ _ _ q).lst
    cases e
    have hl := rs.length
    rw [enumD_len] at hi
    exact walk_enum.goes i H (by omega) hq
  · obtain ⟨p', us, e, hq, rs⟩ := (hR _ _ _ q).lst
    cases e
    rw [enumD_len, rs.length]
    exact walk_enum.stops H hq
  · obtain ⟨p', us, e, hq, rs⟩ := (hR _ _ _ q).lst
    cases e
    rw [enumD_len, rs.length] at hi
    obtain ⟨T, a, b, e1, e2, e3, e4, e5⟩ := walk_enum.yields i H x H' hi hq y
    cases e4
    subst e1 e3
    obtain ⟨d, f1, f2⟩ := rs.getv e5
    obtain ⟨g1, g2, g3⟩ := pair_new e2 (RD.int (K := G.K) (H := H) (i : Nat)) f2
    exact ⟨g1, g2, _, enumD_get f1, g3⟩
theorem wk_enT {xs : List D} {p : Addr} (h : Rel H (.tup xs) (.ref p)) : Wk G S (IteT G.K p) (enumD xs) H := by
  have key : ∀ H, Rel H (.tup xs) (.ref p) → ∃ us, SqT G.K H p us ∧ RDs G.K H xs us := fun H q => by
    cases (hR _ _ _ q).rd (fun _ z => nomatch z) with
    | tup hq rs => exact ⟨_, hq, rs⟩
  refine ⟨fun H => Rel H (.tup xs) (.ref p), h, fun H1 H2 q s => hS _ _ _ _ q s, fun i H hi q => ?_, fun H q => ?_, fun i H x H' hi q y => ?_⟩
  · obtain ⟨us, hq, rs⟩ := key H q
    have hl := rs.length
    rw [enumD_len] at hi
    exact walk_enumT.goes i H (by omega) hq
  · obtain ⟨us, hq, rs⟩ := key H q
    rw [enumD_len, rs.length]
    exact walk_enumT.stops H hq
  · obtain ⟨us, hq, rs⟩ := key H q
    rw [enumD_len, rs.length] at hi
    obtain ⟨T, a, b, e1, e2, e3, e4, e5⟩ := walk_enumT.yields i H x H' hi hq y
    cases e4
    subst e1 e3
    obtain ⟨d, f1, f2⟩ := rs.getv e5
    obtain ⟨g1, g2, g3⟩ := pair_new e2 (RD.int (K := G.K) (H := H) (i : Nat)) f2
    exact ⟨g1, g2, _, enumD_get f1, g3⟩
omit hR hS in
theorem zipD_get {xs ys : List D} {i : Nat} {d e : D} (h : xs[i]? = some d) (g : ys[i]? = some e) : (zipD xs ys)[i]? = some (.tup [d, e]) := by
  unfold zipD
  rw [List.getElem?_zipWith, h, g]
omit hR hS in
theorem zipD_len (xs ys : List D) : (zipD xs ys).length = min xs.length ys.length := by simp [zipD]
theorem wk_zipL {xs ys : List D} {p q : Addr} (h : Rel H (.lst xs) (.ref p)) (g : Rel H (.lst ys) (.ref q)) : Wk G S (Itz G.K p q) (zipD xs ys) H := by
  refine ⟨fun H => Rel H (.lst xs) (.ref p) ∧ Rel H (.lst ys) (.ref q), ⟨h, g⟩, fun H1 H2 z s => ⟨hS _ _ _ _ z.1 s, hS _ _ _ _ z.2 s⟩, fun i H hi z => ?_, fun H z => ?_, fun i H x H' hi z y => ?_⟩
  · obtain ⟨p', us, e, hq, rs⟩ := (hR _ _ _ z.1).lst
    obtain ⟨q', ws, e', hq', rs'⟩ := (hR _ _ _ z.2).lst
    cases e
    cases e'
    rw [zipD_len, rs.length, rs'.length] at hi
    exact (walk_zip rfl).goes i H hi ⟨hq, hq'⟩
  · obtain ⟨p', us, e, hq, rs⟩ := (hR _ _ _ z.1).lst
    obtain ⟨q', ws, e', hq', rs'⟩ := (hR _ _ _ z.2).lst
    cases e
    cases e'
    rw [zipD_len, rs.length, rs'.length]
    exact (walk_zip rfl).stops H ⟨hq, hq'⟩
  · obtain ⟨p', us, e, hq, rs⟩ := (hR _ _ _ z.1).lst
    obtain ⟨q', ws, e', hq', rs'⟩ := (hR _ _ _ z.2).lst
    cases e
    cases e'
    rw [zipD_len, rs.length, rs'.length] at hi
    obtain ⟨T, a, b, e1, e2, e3, e4, e5⟩ := (walk_zip rfl).yields i H x H' hi ⟨hq, hq'⟩ y
    subst e1 e3
    obtain ⟨d, f1, f2⟩ := rs.getv e4
    obtain ⟨d', f1', f2'⟩ := rs'.getv e5
    obtain ⟨g1, g2, g3⟩ := pair_new e2 f2 f2'
    exact ⟨g1, g2, _, zipD_get f1 f1', g3⟩
omit hR hS in
theorem walk_zipT {K : PySem.W.Frag} {a b : Addr} {xs ys : List V} {n : Nat} (hn : n = min xs.length ys.length) : Walk (RZ.ItzT K a b) n (fun H => SqT K H a xs ∧ SqT K H b ys) (YPair (fun i => xs[i]?) (fun i => ys[i]?)) := by
  subst hn
  refine ⟨fun i _ hi q => ?_, fun _ q => ⟨xs, ys, q.1, q.2, by omega⟩, fun i H v H' _ q y => ?_⟩
  · have h1 : i < xs.length := by omega
    have h2 : i < ys.length := by omega
    exact ⟨xs, ys, xs[i], ys[i], q.1, q.2, by simp [h1], by simp [h2]⟩
  · obtain ⟨T, x, z, h1, h2, h3, h4, h5⟩ := y
    exact ⟨T, x, z, h1, h2, h3, h4 xs q.1, h5 ys q.2⟩
theorem wk_zipT {xs ys : List D} {p q : Addr} (h : Rel H (.tup xs) (.ref p)) (g : Rel H (.tup ys) (.ref q)) : Wk G S (RZ.ItzT G.K p q) (zipD xs ys) H := by
  have key : ∀ H xs p, Rel H (.tup xs) (.ref p) → ∃ us, SqT G.K H p us ∧ RDs G.K H xs us := fun H xs p q => by
    cases (hR _ _ _ q).rd (fun _ z => nomatch z) with
    | tup hq rs => exact ⟨_, hq, rs⟩
  refine ⟨fun H => Rel H (.tup xs) (.ref p) ∧ Rel H (.tup ys) (.ref q), ⟨h, g⟩, fun H1 H2 z s => ⟨hS _ _ _ _ z.1 s, hS _ _ _ _ z.2 s⟩, fun i H hi z => ?_, fun H z => ?_, fun i H x H' hi z y => ?_⟩
  · obtain ⟨us, hq, rs⟩ := key _ _ _ z.1
    obtain ⟨ws, hq', rs'⟩ := key _ _ _ z.2
    rw [zipD_len, rs.length, rs'.length] at hi
    exact (walk_zipT rfl).goes i H hi ⟨hq, hq'⟩
  · obtain ⟨us, hq, rs⟩ := key _ _ _ z.1
    obtain ⟨ws, hq', rs'⟩ := key _ _ _ z.2
    rw [zipD_len, rs.length, rs'.length]
    exact (walk_zipT rfl).stops H ⟨hq, hq'⟩
  · obtain ⟨us, hq, rs⟩ := key _ _ _ z.1
    obtain ⟨ws, hq', rs'⟩ := key _ _ _ z.2
    rw [zipD_len, rs.length, rs'.length] at hi
    obtain ⟨T, a, b, e1, e2, e3, e4, e5⟩ := (walk_zipT rfl).yields i H x H' hi ⟨hq, hq'⟩ y
    subst e1 e3
    obtain ⟨d, f1, f2⟩ := rs.getv e4
    obtain ⟨d', f1', f2'⟩ := rs'.getv e5
    obtain ⟨g1, g2, g3⟩ := pair_new e2 f2 f2'
    exact ⟨g1, g2, _, zipD_get f1 f1', g3⟩
omit hR hS in
theorem wk_str {x : Str} : Wk G S (Its x) (x.cps.toList.map fun c => .str ⟨#[c]⟩) H := by
  refine ⟨fun _ => True, trivial, fun _ _ _ _ => trivial, fun i H hi _ => ?_, fun H _ => ?_, fun i H v H' hi _ y => ?_⟩
  · show i < x.cps.size
    simpa using hi
  · show x.cps.size ≤ _
    simp
  · obtain ⟨e, c, h1, h2⟩ := y
    subst e h2
    refine ⟨LamX.ExtN.refl _, fun t => t, .str ⟨#[c]⟩, ?_, .str _⟩
    rw [List.getElem?_map]
    simp [h1]
omit hR hS in
theorem wk_rng {lo : Int} {n : Nat} : Wk G S (Itr lo n) ((List.range n).map fun k => .int (lo + (k : Nat))) H := by
  refine ⟨fun _ => True, trivial, fun _ _ _ _ => trivial, fun i H hi _ => ?_, fun H _ => ?_, fun i H v H' hi _ y => ?_⟩
  · show i < n
    simpa using hi
  · show n ≤ _
    simp
  · obtain ⟨e, y⟩ := y
    subst e y
    refine ⟨LamX.ExtN.refl _, fun t => t, .int (lo + i), ?_, .int _⟩
    rw [List.getElem?_map, List.getElem?_range (by simpa using hi)]
    rfl
end
/-! ### judgements -/
section
variable {X : Cx} {G : Cfg} {C : Call} {W : WX}
theorem PI.imp {tg e : Expr} {t t' : TI} (h : PI X tg e t) (w : ∀ σ H Q, t' σ H Q → t σ H Q) : PI X tg e t' := ⟨fun pins s σ H R I q => h.run pins s σ H R I (w σ H R q)⟩
def iSeq (K : PySem.W.Frag) (te : TE) : TI := fun σ H R => te σ H fun x H1 => (∃ a xs, x = .ref a ∧ SqL K H1 a xs ∧ R (Itl K a) H1) ∨ (∃ a xs, x = .ref a ∧ SqT K H1 a xs ∧ R (Itt K a) H1) ∨ ∃ y, x = .str y ∧ R (Its y) H1
theorem pi_seq {tg l : Expr} {tl : TE} (hl : PE X l tl) : PI X tg l (iSeq X.K tl) := by
  refine ⟨fun pins s σ H R I h => ?_⟩
  refine thn (hl.run pins s σ H _ I h) fun v s1 ⟨x, H1, I1, r1, q1⟩ => ?_
  rcases q1 with ⟨a, xs, e, hq, q⟩ | ⟨a, xs, e, hq, q⟩ | ⟨y, e, q⟩
  · subst e
    cases r1
    obtain ⟨its, rv, p, hz⟩ := I1.list hq
    exact wpAny_pyIter_list p.isList (pi_one (tk := s1.toks) I1 _ (turn_list a _) ⟨_, Heap.get?_push_size _ rfl, rfl, rfl⟩ q)
  · subst e
    cases r1
    obtain ⟨its, rv, p, hz⟩ := I1.tuple hq
    exact wpAny_pyIter_tuple (show s1.heap.IsTuple a its.toArray from p) (pi_one (tk := s1.toks) I1 _ (turn_tuple a _) ⟨_, Heap.get?_push_size _ rfl, rfl, rfl⟩ q)
  · subst e
    obtain ⟨t, rfl⟩ := r1
    cases ha : y.cps.all (· < 128)
    · exact wpAny_pyIter_wide ha (pi_one (tk := s1.toks) I1 _ (turn_str _ y t "str_iterator" (.inr rfl)) ⟨_, Heap.get?_push_size _ rfl, rfl, rfl⟩ q)
    · exact wpAny_pyIter_ascii ha (pi_one (tk := s1.toks) I1 _ (turn_str _ y t "str_ascii_iterator" (.inl rfl)) ⟨_, Heap.get?_push_size _ rfl, rfl, rfl⟩ q)
/-- as a comprehension walks it -/
def rdI (G : Cfg) (C : Call) (W : WX) (it : Ix) : TI := fun σ H R => ∃ r, RE G.K H r σ ∧ Tb G H ∧ evI G.B C it r (fun items => ∀ J H', Wk G ExN J items H' → ExN H H' → Tb G H' → R J H') (exq G W σ H)
theorem rbR (G : Cfg) : ∀ H d v, RB G.K H d v → RB G.K H d v := fun _ _ _ h => h
theorem rbS (G : Cfg) : ∀ H1 H2 d v, RB G.K H1 d v → ExN H1 H2 → RB G.K H2 d v := fun _ _ _ _ h x => h.ext x
theorem rdRB (G : Cfg) : ∀ H d v, RD G.K H d v → RB G.K H d v := fun _ _ _ h => .inl h
theorem rdSt (G : Cfg) : ∀ H1 H2 d v, RD G.K H1 d v → Stb H1 H2 → RD G.K H2 d v := fun _ _ _ _ h x => h.stb x
/-- a walked datum: which walk -/
theorem seq_case {S : Hp → Hp → Prop} {Rel : Hp → D → V → Prop} (hR : ∀ H d v, Rel H d v → RB G.K H d v) (hS : ∀ H1 H2 d v, Rel H1 d v → S H1 H2 → Rel H2 d v) {d : D} {v : V} {H1 : Hp} {F : List D → Prop} {R : It → Hp → Prop} (hd : Rel H1 d v) (z : seqW d F)
    (k : ∀ J items, Wk G S J items H1 → F items → R J H1) : (∃ a xs, v = .ref a ∧ SqL G.K H1 a xs ∧ R (Itl G.K a) H1) ∨ (∃ a xs, v = .ref a ∧ SqT G.K H1 a xs ∧ R (Itt G.K a) H1) ∨ ∃ y, v = .str y ∧ R (Its y) H1 := by
  unfold seqW at z
  split at z
  · obtain ⟨p, us, e, hq, rs⟩ := (hR _ _ _ hd).lst
    subst e
    exact .inl ⟨p, us, rfl, hq, k _ _ (wk_lst hR hS hd) z⟩
  · cases id ((hR _ _ _ hd).rd (fun _ z => nomatch z)) with
    | tup hq rs => exact .inr (.inl ⟨_, _, rfl, hq, k _ _ (wk_tup hR hS hd) z⟩)
  · cases (hR _ _ _ hd).rd (fun _ z => nomatch z)
    exact .inr (.inr ⟨_, rfl, k _ _ wk_str z.2⟩)
  · exact z.elim
theorem enu_case {S : Hp → Hp → Prop} {Rel : Hp → D → V → Prop} (hR : ∀ H d v, Rel H d v → RB G.K H d v) (hS : ∀ H1 H2 d v, Rel H1 d v → S H1 H2 → Rel H2 d v) {d : D} {v : V} {H1 : Hp} {F : List D → Prop} {R : It → Hp → Prop} (hd : Rel H1 d v) (z : enuW d fun xs => F (enumD xs))
    (k : ∀ J items, Wk G S J items H1 → F items → R J H1) : ∃ a xs, [v] = [.ref a] ∧ ((SqL G.K H1 a xs ∧ R (Ite G.K a) H1) ∨ (SqT G.K H1 a xs ∧ R (IteT G.K a) H1)) := by
  unfold enuW at z
  split at z
  · obtain ⟨p, us, e, hq, rs⟩ := (hR _ _ _ hd).lst
    subst e
    exact ⟨p, us, rfl, .inl ⟨hq, k _ _ (wk_enL hR hS hd) z⟩⟩
  · cases id ((hR _ _ _ hd).rd (fun _ z => nomatch z)) with
    | tup hq rs => exact ⟨_, _, rfl, .inr ⟨hq, k _ _ (wk_enT hR hS hd) z⟩⟩
  · exact z.elim
theorem zip_case {S : Hp → Hp → Prop} {Rel : Hp → D → V → Prop} (hR : ∀ H d v, Rel H d v → RB G.K H d v) (hS : ∀ H1 H2 d v, Rel H1 d v → S H1 H2 → Rel H2 d v) {d e : D} {v u : V} {H1 : Hp} {F : List D → Prop} {R : It → Hp → Prop} (hd : Rel H1 d v) (he : Rel H1 e u) (z : zipW d e fun xs ys => F (zipD xs ys))
    (k : ∀ J items, Wk G S J items H1 → F items → R J H1) : ∃ a b xs ys, [v, u] = [.ref a, .ref b] ∧ ((SqL G.K H1 a xs ∧ SqL G.K H1 b ys ∧ R (Itz G.K a b) H1) ∨ (SqT G.K H1 a xs ∧ SqT G.K H1 b ys ∧ R (RZ.ItzT G.K a b) H1)) := by
  unfold zipW at z
  split at z
  · obtain ⟨p, us, e1, hq, rs⟩ := (hR _ _ _ hd).lst
    obtain ⟨p', us', e2, hq', rs'⟩ := (hR _ _ _ he).lst
    subst e1 e2
    exact ⟨p, p', us, us', rfl, .inl ⟨hq, hq', k _ _ (wk_zipL hR hS hd he) z⟩⟩
  · cases id ((hR _ _ _ hd).rd (fun _ z => nomatch z)) with
    | tup hq rs =>
      cases id ((hR _ _ _ he).rd (fun _ z => nomatch z)) with
      | tup hq' rs' => exact ⟨_, _, _, _, rfl, .inr ⟨hq, hq', k _ _ (wk_zipT hR hS hd he) z⟩⟩
  · exact z.elim
section
variable (hB : G.B.Mono) (hC : MonoC C) (hK : X.K = G.K)
include hB hC hK
theorem i_seq {tg e : Expr} {i : Ex} (he : PE X e (rdS G C W i)) : PI X tg e (rdI G C W (.seq i)) := by
  refine PI.imp (pi_seq he) fun σ H R ⟨r, re, tb, z⟩ => ?_
  unfold evI at z
  refine s_bind hB hC re tb (LamX.ExtN.refl H) z fun dx x H1 rx x1 t1 z1 => ?_
  rw [hK]
  exact seq_case (rbR G) (rbS G) rx z1 fun J items wk f => f J H1 wk x1 t1
omit hK in
theorem i_rng1 {tg a : Expr} {i : Ex} {p pos : Pos} (hg : Gl X "range") (hm : X.mg "range" = none) (ha : PE X a (rdS G C W i)) (hs : starEach [a] X.env = [(false, eval a X.env)]) : PI X tg (.Call (.Name "range" p) [a] [] pos) (rdI G C W (.rng1 i)) := by
  refine PI.imp (pi_range1 hg hm (as_cons hB hC ha as_nil hs) hs) fun σ H R ⟨r, re, tb, z⟩ => ?_
  unfold evI at z
  refine ⟨r, re, tb, ?_⟩
  unfold evAs
  refine (evP_mono hB hC i r).S _ _ _ _ (fun x ⟨j, e, l, z⟩ => ?_) (fun c ds z => z) z
  subst e
  show (evAs G.B C .nil r).S _ _
  unfold evAs
  intro vs H' rb x1 t1
  cases rb with
  | cons rb rn =>
    cases rn
    cases rb.rd (fun _ z => nomatch z)
    refine ⟨j, rfl, by omega, by omega, z _ H' ?_ x1 t1⟩
    have := wk_rng (G := G) (S := ExN) (H := H') (lo := 0) (n := j.toNat)
    simpa using this
omit hK in
theorem i_rng2 {tg a b : Expr} {i j : Ex} {p pos : Pos} (hg : Gl X "range") (hm : X.mg "range" = none) (ha : PE X a (rdS G C W i)) (hb : PE X b (rdS G C W j)) (hs : starEach [a, b] X.env = (false, eval a X.env) :: starEach [b] X.env) (hs2 : starEach [b] X.env = [(false, eval b X.env)]) : PI X tg (.Call (.Name "range" p) [a, b] [] pos) (rdI G C W (.rng2 i j)) := by
  refine PI.imp (pi_range2 hg hm (as_cons hB hC ha (as_cons hB hC hb as_nil hs2) hs) (by rw [hs, hs2]) hs2) fun σ H R ⟨r, re, tb, z⟩ => ?_
  unfold evI at z
  refine ⟨r, re, tb, ?_⟩
  unfold evAs
  refine (evP_mono hB hC i r).S _ _ _ _ (fun x z => ?_) (fun c ds z => z) z
  show (evAs G.B C (.cons j .nil) r).S _ _
  unfold evAs
  refine (evP_mono hB hC j r).S _ _ _ _ (fun y ⟨lo, hi, e1, e2, l1, l2, l3, l4, z9⟩ => ?_) (fun c ds z => z) z
  subst e1 e2
  show (evAs G.B C .nil r).S _ _
  unfold evAs
  intro vs H' rb x1 t1
  cases rb with
  | cons rb rn =>
    cases rn with
    | cons rb' rn =>
      cases rn
      cases rb.rd (fun _ z => nomatch z)
      cases rb'.rd (fun _ z => nomatch z)
      exact ⟨lo, hi, rfl, ⟨by omega, by omega, by omega, by omega⟩, z9 _ H' wk_rng x1 t1⟩
theorem i_enu {a : Expr} {i : Ex} {p pos tpos : Pos} {elts : List Expr} {kk : Nat} (hg : Gl X "enumerate") (hm : X.mg "enumerate" = none) (ha : PE X a (rdS G C W i)) (hs : starEach [a] X.env = [(false, eval a X.env)]) : PI X (.Tuple elts kk tpos) (.Call (.Name "enumerate" p) [a] [] pos) (rdI G C W (.enu i)) := by
  refine PI.imp (pi_enumA hg hm (as_cons hB hC ha as_nil hs) hs) fun σ H R ⟨r, re, tb, z⟩ => ?_
  unfold evI at z
  refine ⟨r, re, tb, ?_⟩
  unfold evAs
  refine (evP_mono hB hC i r).S _ _ _ _ (fun x z => ?_) (fun c ds z => z) z
  show (evAs G.B C .nil r).S _ _
  unfold evAs
  intro vs H' rb x1 t1
  cases rb with
  | cons rb rn =>
    cases rn
    rw [hK]
    exact enu_case (F := fun items => ∀ (J : It) (H' : Hp), Wk G ExN J items H' → ExN H H' → Tb G H' → R J H') (rbR G) (rbS G) rb z fun J items wk f => f J H' wk x1 t1
theorem i_zip {a b : Expr} {i j : Ex} {p pos tpos : Pos} {elts : List Expr} {kk : Nat} (hg : Gl X "zip") (hm : X.mg "zip" = none) (ha : PE X a (rdS G C W i)) (hb : PE X b (rdS G C W j)) (hs : starEach [a, b] X.env = (false, eval a X.env) :: starEach [b] X.env) (hs2 : starEach [b] X.env = [(false, eval b X.env)]) :
    PI X (.Tuple elts kk tpos) (.Call (.Name "zip" p) [a, b] [] pos) (rdI G C W (.zip i j)) := by
  refine PI.imp (RZ.pi_zipA hg hm (as_cons hB hC ha (as_cons hB hC hb as_nil hs2) hs) hs (by rw [hs2]; rfl)) fun σ H R ⟨r, re, tb, z⟩ => ?_
  unfold evI at z
  refine ⟨r, re, tb, ?_⟩
  unfold evAs
  refine (evP_mono hB hC i r).S _ _ _ _ (fun x z => ?_) (fun c ds z => z) z
  show (evAs G.B C (.cons j .nil) r).S _ _
  unfold evAs
  refine (evP_mono hB hC j r).S _ _ _ _ (fun y z => ?_) (fun c ds z => z) z
  show (evAs G.B C .nil r).S _ _
  unfold evAs
  intro vs H' rb x1 t1
  cases rb with
  | cons rb rn =>
    cases rn with
    | cons rb' rn =>
      cases rn
      rw [hK]
      exact zip_case (F := fun items => ∀ (J : It) (H' : Hp), Wk G ExN J items H' → ExN H H' → Tb G H' → R J H') (rbR G) (rbS G) rb rb' z fun J items wk f => f J H' wk x1 t1
end
/-! ### comprehensions -/
def rdC (G : Cfg) (C : Call) (c : Exo) : TT := fun σ H Q => ∃ r, RE G.K H r σ ∧ Tb G H ∧ evC G.B C c r fun b => ∀ H', ExN H H' → Tb G H' → Q b H'
def W0 : WX := fun _ _ _ _ => False
theorem PTs.imp {e : List Expr} {t t' : TT} (h : PTs X e t) (w : ∀ σ H Q, t' σ H Q → t σ H Q) : PTs X e t' := ⟨fun pins s σ H Q I q => h.run pins s σ H Q I (w σ H Q q)⟩
theorem c_no : PTs X [] (rdC G C .no) := PTs.imp pts_nil fun σ H Q ⟨r, re, tb, z⟩ => by
  unfold evC at z
  exact z H (LamX.ExtN.refl H) tb
theorem c_so (hB : G.B.Mono) (hC : MonoC C) {c : Expr} {i : Ex} (h : PT X c (rdT G C W0 i)) : PTs X [c] (rdC G C (.so i)) := PTs.imp (pts_one h) fun σ H Q ⟨r, re, tb, z⟩ => by
  unfold evC at z
  exact ⟨r, re, tb, (evP_mono hB hC i r).T _ _ _ _ (fun _ z => z) (fun _ _ z => z.elim) z⟩
theorem Tabs.own {T : List (Addr × Str)} {H : Hp} {p : Addr} {xs ys : List V} (t : LamX.Tabs T H) (h : H p = some (.lst xs)) : LamX.Tabs T (upd H p (.lst ys)) := fun q hq => by
  obtain ⟨ps, h1, h2, h3⟩ := t q hq
  refine ⟨ps, ?_, h2, fun pos cv hc => ?_⟩
  · rw [upd_ne (ne_of h1 h (fun z => nomatch z))]
    exact h1
  · obtain ⟨c, e1, e2⟩ := h3 pos cv hc
    refine ⟨c, e1, ?_⟩
    rw [upd_ne (ne_of e2 h (fun z => nomatch z))]
    exact e2
theorem p_lc (hB : G.B.Mono) (hC : MonoC C) (hX : Bs X G) {elt tg iter : Expr} {ifs : List Expr} {scope : Scope} {own : List (Str × Nat)} {pos : Pos} {el : Ex} {t : Tg} {it : Ix} {co : Exo}
    (hi : PI X tg iter (rdI G C W it)) (ok : BlkOk X.N X.env.scope scope own) (hin : ∀ i ∈ tgIx t, i ∈ own.map (·.2))
    (hg : ∀ (s : Shared) (H : Hp) (C : Addr) (cl : List (Str × Addr)) (fp : List Addr), PG (X.blk s H scope (compEnvC scope cl C X.env) fp) tg (rdG G t))
    (ht : ∀ (s : Shared) (H : Hp) (C' : Addr) (cl : List (Str × Addr)) (fp : List Addr), PTs (X.blk s H scope (compEnvC scope cl C' X.env) fp) ifs (rdC G C co))
    (he : ∀ (s : Shared) (H : Hp) (C' : Addr) (cl : List (Str × Addr)) (fp : List Addr), PE (X.blk s H scope (compEnvC scope cl C' X.env) fp) elt (rdV G C W0 el)) (hs : ∀ x, foldedSetIterable iter X.env x = pure x) :
    ∀ σ H Q, rdR G C W (.lc el t it co (own.map (·.2))) σ H Q → tLc (rdI G C W it) (rdG G t) (rdC G C co) (rdV G C W0 el) (own.map (·.2)) σ H Q := by
  intro σ H Q ⟨r, re, tb, z⟩
  have z : evI G.B C it r (fun items => items.length ≤ sizeLine ∧ foldW (fun x acc K => bindTg t x (wip r (own.map (·.2))) fun r2 =>
      evC G.B C co r2 (fun b => if b = true then (evP G.B C el r2).R (fun y => K (acc ++ [y.d])) E0 else K acc)) items [] fun acc => ∀ v H', RR G.K H H' (.fr acc) v → ExN H H' → Tb G H' → Q v H') (exq G W σ H) := z
  refine ⟨r, re, tb, evI_mono hB hC it r _ _ _ _ (fun items z J H1 wk x1 t1 Dd hD => ?_) (fun _ _ z => z) z⟩
  obtain ⟨hz, z⟩ := z
  obtain ⟨Gd, g1, g2, w⟩ := wk
  have hx1 : ExN H1 (upd H1 Dd (.lst [])) := ExN.new hD
  refine lc_it w (fun i Hc => ∃ acc us, Hc Dd = some (.lst us) ∧ RDs G.K Hc acc us ∧ acc.length ≤ i ∧ ExN H1 Hc ∧ Tb G Hc ∧ foldW (fun x acc K => bindTg t x (wip r (own.map (·.2))) fun r2 =>
      evC G.B C co r2 (fun b => if b = true then (evP G.B C el r2).R (fun y => K (acc ++ [y.d])) E0 else K acc)) (items.drop i) acc fun acc => ∀ v H', RR G.K H H' (.fr acc) v → ExN H H' → Tb G H' → Q v H')
    ⟨[], [], upd_same, .nil, Nat.le_refl _, hx1, Tabs.new t1 hD, by simpa using z⟩ (fun i Hc _ ⟨acc, us, _, _, _, x2, _, _⟩ => g2 _ _ g1 x2) (fun i x Ha Hb hi ⟨acc, us, e1, rs, hl, x2, t2, zf⟩ ⟨x3, t3, d, hd, rd⟩ => ?_) fun Hc ⟨acc, us, e1, rs, hl, x2, t2, zf⟩ => ?_
  · have hdr : items.drop i = d :: items.drop (i + 1) := by
      rw [List.drop_eq_getElem_cons hi]
      rw [List.getElem?_eq_getElem hi] at hd
      rw [Option.some.inj hd]
    rw [hdr] at zf
    unfold foldW at zf
    have xb := x2.trans x3
    have tb' := t3 t2
    refine ⟨d, _, (re.ext (x1.trans xb)).wipe (own.map (·.2)), rd, bindTg_mono t _ _ _ _ (fun r2 z2 σ2 re2 wd => ⟨?_, ?_⟩) zf⟩
    · rw [wd _ hin]
      apply List.ext_getElem?
      intro j
      by_cases hj : j ∈ own.map (·.2)
      · by_cases hl : j < σ.length
        · rw [wipe_in hj hl, wipe_in hj (by rw [wipe_length]; exact hl)]
        · rw [List.getElem?_eq_none (by rw [wipe_length, wipe_length]; omega), List.getElem?_eq_none (by rw [wipe_length]; omega)]
      · rw [wipe_get hj, wipe_get hj]
    · refine ⟨r2, re2, tb', evC_mono hB hC co r2 _ _ (fun b zb Hc x4 t4 => ?_) z2⟩
      have eD : Hc Dd = some (.lst us) := x4 _ _ (x3 _ _ e1 (fun _ z => nomatch z)) (fun _ z => nomatch z)
      cases b with
      | false =>
        simp only [Bool.false_eq_true, if_false] at zb ⊢
        exact ⟨acc, us, eD, rs.stb (ExN.stb (x3.trans x4)), Nat.le_succ_of_le hl, xb.trans x4, t4, zb⟩
      | true =>
        simp only [if_true] at zb ⊢
        refine ⟨r2, re2.ext x4, t4, (evP_mono hB hC el r2).R _ _ _ _ (fun y zy v He rv x5 t5 => ?_) (fun _ _ z => z.elim) zb⟩
        have eD' : He Dd = some (.lst us) := x5 _ _ eD (fun _ z => nomatch z)
        have hlen := rs.length
        refine ⟨us, eD', by omega, acc ++ [y.d], us ++ [v], upd_same, ?_, by simp; omega, ?_, Tabs.own t5 eD', zy⟩
        · exact ((rs.stb (ExN.stb (x3.trans (x4.trans x5)))).append (.one rv)).stb (Stb.own eD')
        · exact ExN.frz (xb.trans (x4.trans x5)) (Fr.of hD)
  · rw [List.drop_length] at zf
    unfold foldW at zf
    exact zf (.ref Dd) Hc ⟨Dd, us, rfl, (Fr.of hD).back x1, e1, rs⟩ (x1.trans x2) t2
end
end En
/-! En10: the text's expressions mean what the small syntax says. -/
namespace En
open PySem L2 PyProof.Rows
def isStar : Expr → Bool
  | .Starred .. => true
  | _ => false
theorem starEach_cons {e : Expr} {es : List Expr} {env : PySem.Env} (h : isStar e = false) : starEach (e :: es) env = (false, eval e env) :: starEach es env := by
  cases e <;> first
    | rfl
    | cases h
theorem attrBase_ok {o : Expr} {f : Str} {env : PySem.Env} {w : Sem Value} (h : isSup o = false) : attributeBase o f env w = w := by
  unfold attributeBase
  split
  · cases h
  · rfl
/-- how many there are, none of them spread -/
def exsN : Exs → Option Nat
  | .nil => some 0
  | .cons _ r => (exsN r).map (· + 1)
  | .star _ _ => none
theorem mapN_len {f : Expr → Option Ex} : ∀ (es : List Expr) (is : Exs), mapN f es = some is → exsN is = some es.length
  | [], is, h => by
    simp only [mapN] at h
    cases h
    rfl
  | e :: es, is, h => by
    simp only [mapN, Option.bind_eq_some_iff, Option.map_eq_some_iff] at h
    obtain ⟨i, h1, is', h2, e3⟩ := h
    subst e3
    simp only [exsN, mapN_len es is' h2]
    rfl
theorem evAs_len {B : Lib} {C : Call} (hB : B.Mono) (hC : MonoC C) : ∀ {is : Exs} {n : Nat} {r : Env} {Q : List D → Prop} {E : XP}, exsN is = some n → (evAs B C is r).R Q E → (evAs B C is r).R (fun xs => xs.length = n ∧ Q xs) E
  | .nil, n, r, Q, E, h, z => by
    simp only [exsN] at h
    cases h
    unfold evAs at z ⊢
    exact ⟨rfl, z⟩
  | .cons e is, n, r, Q, E, h, z => by
    simp only [exsN, Option.map_eq_some_iff] at h
    obtain ⟨m, h1, h2⟩ := h
    subst h2
    unfold evAs at z ⊢
    refine (evP_mono hB hC e r).R _ _ E E (fun x q => ?_) (fun _ _ z => z) z
    exact (evAs_mono hB hC is r).R _ _ E E (fun xs q => ⟨by simp [q.1], q.2⟩) (fun _ _ z => z) (evAs_len hB hC h1 q)
  | .star e is, n, r, Q, E, h, z => by cases h
/-- what is known of the names, in every context that is ok -/
structure Kn (g : Gi) (G : Cfg) (C : Call) (Ok : Cx → WX → Prop) : Prop where
  hB : G.B.Mono
  hC : MonoC C
  bs : ∀ X W, Ok X W → Bs X G
  blk : ∀ X W s H scope cl a fp, Ok X W → Ok (X.blk s H scope (compEnvC scope cl a X.env) fp) W0
  con : ∀ X W x d pos, Ok X W → g.con.lookup x = some d → Gl X x → odd x = false → PE X (.Name x pos) (rdR G C W (.glo d))
  no : ∀ X W x, Ok X W → x ∈ g.its → X.mg x = none
  fn : ∀ X W f args is p pos, Ok X W → f ∈ g.fns → Gl X f → odd f = false → (∀ e ∈ args, isStar e = false) → (args = [] → is = .nil) → PA X args (rdA G C W is) → PE X (.Call (.Name f p) args [] pos) (rdR G C W (.fn f is))
  fnk : ∀ X W f pm args kws is js p pos, Ok X W → (f, kws.map (fun (k : Keyword) => k.arg), args.length, pm) ∈ g.kws → Gl X f → odd f = false → (∀ e ∈ args, isStar e = false) → (∀ e ∈ kws.map fun (k : Keyword) => k.value, isStar e = false) → kws ≠ [] → (args = [] → is = .nil) → exsN is = some args.length → exsN js = some kws.length →
    PA X args (rdA G C W is) → PK X kws (rdA G C W js) → PE X (.Call (.Name f p) args kws pos) (rdR G C W (.fnk f pm is js))
  blt : ∀ X W f b args is p pos, Ok X W → g.blt.lookup f = some b → Gl X f → odd f = false → args ≠ [] → (∀ e ∈ args, isStar e = false) → PA X args (rdAS G C W is) → PE X (.Call (.Name f p) args [] pos) (rdR G C W (.blt b is))
  mth : ∀ X W m b o io args is ap cp, Ok X W → g.mth.lookup m = some b → (ap.endLine == cp.line) = true → args ≠ [] → args.length < 20 → (∀ e ∈ args, isStar e = false) → PE X o (rdS G C W io) → PA X args (rdAS G C W is) → isSup o = false → PE X (.Call (.Attribute o m ap) args [] cp) (rdR G C W (.mth b io is))
  mcl : ∀ X W m key o io args is ap cp, Ok X W → g.mcl.lookup m = some key → (ap.endLine == cp.line) = true → args.length < 20 → (∀ e ∈ args, isStar e = false) → (args = [] → is = .nil) → PE X o (rdV G C W io) → PA X args (rdA G C W is) → isSup o = false → PE X (.Call (.Attribute o m ap) args [] cp) (rdR G C W (.mcl key io is))
  mck : ∀ X W m key pm o io args kws is js ap cp, Ok X W → g.mcl.lookup m = some key → (m, kws.map (fun (k : Keyword) => k.arg), args.length, pm) ∈ g.mkw → (ap.endLine == cp.line) = true → args.length + kws.length < 20 → (∀ e ∈ args, isStar e = false) → (∀ e ∈ kws.map fun (k : Keyword) => k.value, isStar e = false) → kws ≠ [] → (args = [] → is = .nil) → exsN is = some args.length → exsN js = some kws.length →
    PE X o (rdV G C W io) → PA X args (rdA G C W is) → PK X kws (rdA G C W js) → isSup o = false → PE X (.Call (.Attribute o m ap) args kws cp) (rdR G C W (.mck key pm io is js))
  att : ∀ X W o io f key pos, Ok X W → g.att.lookup f = some key → PE X o (rdV G C W io) → isSup o = false → PE X (.Attribute o f pos) (rdR G C W (.att io key))
  eqo : ∀ X W, Ok X W → EqoOk X G C
  lam : ∀ X W f params body scope p lp pos n e nm is, Ok X W → f ∈ g.ans → Gl X f → odd f = false → noArg params = true → LamX.LamS X.env.scope scope → compE g.noA X.N n scope body = some e → (nm, is, X.N.length, e) ∈ g.lams →
    PE X (.Call (.Name f p) [.Lambda params body scope lp] [] pos) (rdR G C W (.fn nm (varsE is)))
  rev : ∀ X W o io s p pos, Ok X W → ("[::-1]" : Str) ∈ g.its → minus1 s = true → PE X o (rdS G C W io) → PE X (.Subscript o (.Slice none none (some s) p) pos) (rdR G C W (.rev io))
/-- an expression's soundness -/
structure Sd (G : Cfg) (C : Call) (X : Cx) (W : WX) (e : Expr) (i : Ex) : Prop where
  R : PE X e (rdR G C W i)
  S : PE X e (rdS G C W i)
  T : isIf e = false → PT X e (rdT G C W i)
  st : isStar e = false
section
variable {g : Gi} {G : Cfg} {C : Call} {X : Cx} {W : WX}
theorem rdR_S (hB : G.B.Mono) (hC : MonoC C) {e : Expr} {i : Ex} (hn : ∀ k, i ≠ .var k) (h : PE X e (rdR G C W i)) : PE X e (rdS G C W i) := rdS_of hB hC hn (pe_frz hB hC h)
theorem sd_val (hB : G.B.Mono) (hC : MonoC C) (hK : X.K = G.K) {e : Expr} {i : Ex} (hn : ∀ k, i ≠ .var k) (hT : ∀ r Q E, evT G.B C i r Q E = evS G.B C i r (fun x => truW x Q) E) (h : PE X e (rdR G C W i))
    (he : isIf e = false → ∀ whole, isTrue e X.env whole = (do let v ← whole; standAt e.pos; holding [v] (truthy v))) (st : isStar e = false) : Sd G C X W e i :=
  ⟨h, rdR_S hB hC hn h, fun hi => t_val hB hC hK hT (rdR_S hB hC hn h) (he hi), st⟩
variable {f : Expr → Option Ex} (hB : G.B.Mono) (hC : MonoC C) (ih : ∀ e i, f e = some i → Sd G C X W e i)
include hB hC ih
theorem mapN_ok : ∀ (es : List Expr) (is : Exs), mapN f es = some is → PA X es (rdA G C W is) ∧ PA X es (rdAS G C W is) ∧ ∀ e ∈ es, isStar e = false
  | [], is, h => by
    simp only [mapN] at h
    cases h
    exact ⟨a_nil, as_nil, by simp⟩
  | e :: es, is, h => by
    simp only [mapN, Option.bind_eq_some_iff, Option.map_eq_some_iff] at h
    obtain ⟨i, h1, is', h2, e3⟩ := h
    subst e3
    have s := ih e i h1
    obtain ⟨p1, p2, p3⟩ := mapN_ok es is' h2
    refine ⟨a_cons hB hC (pe_frz hB hC s.R) p1 (starEach_cons s.st), as_cons hB hC s.S p2 (starEach_cons s.st), fun x hx => ?_⟩
    rcases List.mem_cons.mp hx with q | q
    · rw [q]; exact s.st
    · exact p3 x q
omit hB hC ih in
theorem mapN_nil {es : List Expr} {is : Exs} (h : mapN f es = some is) (e : es = []) : is = .nil := by
  subst e
  simp only [mapN] at h
  cases h
  rfl
theorem mapK_ok : ∀ (ks : List Keyword) (is : Exs), mapN f (ks.map fun (k : Keyword) => k.value) = some is → PK X ks (rdA G C W is) ∧ ∀ e ∈ ks.map fun (k : Keyword) => k.value, isStar e = false
  | [], is, h => by
    simp only [List.map_nil, mapN] at h
    cases h
    refine ⟨⟨fun pos pins s σ H Q I ⟨r, re, tb, z⟩ => pk_nil.run pos pins s σ H Q I ?_⟩, by simp⟩
    unfold evAs at z
    exact z [] H .nil (LamX.ExtN.refl H) tb
  | ⟨nm, e, kp⟩ :: ks, is, h => by
    simp only [List.map_cons, mapN, Option.bind_eq_some_iff, Option.map_eq_some_iff] at h
    obtain ⟨i, h1, is', h2, e3⟩ := h
    subst e3
    have s := ih e i h1
    obtain ⟨p1, p2⟩ := mapK_ok ks is' h2
    refine ⟨⟨fun pos pins s' σ H Q I ⟨r, re, tb, z⟩ => (pk_cons (pe_frz hB hC s.R) p1).run pos pins s' σ H Q I ?_⟩, fun x hx => ?_⟩
    · unfold evAs at z
      refine v_bind hB hC re tb (LamX.ExtN.refl H) z fun d v H1 rx x1 t1 z1 => ?_
      refine a_bind hB hC (re.ext x1) t1 x1 z1 fun ds vs H2 rs x2 t2 f => ?_
      exact f _ H2 (.cons (rx.stb (ExN.stb x2)) rs) (x1.trans x2) t2
    · rcases List.mem_cons.mp hx with q | q
      · rw [q]; exact s.st
      · exact p2 x q
theorem mapA_ok (hK : X.K = G.K) : ∀ (es : List Expr) (is : Exs), mapA f es = some is → PA X es (rdA G C W is)
  | [], is, h => by
    simp only [mapA] at h
    cases h
    exact a_nil
  | e :: es, is, h => by
    cases hs : isStar e with
    | false =>
      have h : ((f e).bind fun i => (mapA f es).map fun is => Exs.cons i is) = some is := by
        cases e <;> first
          | exact h
          | cases hs
      simp only [Option.bind_eq_some_iff, Option.map_eq_some_iff] at h
      obtain ⟨i, h1, is', h2, e3⟩ := h
      subst e3
      have s := ih e i h1
      exact a_cons hB hC (pe_frz hB hC s.R) (mapA_ok hK es is' h2) (starEach_cons s.st)
    | true =>
      cases e <;> first
        | cases hs
        | skip
      rename_i e p
      simp only [mapA, Option.bind_eq_some_iff, Option.map_eq_some_iff] at h
      obtain ⟨i, h1, is', h2, e3⟩ := h
      subst e3
      have s := ih e i h1
      refine PA.imp (StX.pa_star s.S (mapA_ok hK es is' h2) rfl) fun σ H Q ⟨r, re, tb, z⟩ => ?_
      unfold evAs at z
      refine s_bind hB hC re tb (LamX.ExtN.refl H) z fun d v H1 rx x1 t1 z1 => ?_
      rw [hK]
      unfold enuW at z1
      split at z1
      · obtain ⟨p, us, e1, hq, rs⟩ := rx.lst
        refine ⟨p, us, e1, .inr hq, a_bind hB hC (re.ext x1) t1 x1 z1 fun ds vs H2 rs2 x2 t2 f2 => ?_⟩
        exact f2 _ H2 ((rs.stb (ExN.stb x2)).append rs2) (x1.trans x2) t2
      · cases rx.rd (fun _ z => nomatch z) with
        | tup hq rs =>
          refine ⟨_, _, rfl, .inl hq, a_bind hB hC (re.ext x1) t1 x1 z1 fun ds vs H2 rs2 x2 t2 f2 => ?_⟩
          exact f2 _ H2 ((rs.stb (ExN.stb x2)).append rs2) (x1.trans x2) t2
      · exact z1.elim
theorem optE_ok (o : Option Expr) (i : Exo) (h : optE f o = some i) : PO X o (rdO G C W i) := by
  cases o with
  | none =>
    simp only [optE] at h
    cases h
    exact o_no
  | some e =>
    simp only [optE, Option.map_eq_some_iff] at h
    obtain ⟨j, h1, h2⟩ := h
    subst h2
    exact o_so hB hC (ih e j h1).S
theorem boolA_var (op : BoolOp) (a b : Expr) (r : List Expr) (i : Ex) (h : boolA f op (a :: b :: r) = some i) : (∀ k, i ≠ .var k) := by
  simp only [boolA, Option.bind_eq_some_iff, Option.map_eq_some_iff] at h
  obtain ⟨i1, h1, i2, h2, h3⟩ := h
  intro k e
  rw [e] at h3
  cases op <;> cases h3
/-- a row of ands or ors -/
theorem boolA_ok (op : BoolOp) (pos : Pos) (hif : ∀ e i, f e = some i → isIf e = false) : ∀ (es : List Expr) (i : Ex), boolA f op es = some i → PE X (.BoolOp op es pos) (rdR G C W i) ∧ PW X (.BoolOp op es pos) (rdT G C W i)
  | [], i, h => by
    simp only [boolA] at h
    cases h
  | [a], i, h => by
    simp only [boolA] at h
    have s := ih a i h
    cases op with
    | And => exact ⟨pe_one s.R, pw_and1 (s.T (hif _ _ h))⟩
    | Or => exact ⟨pe_one s.R, pw_or1 (s.T (hif _ _ h))⟩
  | a :: b :: r, i, h => by
    simp only [boolA, Option.bind_eq_some_iff, Option.map_eq_some_iff] at h
    obtain ⟨i1, h1, i2, h2, h3⟩ := h
    have s := ih a i1 h1
    obtain ⟨p1, p2⟩ := boolA_ok op pos hif (b :: r) i2 h2
    cases op with
    | And => cases h3; exact ⟨p_and hB hC s.S p1, w_and hB hC (s.T (hif _ _ h1)) p2⟩
    | Or => cases h3; exact ⟨p_or hB hC s.S p1, w_or hB hC (s.T (hif _ _ h1)) p2⟩
/-- the readings of an f-string's parts -/
def fstE (G : Cfg) (C : Call) (W : WX) : Exs → List TE
  | .nil => []
  | .cons (.con (.str x)) r => tC (.str x) :: fstE G C W r
  | .cons e r => tFmt (rdS G C W e) :: fstE G C W r
  | .star _ r => fstE G C W r
omit ih in
theorem fst_run {σ : St} (es : Exs) : ∀ (r : Env) (acc : Str) (H0 H : Hp) (Q F : Str → Prop) (R : Str → Hp → Prop), RE G.K H r σ → Tb G H → ExN H0 H → evF G.B C es r acc F (exq G W σ H0) → (∀ s H', ExN H H' → Tb G H' → F s → R s H') → tJs (fstE G C W es) acc σ H R := by
  induction es using Exs.rec (motive_1 := fun _ => True) (motive_3 := fun _ => True) (motive_4 := fun _ => True) with
  | nil =>
    intro r acc H0 H Q F R re tb x0 z k
    unfold evF at z
    exact k acc H (LamX.ExtN.refl H) tb z
  | cons e es _ ih2 =>
    intro r acc H0 H Q F R re tb x0 z k
    unfold evF at z
    have gen : tJs (tFmt (rdS G C W e) :: fstE G C W es) acc σ H R := by
      refine s_bind hB hC re tb x0 z fun d v H1 rx x1 t1 z1 => ?_
      unfold fmtW at z1
      split at z1
      · obtain ⟨h1, h2, h3⟩ := z1
        cases rx.rd (fun _ z => nomatch z)
        exact .inl ⟨_, rfl, h1, _, rfl, h2, ih2 r _ H0 H1 Q F R (re.ext x1) t1 (x0.trans x1) h3 fun s H' x t f => k s H' (x1.trans x) t f⟩
      · obtain ⟨h1, h2, h3⟩ := z1
        cases rx.rd (fun _ z => nomatch z)
        exact .inr ⟨_, rfl, h1, _, rfl, h2, ih2 r _ H0 H1 Q F R (re.ext x1) t1 (x0.trans x1) h3 fun s H' x t f => k s H' (x1.trans x) t f⟩
      · exact z1.elim
    unfold fstE
    split
    · cases ‹Exs.cons _ _ = _›
    · rename_i x r' q
      cases q
      obtain ⟨h1, h2, h3⟩ := (show fmtW (.str x) fun s => (acc ++ s).length ≤ sizeLine ∧ evF G.B C es r (acc ++ s) F (exq G W σ H0) from z)
      exact ⟨x, rfl, h2, ih2 r _ H0 H Q F R re tb x0 h3 k⟩
    · rename_i q
      cases q
      exact gen
    · cases ‹Exs.cons _ _ = _›
  | star e es _ _ =>
    intro r acc H0 H Q F R re tb x0 z k
    unfold evF at z
    exact z.elim
  | _ => trivial
theorem mapF_ok : ∀ (es : List Expr) (is : Exs), mapF f es = some is → PJ X es (fstE G C W is)
  | [], is, h => by
    simp only [mapF] at h
    cases h
    exact .nil
  | e :: es, is, h => by
    unfold mapF at h
    split at h
    · cases ‹_ :: _ = []›
    · rename_i x k p r q
      cases q
      simp only [Option.map_eq_some_iff] at h
      obtain ⟨is', h1, h2⟩ := h
      subst h2
      exact .cons pe_str (mapF_ok es is' h1)
    · rename_i e' c p r q
      cases q
      split at h
      · rename_i hc
        subst hc
        simp only [Option.bind_eq_some_iff, Option.map_eq_some_iff] at h
        obtain ⟨i, h1, h⟩ := h
        split at h
        · cases h
        rename_i nc
        simp only [Option.map_eq_some_iff] at h
        obtain ⟨is', h2, h3⟩ := h
        subst h3
        have s := ih e' i h1
        have hp := mapF_ok es is' h2
        unfold fstE
        split
        · cases ‹Exs.cons _ _ = _›
        · rename_i x r' q
          cases q
          exact absurd rfl nc
        · rename_i q
          cases q
          exact .cons (pe_fmt s.S) hp
        · cases ‹Exs.cons _ _ = _›
      · cases h
    · cases h
end
theorem isTrue_ok {e : Expr} {env : PySem.Env} (h : isIf e = false) (h2 : ∀ op es p, e ≠ .BoolOp op es p) (h3 : ∀ a p, e ≠ .UnaryOp .Not a p) (h4 : ∀ a o b p, e ≠ .Compare a o b p) : ∀ whole, isTrue e env whole = (do let v ← whole; standAt e.pos; holding [v] (truthy v)) := by
  intro whole
  cases e <;> first
    | rfl
    | exact absurd rfl (h2 _ _ _)
    | exact absurd rfl (h4 _ _ _ _)
    | exact Bool.noConfusion (show true = false from h)
    | (rename_i op a p; cases op <;> first | rfl | exact absurd rfl (h3 _ _))
theorem fset_ok {e : Expr} {env : PySem.Env} (h : isSet e = false) : ∀ x, foldedSetIterable e env x = pure x := by
  intro x
  cases e <;> first
    | rfl
    | cases h
theorem behind_ok {op : CmpOp} {b : Expr} (h : isSet b = false) : behindInMarks op b = false := by
  cases b <;> first
    | (cases op <;> rfl)
    | cases h
end En
/-! En11: compE is sound. -/
namespace En
open PySem L2 PyProof.Rows
theorem odd_cases {x : Str} (h : odd x = false) : (x == ("__debug__" : Str)) = false ∧ (x == ("__classdict__" : Str)) = false ∧ x ≠ "__name__" := by
  unfold odd at h
  simp only [Bool.or_eq_false_iff] at h
  refine ⟨h.1.1, h.1.2, fun e => ?_⟩
  have := h.2
  rw [e] at this
  simp at this
theorem gl_ok {X : Cx} {sc : Scope} {x : Str} (hs : X.env.scope = sc) (h : isGl sc x = true) : Gl X x := by
  unfold isGl at h
  show X.env.scope.names.lookup x = _
  rw [hs]
  simpa using h
theorem vis_ok {X : Cx} {sc : Scope} {x : Str} (hs : X.env.scope = sc) (h : isVis sc x = true) : Vis X.env.scope x := by
  unfold isVis at h
  simp only [Bool.or_eq_true, beq_iff_eq] at h
  rw [hs]
  rcases h with (h | h) | h
  · exact .inl h
  · exact .inr (.inl h)
  · exact .inr (.inr h)
theorem plainIx_ok {g : Gi} {N : List Str} {n : Nat} {sc : Scope} {b : Expr} {j : Ex} (h : compE g N n sc b = some j) : PlainIx b := by
  cases n with
  | zero => simp [compE] at h
  | succ n => cases b <;> first
    | (intro o i; rfl)
    | (simp [compE] at h)
section
variable {g : Gi} {G : Cfg} {C : Call} {Ok : Cx → WX → Prop}
theorem compI_ok (k : Kn g G C Ok) {X : Cx} {W : WX} {sc : Scope} {f : Expr → Option Ex} (ok : Ok X W) (hs : X.env.scope = sc) (ih : ∀ e i, f e = some i → Sd G C X W e i) (tg iter : Expr) (ix : Ix) (h : compI g sc f tg iter = some ix) :
    PI X tg iter (rdI G C W ix) ∧ isSet iter = false := by
  have hK := (k.bs X W ok).K
  have seq : isSet iter = false → (f iter).map .seq = some ix → PI X tg iter (rdI G C W ix) ∧ isSet iter = false := fun hi h => by
    simp only [Option.map_eq_some_iff] at h
    obtain ⟨i, h1, h2⟩ := h
    subst h2
    exact ⟨i_seq k.hB k.hC hK (ih _ _ h1).S, hi⟩
  unfold compI at h
  split at h
  · rename_i x px a pos
    split at h
    · rename_i c
      obtain ⟨e1, e2, e3⟩ := c
      subst e1
      simp only [Option.map_eq_some_iff] at h
      obtain ⟨i, h1, h2⟩ := h
      subst h2
      have s := ih _ _ h1
      exact ⟨i_rng1 k.hB k.hC (gl_ok hs e2) (k.no X W _ ok e3) s.S (starEach_cons s.st), rfl⟩
    · split at h
      · rename_i c
        obtain ⟨e1, e2, e3, e4⟩ := c
        subst e1
        simp only [Option.map_eq_some_iff] at h
        obtain ⟨i, h1, h2⟩ := h
        subst h2
        have s := ih _ _ h1
        cases tg <;> first
          | exact ⟨i_enu k.hB k.hC hK (gl_ok hs e2) (k.no X W _ ok e3) s.S (starEach_cons s.st), rfl⟩
          | cases e4
      · exact seq rfl h
  · rename_i x px a b pos
    split at h
    · rename_i c
      obtain ⟨e1, e2, e3⟩ := c
      subst e1
      simp only [Option.map_eq_some_iff, Option.bind_eq_some_iff] at h
      obtain ⟨i, h1, j, h2, h3⟩ := h
      subst h3
      have s := ih _ _ h1
      have s2 := ih _ _ h2
      exact ⟨i_rng2 k.hB k.hC (gl_ok hs e2) (k.no X W _ ok e3) s.S s2.S (starEach_cons s.st) (starEach_cons s2.st), rfl⟩
    · split at h
      · rename_i c
        obtain ⟨e1, e2, e3, e4⟩ := c
        subst e1
        simp only [Option.map_eq_some_iff, Option.bind_eq_some_iff] at h
        obtain ⟨i, h1, j, h2, h3⟩ := h
        subst h3
        have s := ih _ _ h1
        have s2 := ih _ _ h2
        cases tg <;> first
          | exact ⟨i_zip k.hB k.hC hK (gl_ok hs e2) (k.no X W _ ok e3) s.S s2.S (starEach_cons s.st) (starEach_cons s2.st), rfl⟩
          | cases e4
      · exact seq rfl h
  · cases h
  · rename_i h3 
    refine seq ?_ h
    cases iter <;> first
      | rfl
      | exact absurd rfl (h3 _ _ _)
theorem own_fn {N : List Str} {X : Cx} {scope sc : Scope} {t : Tg} {Y : Cx} (ok : BlkOk N sc scope (ownOf N scope)) (hN : N.Nodup) (hin : ∀ i ∈ tgIx t, i ∈ (ownOf N scope).map (fun (p : Str × Nat) => p.2)) (hsc : Y.env.scope = relS scope sc) (hf : Y.fn = fun x => scope.names.lookup x == some .cell) :
    ∀ i ∈ tgIx t, ∀ x, N[i]? = some x → Y.fn x = true ∨ Y.env.scope.names.lookup x = some .local := by
  intro i hi x hx
  obtain ⟨p, hp, e⟩ := List.mem_map.mp (hin i hi)
  subst e
  have e3 := ok.ix p hp
  rw [hx] at e3
  have e3 : x = p.1 := Option.some.inj e3
  unfold ownOf at hp
  obtain ⟨y, hy, hq⟩ := List.mem_filterMap.mp hp
  have hu := ok.uniq y hy
  have key : y.1 = p.1 := by
    split at hq <;> first
      | (simp only [Option.map_eq_some_iff] at hq; obtain ⟨j, _, e⟩ := hq; rw [← e])
      | cases hq
  rw [e3, ← key]
  split at hq
  · rename_i e
    rw [e] at hu
    refine .inr ?_
    rw [hsc]
    exact lookup_relS_keep (by simp) hu
  · rename_i e
    rw [e] at hu
    refine .inl ?_
    rw [hf]
    simp [hu]
  · cases hq
theorem tst_ok {f : Expr → Option Ex} {X : Cx} {W : WX} (ih : ∀ e i, f e = some i → Sd G C X W e i) : ∀ e i, tstE f e = some i → Sd G C X W e i ∧ isIf e = false := by
  intro e i h
  unfold tstE at h
  split at h
  · cases h
  · rename_i q
    exact ⟨ih e i h, by simpa using q⟩
theorem compE_ok (k : Kn g G C Ok) {N : List Str} (hN : N.Nodup) : ∀ (n : Nat) (sc : Scope) (e : Expr) (i : Ex), compE g N n sc e = some i → ∀ (X : Cx) (W : WX), Ok X W → X.env.scope = sc → X.N = N → Sd G C X W e i
  | 0, sc, e, i, h, X, W, ok, hs, hn => by simp [compE] at h
  | n + 1, sc, e, i, h, X, W, ok, hs, hn => by
    have hB := k.hB
    have hC := k.hC
    have bs := k.bs X W ok
    have eqo := k.eqo X W ok
    have hK := bs.K
    have ih : ∀ e i, compE g N n sc e = some i → Sd G C X W e i := fun e i h => compE_ok k hN n sc e i h X W ok hs hn
    have val : ∀ {i}, (∀ j, i ≠ Ex.var j) → (∀ r Q E, evT G.B C i r Q E = evS G.B C i r (fun x => truW x Q) E) → PE X e (rdR G C W i) → (∀ op es p, e ≠ .BoolOp op es p) → (∀ a p, e ≠ .UnaryOp .Not a p) → (∀ a o b p, e ≠ .Compare a o b p) → isStar e = false → Sd G C X W e i :=
      fun h1 h2 h3 h4 h5 h6 h7 => sd_val hB hC hK h1 h2 h3 (fun hi => isTrue_ok hi h4 h5 h6) h7
    unfold compE at h
    split at h
    · rename_i c kk p
      simp only [Option.map_eq_some_iff] at h
      obtain ⟨d, h1, h2⟩ := h
      subst h2
      refine val (fun _ z => nomatch z) (fun _ _ _ => rfl) ?_ (fun _ _ _ z => nomatch z) (fun _ _ z => nomatch z) (fun _ _ _ _ z => nomatch z) rfl
      cases c <;> first
        | (cases h1; exact p_con pe_non fun _ => .non)
        | (cases h1; exact p_con pe_bl fun _ => .bl _)
        | (cases h1; exact p_con pe_int fun _ => .int _)
        | (cases h1; exact p_con pe_str fun _ => .str _)
        | cases h1
    · rename_i x p
      unfold nameE at h
      split at h
      · cases h
      · rename_i ho
        have ho : odd x = false := by simpa using ho
        obtain ⟨o1, o2, o3⟩ := odd_cases ho
        split at h
        · rename_i hv
          simp only [Option.map_eq_some_iff] at h
          obtain ⟨j, h1, h2⟩ := h
          subst h2
          have pv : PE X (.Name x p) (tVar j) := pe_var (by rw [hn]; exact ixOf_get h1) (vis_ok hs hv) o1 o2
          exact ⟨p_var pv, p_varS pv, fun hi => t_val hB hC hK (fun _ _ _ => rfl) (p_varS pv) (isTrue_ok hi (fun _ _ _ z => nomatch z) (fun _ _ z => nomatch z) (fun _ _ _ _ z => nomatch z)), rfl⟩
        · split at h
          · rename_i hg
            simp only [Option.map_eq_some_iff] at h
            obtain ⟨d, h1, h2⟩ := h
            subst h2
            exact val (fun _ z => nomatch z) (fun _ _ _ => rfl) (k.con X W x d p ok h1 (gl_ok hs hg) ho) (fun _ _ _ z => nomatch z) (fun _ _ z => nomatch z) (fun _ _ _ _ z => nomatch z) rfl
          · cases h
    · simp only [Option.map_eq_some_iff, Option.bind_eq_some_iff] at h
      obtain ⟨i, h1, j, h2, h3⟩ := h
      subst h3
      exact val (fun _ z => nomatch z) (fun _ _ _ => rfl) (p_bin hB hC hK (ih _ _ h1).S (ih _ _ h2).S) (fun _ _ _ z => nomatch z) (fun _ _ z => nomatch z) (fun _ _ _ _ z => nomatch z) rfl
    · simp only [Option.map_eq_some_iff] at h
      obtain ⟨i, h1, h3⟩ := h
      subst h3
      exact val (fun _ z => nomatch z) (fun _ _ _ => rfl) (p_neg hB hC (ih _ _ h1).S) (fun _ _ _ z => nomatch z) (fun _ _ z => nomatch z) (fun _ _ _ _ z => nomatch z) rfl
    · simp only [Option.map_eq_some_iff] at h
      obtain ⟨i, h1, h3⟩ := h
      subst h3
      obtain ⟨s, hi⟩ := tst_ok ih _ _ h1
      have p := p_not hB hC hK s.S (pos := ‹Pos›)
      exact ⟨p, rdR_S hB hC (fun _ z => nomatch z) p, fun _ => t_not hB hC (s.T hi), rfl⟩
    · rename_i op a b r p
      have ih2 := tst_ok ih
      obtain ⟨p1, p2⟩ := boolA_ok hB hC (fun e i h => (ih2 e i h).1) op p (fun e i h => (ih2 e i h).2) _ _ h
      exact ⟨p1, rdR_S hB hC (boolA_var hB hC (fun e i h => (ih2 e i h).1) op a b r i h) p1, fun _ => p2.pt, rfl⟩
    · split at h
      · cases h
      rename_i hb
      simp only [Option.map_eq_some_iff, Option.bind_eq_some_iff] at h
      obtain ⟨i, h1, j, h2, h3⟩ := h
      subst h3
      have hb := behind_ok (op := ‹CmpOp›) (by simpa using hb)
      have p := p_cmp hB hC bs eqo (ih _ _ h1).S (ih _ _ h2).S hb (pos := ‹Pos›)
      exact ⟨p, rdR_S hB hC (fun _ z => nomatch z) p, fun _ => t_cmp hB hC bs eqo (ih _ _ h1).S (ih _ _ h2).S hb, rfl⟩
    · split at h
      · cases h
      rename_i a o p b c pos hb
      simp only [Option.map_eq_some_iff, Option.bind_eq_some_iff] at h
      obtain ⟨i, h1, j, h2, l, h3, h4⟩ := h
      subst h4
      have hc : lastMarks [o, p] [b, c] = false := by
        simp only [Bool.or_eq_true, not_or, Bool.not_eq_true] at hb
        show behindInMarks p c = false
        exact behind_ok hb.2
      have q := p_chn hB hC bs eqo (ih _ _ h1).S (ih _ _ h2).S (ih _ _ h3).S hc (pos := pos)
      exact ⟨q, rdR_S hB hC (fun _ z => nomatch z) q, fun _ => t_chn hB hC bs eqo (ih _ _ h1).S (ih _ _ h2).S (ih _ _ h3).S hc, rfl⟩
    · simp only [Option.map_eq_some_iff, Option.bind_eq_some_iff] at h
      obtain ⟨i, h1, j, h2, l, h3, h4⟩ := h
      subst h4
      obtain ⟨s, hi⟩ := tst_ok ih _ _ h1
      have q := p_ite hB hC (s.T hi) (ih _ _ h2).R (ih _ _ h3).R (pos := ‹Pos›)
      exact ⟨q, rdR_S hB hC (fun _ z => nomatch z) q, (fun z => nomatch z), rfl⟩
    · simp only [Option.map_eq_some_iff] at h
      obtain ⟨i, h1, h3⟩ := h
      subst h3
      exact val (fun _ z => nomatch z) (fun _ _ _ => rfl) (p_tup hB hC (mapA_ok hB hC ih hK _ _ h1)) (fun _ _ _ z => nomatch z) (fun _ _ z => nomatch z) (fun _ _ _ _ z => nomatch z) rfl
    · simp only [Option.map_eq_some_iff] at h
      obtain ⟨i, h1, h3⟩ := h
      subst h3
      exact val (fun _ z => nomatch z) (fun _ _ _ => rfl) (p_lst hB hC (mapA_ok hB hC ih hK _ _ h1)) (fun _ _ _ z => nomatch z) (fun _ _ z => nomatch z) (fun _ _ _ _ z => nomatch z) rfl
    · simp only [Option.map_eq_some_iff, Option.bind_eq_some_iff] at h
      obtain ⟨i, h1, j, h2, l, h3, h4⟩ := h
      subst h4
      exact val (fun _ z => nomatch z) (fun _ _ _ => rfl) (p_slc hB hC hK (ih _ _ h1).S (optE_ok hB hC ih _ _ h2) (optE_ok hB hC ih _ _ h3)) (fun _ _ _ z => nomatch z) (fun _ _ z => nomatch z) (fun _ _ _ _ z => nomatch z) rfl
    · split at h
      · rename_i hm
        simp only [Option.map_eq_some_iff] at h
        obtain ⟨i, h1, h3⟩ := h
        subst h3
        exact val (fun _ z => nomatch z) (fun _ _ _ => rfl) (k.rev X W _ _ _ _ _ ok hm.2 hm.1 (ih _ _ h1).S) (fun _ _ _ z => nomatch z) (fun _ _ z => nomatch z) (fun _ _ _ _ z => nomatch z) rfl
      · cases h
    · simp only [Option.map_eq_some_iff, Option.bind_eq_some_iff] at h
      obtain ⟨i, h1, j, h2, h4⟩ := h
      subst h4
      exact val (fun _ z => nomatch z) (fun _ _ _ => rfl) (p_idx hB hC hK (ih _ _ h1).S (ih _ _ h2).S (plainIx_ok h2)) (fun _ _ _ z => nomatch z) (fun _ _ z => nomatch z) (fun _ _ _ _ z => nomatch z) rfl
    · rename_i f p params body scope lp pos
      split at h
      · cases h
      rename_i ho
      simp only [Bool.or_eq_true, Bool.not_eq_true', not_or, Bool.not_eq_true, Bool.not_eq_false] at ho
      split at h
      · rename_i hf
        simp only [Option.bind_eq_some_iff] at h
        obtain ⟨e1, h1, h2⟩ := h
        obtain ⟨nm, is, h3, h4⟩ := lamOf_mem h2
        subst h4
        exact val (fun _ z => nomatch z) (fun _ _ _ => rfl) (k.lam X W f params body scope p lp pos n e1 nm is ok hf.1 (gl_ok hs ho.2) ho.1 hf.2.1 (by rw [hs]; exact LamX.lamS_by hf.2.2) (by rw [hn]; exact h1) (by rw [hn]; exact h3)) (fun _ _ _ z => nomatch z) (fun _ _ z => nomatch z) (fun _ _ _ _ z => nomatch z) rfl
      · cases h
    · rename_i f p args pos hlam
      split at h
      · cases h
      rename_i ho
      simp only [Bool.or_eq_true, Bool.not_eq_true', not_or, Bool.not_eq_true, Bool.not_eq_false] at ho
      split at h
      · rename_i hf
        simp only [Option.map_eq_some_iff] at h
        obtain ⟨is, h1, h2⟩ := h
        subst h2
        obtain ⟨q1, q2, q3⟩ := mapN_ok hB hC ih _ _ h1
        exact val (fun _ z => nomatch z) (fun _ _ _ => rfl) (k.fn X W f args is p pos ok hf (gl_ok hs ho.2) ho.1 q3 (mapN_nil h1) q1) (fun _ _ _ z => nomatch z) (fun _ _ z => nomatch z) (fun _ _ _ _ z => nomatch z) rfl
      · split at h
        · rename_i b hf
          split at h
          · cases h
          · rename_i hne
            simp only [Option.map_eq_some_iff] at h
            obtain ⟨is, h1, h2⟩ := h
            subst h2
            obtain ⟨q1, q2, q3⟩ := mapN_ok hB hC ih _ _ h1
            exact val (fun _ z => nomatch z) (fun _ _ _ => rfl) (k.blt X W f b args is p pos ok hf (gl_ok hs ho.2) ho.1 (fun z => hne z) q3 q2) (fun _ _ _ z => nomatch z) (fun _ _ z => nomatch z) (fun _ _ _ _ z => nomatch z) rfl
        · cases h
    · rename_i f p args kws pos hlam hk
      split at h
      · cases h
      rename_i ho
      simp only [Bool.or_eq_true, Bool.not_eq_true', not_or, Bool.not_eq_true, Bool.not_eq_false] at ho
      simp only [Option.map_eq_some_iff, Option.bind_eq_some_iff] at h
      obtain ⟨pm, h1, is, h3, js, h4, h5⟩ := h
      subst h5
      obtain ⟨q1, q2, q3⟩ := mapN_ok hB hC ih _ _ h3
      obtain ⟨q4, q5⟩ := mapK_ok hB hC ih _ _ h4
      exact val (fun _ z => nomatch z) (fun _ _ _ => rfl) (k.fnk X W f pm args kws is js p pos ok (kwOf_mem h1) (gl_ok hs ho.2) ho.1 q3 q5 (fun z => hk z) (mapN_nil h3) (mapN_len _ _ h3) (by have := mapN_len _ _ h4; simpa using this) q1 q4) (fun _ _ _ z => nomatch z) (fun _ _ z => nomatch z) (fun _ _ _ _ z => nomatch z) rfl
    · rename_i o m ap args cp
      split at h
      · cases h
      rename_i hc
      simp only [not_or, Bool.not_eq_true, Bool.not_eq_false] at hc
      split at h
      · rename_i key hm
        split at h
        · cases h
        rename_i hlen
        have hlen : args.length < 20 := by simpa using hlen
        simp only [Option.map_eq_some_iff, Option.bind_eq_some_iff] at h
        obtain ⟨io, h1, is, h2, h3⟩ := h
        subst h3
        obtain ⟨q1, q2, q3⟩ := mapN_ok hB hC ih _ _ h2
        exact val (fun _ z => nomatch z) (fun _ _ _ => rfl) (k.mcl X W m key o io args is ap cp ok hm hc.1 hlen q3 (mapN_nil h2) (pe_frz hB hC (ih _ _ h1).R) q1 hc.2) (fun _ _ _ z => nomatch z) (fun _ _ z => nomatch z) (fun _ _ _ _ z => nomatch z) rfl
      · split at h
        · rename_i b hm
          split at h
          · cases h
          · rename_i hne
            simp only [Bool.or_eq_true, Bool.not_eq_true', decide_eq_false_iff_not, not_or, Bool.not_eq_true, Decidable.not_not, List.isEmpty_eq_false_iff] at hne
            simp only [Option.map_eq_some_iff, Option.bind_eq_some_iff] at h
            obtain ⟨io, h1, is, h2, h3⟩ := h
            subst h3
            obtain ⟨q1, q2, q3⟩ := mapN_ok hB hC ih _ _ h2
            exact val (fun _ z => nomatch z) (fun _ _ _ => rfl) (k.mth X W m b o io args is ap cp ok hm hc.1 hne.1 hne.2 q3 (ih _ _ h1).S q2 hc.2) (fun _ _ _ z => nomatch z) (fun _ _ z => nomatch z) (fun _ _ _ _ z => nomatch z) rfl
        · cases h
    · rename_i o m ap args kws cp hk
      split at h
      · cases h
      rename_i hc
      simp only [not_or, Bool.not_eq_true, Bool.not_eq_false, Bool.not_eq_true', decide_eq_false_iff_not, Decidable.not_not] at hc
      simp only [Option.map_eq_some_iff, Option.bind_eq_some_iff] at h
      obtain ⟨key, h1, pm, h2, io, h3, is, h4, js, h5, h6⟩ := h
      subst h6
      obtain ⟨q1, q2, q3⟩ := mapN_ok hB hC ih _ _ h4
      obtain ⟨q4, q5⟩ := mapK_ok hB hC ih _ _ h5
      exact val (fun _ z => nomatch z) (fun _ _ _ => rfl) (k.mck X W m key pm o io args kws is js ap cp ok h1 (kwOf_mem h2) hc.1 (by simpa using hc.2.2) q3 q5 (fun z => hk z) (mapN_nil h4) (mapN_len _ _ h4) (by have := mapN_len _ _ h5; simpa using this) (pe_frz hB hC (ih _ _ h3).R) q1 q4 hc.2.1) (fun _ _ _ z => nomatch z) (fun _ _ z => nomatch z) (fun _ _ _ _ z => nomatch z) rfl
    · split at h
      · cases h
      rename_i hc
      simp only [Option.map_eq_some_iff, Option.bind_eq_some_iff] at h
      obtain ⟨key, h1, io, h2, h3⟩ := h
      subst h3
      exact val (fun _ z => nomatch z) (fun _ _ _ => rfl) (k.att X W _ io _ key _ ok h1 (pe_frz hB hC (ih _ _ h2).R) (by simpa using hc)) (fun _ _ _ z => nomatch z) (fun _ _ z => nomatch z) (fun _ _ _ _ z => nomatch z) rfl
    · cases h
      exact val (fun _ z => nomatch z) (fun _ _ _ => rfl) p_dct0 (fun _ _ _ z => nomatch z) (fun _ _ z => nomatch z) (fun _ _ _ _ z => nomatch z) rfl
    · rename_i kx _ _ c _ _ _
      simp only [Option.map_eq_some_iff] at h
      obtain ⟨d, h1, h2⟩ := h
      subst h2
      refine val (fun _ z => nomatch z) (fun _ _ _ => rfl) ?_ (fun _ _ _ z => nomatch z) (fun _ _ z => nomatch z) (fun _ _ _ _ z => nomatch z) rfl
      cases c <;> first
        | (cases h1; exact p_dct1 pe_non fun _ => .non)
        | (cases h1; exact p_dct1 pe_bl fun _ => .bl _)
        | (cases h1; exact p_dct1 pe_int fun _ => .int _)
        | (cases h1; exact p_dct1 pe_str fun _ => .str _)
        | cases h1
    · simp only [Option.map_eq_some_iff] at h
      obtain ⟨is, h1, h3⟩ := h
      subst h3
      refine val (fun _ z => nomatch z) (fun _ _ _ => rfl) (PE.imp (pe_joined (mapF_ok hB hC ih _ _ h1)) fun σ H Q ⟨r, re, tb, z⟩ => ?_) (fun _ _ _ z => nomatch z) (fun _ _ z => nomatch z) (fun _ _ _ _ z => nomatch z) rfl
      exact fst_run hB hC is r Str.empty H H (fun _ => True) _ _ re tb (LamX.ExtN.refl H) z fun s H' x t f => f _ H' (.str s) x t
    · rename_i elt tg iter ifs scope pos
      split at h
      · rename_i hb
        simp only [Option.map_eq_some_iff, Option.bind_eq_some_iff] at h
        obtain ⟨t, h1, h⟩ := h
        split at h
        · rename_i hin
          simp only [Option.map_eq_some_iff, Option.bind_eq_some_iff] at h
          obtain ⟨ix, h2, co, h3, el, h4, h5⟩ := h
          subst h5
          have hin : ∀ i ∈ tgIx t, i ∈ (ownOf N scope).map (fun (p : Str × Nat) => p.2) := fun i hi => by
            have := List.all_eq_true.mp hin i hi
            simpa using this
          have bok := blkOk_by hb
          obtain ⟨hI, hset⟩ := compI_ok k ok hs ih tg iter ix h2
          have okB : ∀ s H a cl fp, Ok (X.blk s H scope (compEnvC scope cl a X.env) fp) W0 := fun s H a cl fp => k.blk X W s H scope cl a fp ok
          have hsc : ∀ s H a cl fp, (X.blk s H scope (compEnvC scope cl a X.env) fp).env.scope = relS scope sc := fun s H a cl fp => by rw [← hs]; rfl
          have hg : ∀ (s : Shared) (H : Hp) (a : Addr) (cl : List (Str × Addr)) (fp : List Addr), PG (X.blk s H scope (compEnvC scope cl a X.env) fp) tg (rdG G t) := fun s H a cl fp =>
            compT_ok (hsc s H a cl fp) hn hN (k.bs _ _ (okB s H a cl fp)).calm (k.bs _ _ (okB s H a cl fp)).K n tg t h1 (own_fn (X := X) bok hN hin (hsc s H a cl fp) rfl)
          have ht : ∀ (s : Shared) (H : Hp) (a : Addr) (cl : List (Str × Addr)) (fp : List Addr), PTs (X.blk s H scope (compEnvC scope cl a X.env) fp) ifs (rdC G C co) := fun s H a cl fp => by
            split at h3
            · cases h3
              exact c_no
            · simp only [Option.map_eq_some_iff] at h3
              obtain ⟨i, h6, h7⟩ := h3
              subst h7
              obtain ⟨s1, s2⟩ := tst_ok (fun e i h => compE_ok k hN n _ e i h _ W0 (okB s H a cl fp) (hsc s H a cl fp) hn) _ _ h6
              exact c_so hB hC (s1.T s2)
            · cases h3
          have he : ∀ (s : Shared) (H : Hp) (a : Addr) (cl : List (Str × Addr)) (fp : List Addr), PE (X.blk s H scope (compEnvC scope cl a X.env) fp) elt (rdV G C W0 el) := fun s H a cl fp =>
            pe_frz hB hC (compE_ok k hN n _ elt el h4 _ W0 (okB s H a cl fp) (hsc s H a cl fp) hn).R
          have bok' : BlkOk X.N X.env.scope scope (ownOf N scope) := by rw [hn, hs]; exact bok
          refine val (fun _ z => nomatch z) (fun _ _ _ => rfl) (PE.imp (pe_lc bs.calm (by rw [hn]; exact hN) hI bok' hg ht he (fset_ok hset)) ?_) (fun _ _ _ z => nomatch z) (fun _ _ z => nomatch z) (fun _ _ _ _ z => nomatch z) rfl
          exact p_lc hB hC bs (pos := pos) hI bok' hin hg ht he (fset_ok hset)
        · cases h
      · cases h
    · cases h
end
end En
/-! En12: statements: monotony, what stays true, readings. -/
namespace En
open PySem L2 PyProof.Rows
/-! ### monotony -/
structure Nd.Le (N M : Nd) : Prop where
  nx : ∀ r, N.nx r → M.nx r
  rt : ∀ x r, N.rt x r → M.rt x r
  bk : ∀ r, N.bk r → M.bk r
  ct : ∀ r, N.ct r → M.ct r
section
variable {B : Lib} {C : Call} (hB : B.Mono) (hC : MonoC C)
include hB hC
theorem evIF_mono (e : Ix) (r : Env) (Q Q' : List D → Env → Prop) (E E' : XP) (hq : ∀ x r, Q x r → Q' x r) (he : ∀ c ds, E c ds → E' c ds) (z : evIF B C e r Q E) : evIF B C e r Q' E' := by
  cases e with
  | seq e => exact (evP_mono hB hC e r).S _ _ E E' (fun x q => seqW_mono (fun ys q => hq _ _ q) q) he z
  | rng1 a => exact evI_mono hB hC _ r _ _ E E' (fun x q => hq _ _ q) he z
  | rng2 a b => exact evI_mono hB hC _ r _ _ E E' (fun x q => hq _ _ q) he z
  | enu e => exact (evP_mono hB hC e r).S _ _ E E' (fun x q => enuW_mono (fun ys q => hq _ _ q) q) he z
  | zip a b => exact (evP_mono hB hC a r).S _ _ E E' (fun x q => (evP_mono hB hC b _).S _ _ E E' (fun y q => zipW_mono (fun xs ys q => hq _ _ q) q) he q) he z
mutual
theorem exS_mono : ∀ (s : Sm) (N M : Nd) (r : Env) (E E' : XP), N.Le M → (∀ c ds, E c ds → E' c ds) → exS B C s N r E → exS B C s M r E'
  | .ret e, N, M, r, E, E', hn, he, z => by
    unfold exS at z ⊢
    exact (evP_mono hB hC e r).R _ _ E E' (fun x q => hn.rt _ _ q) he z
  | .retN, N, M, r, E, E', hn, he, z => by
    unfold exS at z ⊢
    exact hn.rt _ _ z
  | .retO i, N, M, r, E, E', hn, he, z => by
    unfold exS at z ⊢
    rcases z with ⟨xs, t, e, z⟩ | ⟨d, e, z⟩
    · exact .inl ⟨xs, t, e, hn.rt _ _ z⟩
    · exact .inr ⟨d, e, hn.rt _ _ z⟩
  | .set i e, N, M, r, E, E', hn, he, z => by
    unfold exS at z ⊢
    exact (evP_mono hB hC e r).R _ _ E E' (fun x q => hn.nx _ q) he z
  | .own i e, N, M, r, E, E', hn, he, z => by
    unfold exS at z ⊢
    exact (evP_mono hB hC e r).R _ _ E E' (fun x q => hn.nx _ q) he z
  | .unp tg e, N, M, r, E, E', hn, he, z => by
    unfold exS at z ⊢
    exact (evP_mono hB hC e r).R _ _ E E' (fun x ⟨xs, e, q⟩ => ⟨xs, e, bindTgs_mono _ _ _ _ _ hn.nx q⟩) he z
  | .uno i j a b, N, M, r, E, E', hn, he, z => by
    unfold exS at z ⊢
    exact (evP_mono hB hC a r).R _ _ E E' (fun x ⟨d, e, q⟩ => ⟨d, e, (evP_mono hB hC b r).R _ _ E E' (fun y q => hn.nx _ q) he q⟩) he z
  | .par ks es, N, M, r, E, E', hn, he, z => by
    unfold exS at z ⊢
    exact (evAs_mono hB hC es r).R _ _ E E' (fun x q => ⟨q.1, hn.nx _ q.2⟩) he z
  | .app i e, N, M, r, E, E', hn, he, z => by
    unfold exS at z ⊢
    obtain ⟨xs, t, e1, l, z⟩ := z
    exact ⟨xs, t, e1, l, (evP_mono hB hC e r).R _ _ E E' (fun x q => hn.nx _ q) he z⟩
  | .ext i e, N, M, r, E, E', hn, he, z => by
    unfold exS at z ⊢
    obtain ⟨xs, t, e1, z⟩ := z
    exact ⟨xs, t, e1, (evP_mono hB hC e r).R _ _ E E' (fun x ⟨ys, f, l, q⟩ => ⟨ys, f, l, hn.nx _ q⟩) he z⟩
  | .put i k e, N, M, r, E, E', hn, he, z => by
    unfold exS at z ⊢
    obtain ⟨xs, t, e1, z⟩ := z
    exact ⟨xs, t, e1, (evP_mono hB hC e r).R _ _ E E' (fun x q => (evP_mono hB hC k r).S _ _ E E' (fun y ⟨j, n, e2, e3, q⟩ => ⟨j, n, e2, e3, hn.nx _ q⟩) he q) he z⟩
  | .dvs i k j e, N, M, r, E, E', hn, he, z => by
    unfold exS at z ⊢
    obtain ⟨xs, t, e1, z⟩ := z
    exact ⟨xs, t, e1, (evP_mono hB hC e r).R _ _ E E' (fun x ⟨a, b, e0, q⟩ => ⟨a, b, e0, (evP_mono hB hC k r).S _ _ E E' (fun y ⟨j, n, e2, e3, q⟩ => ⟨j, n, e2, e3, hn.nx _ q⟩) he q⟩) he z⟩
  | .dead, N, M, r, E, E', hn, he, z => by
    unfold exS at z
    exact z.elim
  | .drop e, N, M, r, E, E', hn, he, z => by
    unfold exS at z ⊢
    exact (evP_mono hB hC e r).R _ _ E E' (fun x q => hn.nx _ q) he z
  | .iff t a b, N, M, r, E, E', hn, he, z => by
    unfold exS at z ⊢
    exact (evP_mono hB hC t r).T _ _ E E' (fun c q => ite_mono (exSs_mono a N M r E E' hn he) (exSs_mono b N M r E E' hn he) q) he z
  | .forr tg it b, N, M, r, E, E', hn, he, z => by
    unfold exS at z ⊢
    exact evIF_mono hB hC it r _ _ E E' (fun items r0 q => forW_mono (fun x a K K' hk q => bindTg_mono tg x a _ _ (fun r2 q => exSs_mono b { N with nx := K, ct := K, bk := N.nx } { M with nx := K', ct := K', bk := M.nx } r2 E E' ⟨hk, hn.rt, hn.nx, hk⟩ he q) q) items r0 _ _ hn.nx q) he z
  | .whl t b, N, M, r, E, E', hn, he, z => by
    unfold exS at z ⊢
    obtain ⟨W, h0, h⟩ := z
    exact ⟨W, h0, fun m r w => (evP_mono hB hC t r).T _ _ E E' (fun c q => ite_mono (exSs_mono b { N with nx := fun r' => ∃ m', m' < m ∧ W m' r', ct := fun r' => ∃ m', m' < m ∧ W m' r', bk := N.nx } { M with nx := fun r' => ∃ m', m' < m ∧ W m' r', ct := fun r' => ∃ m', m' < m ∧ W m' r', bk := M.nx } r E E' ⟨fun _ q => q, hn.rt, hn.nx, fun _ q => q⟩ he) (hn.nx _) q) he (h m r w)⟩
  | .rse c es, N, M, r, E, E', hn, he, z => by
    unfold exS at z ⊢
    exact ⟨z.1, (evAs_mono hB hC es r).R _ _ E E' (fun x q => hC _ _ _ _ _ _ (fun _ q => he _ _ q) (fun _ _ z => z) q) he z.2⟩
  | .pss, N, M, r, E, E', hn, he, z => by
    unfold exS at z ⊢
    exact hn.nx _ z
  | .brk, N, M, r, E, E', hn, he, z => by
    unfold exS at z ⊢
    exact hn.bk _ z
  | .cnt, N, M, r, E, E', hn, he, z => by
    unfold exS at z ⊢
    exact hn.ct _ z
  | .frz i, N, M, r, E, E', hn, he, z => by
    unfold exS at z ⊢
    exact hn.nx _ z
theorem exSs_mono : ∀ (s : Sms) (N M : Nd) (r : Env) (E E' : XP), N.Le M → (∀ c ds, E c ds → E' c ds) → exSs B C s N r E → exSs B C s M r E'
  | .nil, N, M, r, E, E', hn, he, z => by
    unfold exSs at z ⊢
    exact hn.nx _ z
  | .cons s q, N, M, r, E, E', hn, he, z => by
    unfold exSs at z ⊢
    exact exS_mono s { N with nx := fun r' => exSs B C q N r' E } { M with nx := fun r' => exSs B C q M r' E' } r E E' ⟨fun r' z => exSs_mono q N M r' E E' hn he z, hn.rt, hn.bk, hn.ct⟩ he z
end
end
theorem callW_mono {B : Lib} (hB : B.Mono) {fs : List (Str × Fn)} {prim : Call → Call} (hp : ∀ C, MonoC C → MonoC (prim C)) : ∀ k, MonoC (callW B fs prim k)
  | 0 => fun f xs Q Q' E E' _ _ z => z
  | k + 1 => fun f xs Q Q' E E' hq he z => by
    unfold callW at z ⊢
    split at z
    · exact ⟨z.1, exSs_mono hB (callW_mono hB hp k) _ { nx := fun _ => Q (.v .non), rt := fun x _ => Q x } { nx := fun _ => Q' (.v .non), rt := fun x _ => Q' x } _ _ _ ⟨fun _ z => hq _ z, fun _ _ z => hq _ z, fun _ z => z, fun _ z => z⟩ he z.2⟩
    · exact hp _ (callW_mono hB hp k) f xs Q Q' E E' hq he z
/-! ### what stays true through a def's body -/
structure SI (G : Cfg) (H0 H : Hp) (r : Env) (σ : St) : Prop where
  re : RE G.K H r σ
  fr : ∀ (i : Nat) (xs : List D) (t : Option Addr) (p : Addr), r[i]? = some (some (.own xs t)) → σ[i]? = some (some (.ref p)) → Fr H0 p
  ex : ExN H0 H
  tb : Tb G H
section
variable {G : Cfg} {H0 H H' : Hp} {r : Env} {σ : St}
theorem SI.ext (s : SI G H0 H r σ) (x : ExN H H') (t : Tb G H') : SI G H0 H' r σ := ⟨s.re.ext x, s.fr, s.ex.trans x, t⟩
theorem SI.setV (s : SI G H0 H r σ) (i : Nat) {d : D} {v : V} (rd : RD G.K H d v) : SI G H0 H (r.set i (some (.val d))) (σ.set i (some v)) := by
  refine ⟨s.re.setV i rd, fun j xs t p e1 e2 => ?_, s.ex, s.tb⟩
  rcases set_own e1 with ⟨_, q, _⟩ | ⟨hj, f1⟩
  · cases q
  · rw [List.getElem?_set_ne (fun z => hj z.symm)] at e2
    exact s.fr j xs t p f1 e2
theorem SI.setO (s : SI G H0 H r σ) (i : Nat) {xs : List D} {p : Addr} {us : List V} (h : H p = some (.lst us)) (rd : RDs G.K H xs us) (hf : Fr H0 p) (hn : ∀ j ys u, j ≠ i → r[j]? = some (some (.own ys u)) → σ[j]? ≠ some (some (.ref p))) : SI G H0 H (r.set i (some (.own xs none))) (σ.set i (some (.ref p))) := by
  refine ⟨s.re.setO i h rd hn none (fun _ z => nomatch z), fun j ys t q e1 e2 => ?_, s.ex, s.tb⟩
  rcases set_own e1 with ⟨j1, q, hl⟩ | ⟨hj, f1⟩
  · subst j1
    rw [List.getElem?_set_self (by rw [← s.re.len]; exact hl)] at e2
    cases e2
    exact hf
  · rw [List.getElem?_set_ne (fun z => hj z.symm)] at e2
    exact s.fr j ys t q f1 e2
/-- what an expression leaves goes to a name -/
theorem SI.setR (s : SI G H0 H r σ) (i : Nat) {H1 : Hp} {x : Rv} {v : V} (rr : RR G.K H H1 x v) (e : ExN H H1) (t : Tb G H1) : SI G H0 H1 (r.set i (some (slotOf x))) (σ.set i (some v)) := by
  cases x with
  | v d => exact (s.ext e t).setV i rr
  | fr xs =>
    obtain ⟨p, us, e1, e2, e3, e4⟩ := rr
    subst e1
    refine (s.ext e t).setO i e3 e4 (e2.back s.ex) fun j ys _ hj f1 f2 => ?_
    obtain ⟨w, g1, q, us', g2, g3, g4, _⟩ := s.re.at_ j _ f1
    rw [f2] at g1
    cases g1
    cases g2
    exact absurd rfl (e2.ne g3 (fun _ z => nomatch z))
/-- a list of its own is written -/
theorem SI.put (s : SI G H0 H r σ) {i : Nat} {xs ys : List D} {t : Option Addr} {p : Addr} {us ws : List V} (hi : r[i]? = some (some (.own xs t))) (hs : σ[i]? = some (some (.ref p))) (h : H p = some (.lst us)) (rd : RDs G.K H ys ws) : SI G H0 (upd H p (.lst ws)) (r.set i (some (.own ys t))) σ := by
  have st : Stb H (upd H p (.lst ws)) := Stb.own h
  have hf := s.fr i xs _ p hi hs
  refine ⟨⟨fun j tt e => ?_, fun j k as bs ta tb v e1 e2 e3 e4 => ?_, by rw [List.length_set]; exact s.re.len⟩, fun j as ta q e1 e2 => ?_, ExN.frz s.ex hf, Tabs.own s.tb h⟩
  · rcases set_own e with ⟨rfl, rfl, hl⟩ | ⟨hj, e⟩
    · refine ⟨.ref p, hs, p, ws, rfl, upd_same, rd.stb st, ?_⟩
      obtain ⟨w0, g0, q0, us0, g3, _, _, g4⟩ := s.re.at_ _ _ hi
      rw [hs] at g0
      cases g0
      cases g3
      exact g4
    · obtain ⟨v, g1, g2⟩ := s.re.at_ j _ e
      refine ⟨v, g1, ?_⟩
      cases tt with
      | val d => exact RD.stb st g2
      | own zs tz =>
        obtain ⟨q, us', e1, e2, e3, e5⟩ := g2
        subst e1
        refine ⟨q, us', rfl, ?_, e3.stb st, e5⟩
        rw [upd_ne]
        · exact e2
        · intro z
          subst z
          exact hj (s.re.inj j i zs xs _ _ (.ref q) e hi g1 hs)
  · have own' : ∀ {j : Nat} {as : List D} {u : Option Addr}, (r.set i (some (Slot.own ys t)))[j]? = some (some (Slot.own as u)) → ∃ bs u, r[j]? = some (some (Slot.own bs u)) := fun {j as u} e => by
      rcases set_own e with ⟨e1, _, _⟩ | ⟨_, e⟩
      · rw [e1]
        exact ⟨xs, _, hi⟩
      · exact ⟨_, _, e⟩
    obtain ⟨_, _, f1⟩ := own' e1
    obtain ⟨_, _, f2⟩ := own' e2
    exact s.re.inj j k _ _ _ _ v f1 f2 e3 e4
  · rcases set_own e1 with ⟨rfl, _, _⟩ | ⟨_, f1⟩
    · rw [hs] at e2
      cases e2
      exact hf
    · exact s.fr j as _ q f1 e2
/-- the list of a name is frozen -/
theorem SI.frz (s : SI G H0 H r σ) {i : Nat} {xs : List D} {t : Option Addr} {p : Addr} {us : List V} {o : Obj} (hi : r[i]? = some (some (.own xs t))) (hs : σ[i]? = some (some (.ref p))) (h : H p = some (.lst us)) (rd : RDs G.K H xs us) : SI G H0 (upd H p (.frz o (.lst us))) (r.set i (some (.val (.lst xs)))) σ := by
  have hf := s.fr i xs _ p hi hs
  have st : Stb H (upd H p (.frz o (.lst us))) := fun b u e n _ => by
    rw [upd_ne (fun z => n us (by rw [z, h] at e; exact (Option.some.inj e).symm))]
    exact e
  refine ⟨⟨fun j tt e => ?_, fun j k as bs ta tb v e1 e2 e3 e4 => ?_, by rw [List.length_set]; exact s.re.len⟩, fun j as ta q e1 e2 => ?_, ExN.frz s.ex hf, Tabs.frz s.tb h⟩
  · rcases set_own e with ⟨rfl, rfl, hl⟩ | ⟨hj, e⟩
    · exact ⟨.ref p, hs, .lst (.inl ⟨o, upd_same⟩) (rd.stb st)⟩
    · obtain ⟨v, g1, g2⟩ := s.re.at_ j _ e
      refine ⟨v, g1, ?_⟩
      cases tt with
      | val d => exact RD.stb st g2
      | own zs tz =>
        obtain ⟨q, us', e1, e2, e3, e5⟩ := g2
        subst e1
        refine ⟨q, us', rfl, ?_, e3.stb st, e5⟩
        rw [upd_ne]
        · exact e2
        · intro z
          subst z
          exact hj (s.re.inj j i zs xs _ _ (.ref q) e hi g1 hs)
  · rcases set_own e1 with ⟨_, q, _⟩ | ⟨_, f1⟩
    · cases q
    · rcases set_own e2 with ⟨_, q, _⟩ | ⟨_, f2⟩
      · cases q
      · exact s.re.inj j k _ _ _ _ v f1 f2 e3 e4
  · rcases set_own e1 with ⟨_, q, _⟩ | ⟨_, f1⟩
    · cases q
    · exact s.fr j as _ q f1 e2
theorem Stb.frz {H : Hp} {p : Addr} {us : List V} {o : Obj} (h : H p = some (.lst us)) : Stb H (upd H p (.frz o (.lst us))) := fun b u e n _ => by
  rw [upd_ne (fun z => n us (by rw [z, h] at e; exact (Option.some.inj e).symm))]
  exact e
/-- a list of the frame, by its name -/
theorem SI.own_at (s : SI G H0 H r σ) {i : Nat} {xs : List D} {t : Option Addr} (hi : r[i]? = some (some (.own xs t))) : ∃ p us, σ[i]? = some (some (.ref p)) ∧ H p = some (.lst us) ∧ RDs G.K H xs us := by
  obtain ⟨v, e1, p, us, e2, e3, e4, _⟩ := s.re.at_ i _ hi
  subst e2
  exact ⟨p, us, e1, e3, e4⟩
end
/-! ### readings of statements -/
def eS (G : Cfg) (E : XK) (H0 : Hp) : XP := fun c ds => ∀ cls d H', RX G.K G.fl H' c ds cls d → ExN H0 H' → Tb G H' → E cls d H'
def wE (E : XK) : WX := fun cls d _ H => E cls d H
theorem eS.exq {G : Cfg} {E : XK} {H0 H : Hp} {σ : St} (x : ExN H0 H) (c : Str) (ds : List D) (h : eS G E H0 c ds) : exq G (wE E) σ H c ds := fun cls d H' rx x2 t => h cls d H' rx (x.trans x2) t
structure Nok (G : Cfg) (H0 H : Hp) (N : Nd) (D : Ends) : Prop where
  nx : ∀ r' σ' H', SI G H0 H' r' σ' → Stb H H' → N.nx r' → D.nx σ' H'
  rt : ∀ x v r σ H', SI G H0 H' r σ → RR G.K H0 H' x v → N.rt x r → D.rt v H'
  bk : ∀ r' σ' H', SI G H0 H' r' σ' → Stb H H' → N.bk r' → D.bk σ' H'
  ct : ∀ r' σ' H', SI G H0 H' r' σ' → Stb H H' → N.ct r' → D.ct σ' H'
theorem Nok.back {G : Cfg} {H0 H H1 : Hp} {N : Nd} {D : Ends} (h : Nok G H0 H N D) (s : Stb H H1) : Nok G H0 H1 N D :=
  ⟨fun r σ H' a b c => h.nx r σ H' a (s.trans b) c, h.rt, fun r σ H' a b c => h.bk r σ H' a (s.trans b) c, fun r σ H' a b c => h.ct r σ H' a (s.trans b) c⟩
def rdM (G : Cfg) (C : Call) (H0 : Hp) (E : XK) (s : Sm) : TS := fun D σ H => ∃ r N, SI G H0 H r σ ∧ Nok G H0 H N D ∧ exS G.B C s N r (eS G E H0)
def rdMs (G : Cfg) (C : Call) (H0 : Hp) (E : XK) (s : Sms) : TS := fun D σ H => ∃ r N, SI G H0 H r σ ∧ Nok G H0 H N D ∧ exSs G.B C s N r (eS G E H0)
section
variable {X : Cx} {G : Cfg} {C : Call} {H0 : Hp} {E : XK}
/-! ### ghost steps -/
def fzP (P : St → Hp → Prop) : St → Hp → Prop := fun σ H => P σ H ∨ ∃ p us, H p = some (.lst us) ∧ ∀ o, P σ (upd H p (.frz o (.lst us)))
theorem fzP.run {P : St → Hp → Prop} {pins : List (Addr × Obj)} {σ : St} {H : Hp} {s : Shared} (I : Inv X pins σ H s) (h : fzP P σ H) : ∃ H', Inv X pins σ H' s ∧ P σ H' := by
  rcases h with h | ⟨p, us, e, h⟩
  · exact ⟨H, I, h⟩
  · obtain ⟨o, I'⟩ := Inv.freeze I e
    exact ⟨_, I', h o⟩
theorem ps_fz {st : Stmt} {t : TS} (h : PS X st t) : PS X st fun D σ H => t { D with nx := fzP D.nx } σ H := by
  refine ⟨fun pins s σ H D I q => thn (h.run pins s σ H _ I q) fun fl s1 z => ?_⟩
  cases fl with
  | next =>
    obtain ⟨σ1, H1, I1, z⟩ := z
    obtain ⟨H2, I2, z⟩ := fzP.run I1 z
    exact ⟨σ1, H2, I2, z⟩
  | cont => exact z
  | brk => exact z
  | ret v => exact z
theorem pss_fz {sts : List Stmt} {t : TS} (h : PSs X sts t) : PSs X sts fun D σ H => fzP (t D) σ H := by
  refine ⟨fun pins s σ H D I q => ?_⟩
  obtain ⟨H2, I2, z⟩ := fzP.run I q
  exact h.run pins s σ H2 D I2 z
/-! ### rows of statements -/
theorem m_nil : PSs X [] (rdMs G C H0 E .nil) := PSs.imp pss_nil fun D σ H ⟨r, N, si, no, z⟩ => by
  unfold exSs at z
  exact no.nx r σ H si (Stb.refl H) z
theorem m_cons {st : Stmt} {rest : List Stmt} {s : Sm} {q : Sms} (h1 : PS X st (rdM G C H0 E s)) (h2 : PSs X rest (rdMs G C H0 E q)) : PSs X (st :: rest) (rdMs G C H0 E (.cons s q)) := by
  refine PSs.imp (pss_cons h1 h2) fun D σ H ⟨r, N, si, no, z⟩ => ?_
  unfold exSs at z
  exact ⟨r, { N with nx := fun r' => exSs G.B C q N r' (eS G E H0) }, si, ⟨fun r' σ' H' si' st z => ⟨r', N, si', no.back st, z⟩, no.rt, no.bk, no.ct⟩, z⟩
/-- a ghost ahead -/
theorem m_frz {rest : List Stmt} {i : Nat} {q : Sms} (h2 : PSs X rest (rdMs G C H0 E q)) : PSs X rest (rdMs G C H0 E (.cons (.frz i) q)) := by
  refine PSs.imp (pss_fz h2) fun D σ H ⟨r, N, si, no, z⟩ => ?_
  unfold exSs exS at z
  have z : exSs G.B C q N (fzV i r) (eS G E H0) := z
  unfold fzV at z
  split at z
  · rename_i xs t hi
    obtain ⟨p, us, e1, e2, e3⟩ := si.own_at hi
    exact .inr ⟨p, us, e2, fun o => ⟨_, N, si.frz hi e1 e2 e3, no.back (Stb.frz e2), z⟩⟩
  · exact .inl ⟨r, N, si, no, z⟩
variable (hB : G.B.Mono) (hC : MonoC C)
/-! ### expressions within statements -/
section
include hB hC
theorem m_R {i : Ex} {σ : St} {H : Hp} {Q : VK} {r : Env} {F : Rv → Prop} (si : SI G H0 H r σ) (z : evR G.B C i r F (eS G E H0)) (k : ∀ x v H1, RR G.K H H1 x v → ExN H H1 → Tb G H1 → F x → Q v H1) : rdR G C (wE E) i σ H Q :=
  ⟨r, si.re, si.tb, (evP_mono hB hC i r).R _ _ _ _ (fun x f v H1 rr x1 t1 => k x v H1 rr x1 t1 f) (fun c ds z => eS.exq si.ex c ds z) z⟩
theorem m_S {i : Ex} {σ : St} {H : Hp} {Q : VK} {r : Env} {F : D → Prop} (si : SI G H0 H r σ) (z : evS G.B C i r F (eS G E H0)) (k : ∀ x v H1, RB G.K H1 x v → ExN H H1 → Tb G H1 → F x → Q v H1) : rdS G C (wE E) i σ H Q :=
  ⟨r, si.re, si.tb, (evP_mono hB hC i r).S _ _ _ _ (fun x f v H1 rr x1 t1 => k x v H1 rr x1 t1 f) (fun c ds z => eS.exq si.ex c ds z) z⟩
theorem m_V {i : Ex} {σ : St} {H : Hp} {Q : VK} {r : Env} {F : Rv → Prop} (si : SI G H0 H r σ) (z : evR G.B C i r F (eS G E H0)) (k : ∀ (x : Rv) v H1, RD G.K H1 x.d v → ExN H H1 → Tb G H1 → F x → Q v H1) : rdV G C (wE E) i σ H Q :=
  ⟨r, si.re, si.tb, (evP_mono hB hC i r).R _ _ _ _ (fun x f v H1 rr x1 t1 => k x v H1 rr x1 t1 f) (fun c ds z => eS.exq si.ex c ds z) z⟩
theorem m_T {i : Ex} {σ : St} {H : Hp} {Q : Bool → Hp → Prop} {r : Env} {F : Bool → Prop} (si : SI G H0 H r σ) (z : evT G.B C i r F (eS G E H0)) (k : ∀ b H1, ExN H H1 → Tb G H1 → F b → Q b H1) : rdT G C (wE E) i σ H Q :=
  ⟨r, si.re, si.tb, (evP_mono hB hC i r).T _ _ _ _ (fun x f H1 x1 t1 => k x H1 x1 t1 f) (fun c ds z => eS.exq si.ex c ds z) z⟩
theorem m_A {i : Exs} {σ : St} {H : Hp} {Q : List V → Hp → Prop} {r : Env} {F : List D → Prop} (si : SI G H0 H r σ) (z : (evAs G.B C i r).R F (eS G E H0)) (k : ∀ xs vs H1, RDs G.K H1 xs vs → ExN H H1 → Tb G H1 → F xs → Q vs H1) : rdA G C (wE E) i σ H Q :=
  ⟨r, si.re, si.tb, (evAs_mono hB hC i r).R _ _ _ _ (fun x f v H1 rr x1 t1 => k x v H1 rr x1 t1 f) (fun c ds z => eS.exq si.ex c ds z) z⟩
/-! ### the statements -/
theorem m_ret {e : Expr} {i : Ex} {pos : Pos} (h : PE X e (rdR G C (wE E) i)) : PS X (.Return (some e) pos) (rdM G C H0 E (.ret i)) := by
  refine PS.imp (ps_ret h) fun D σ H ⟨r, N, si, no, z⟩ => ?_
  unfold exS at z
  exact m_R hB hC si z fun x v H1 rr x1 t1 f => no.rt x v r σ H1 (si.ext x1 t1) (rr.back si.ex) f
omit hB hC in
theorem m_retN {pos : Pos} : PS X (.Return none pos) (rdM G C H0 E .retN) := by
  refine PS.imp ps_retN fun D σ H ⟨r, N, si, no, z⟩ => ?_
  unfold exS at z
  exact no.rt (.v .non) .non r σ H si .non z
omit hB hC in
theorem m_retO {e : Expr} {i : Nat} {pos : Pos} (h : PE X e (tVar i)) : PS X (.Return (some e) pos) (rdM G C H0 E (.retO i)) := by
  refine PS.imp (ps_ret h) fun D σ H ⟨r, N, si, no, z⟩ => ?_
  unfold exS at z
  rcases z with ⟨xs, t, e, z⟩ | ⟨d, e, z⟩
  · obtain ⟨p, us, e1, e2, e3⟩ := si.own_at e
    exact ⟨.ref p, e1, no.rt (.fr xs) (.ref p) r σ H si ⟨p, us, rfl, si.fr i xs t p e e1, e2, e3⟩ z⟩
  · obtain ⟨v, e1, e2⟩ := si.re.at_ i _ e
    exact ⟨v, e1, no.rt (.v d) v r σ H si e2 z⟩
theorem m_own {st : Stmt} {i : Ex} {j : Nat} (h : PS X st (tAsg (rdR G C (wE E) i) (gName j))) : PS X st (rdM G C H0 E (.own j i)) := by
  refine PS.imp h fun D σ H ⟨r, N, si, no, z⟩ => ?_
  unfold exS at z
  exact m_R hB hC si z fun x v H1 rr x1 t1 f => no.nx _ _ H1 (si.setR j rr x1 t1) (ExN.stb x1) f
theorem m_set {st : Stmt} {i : Ex} {j : Nat} (h : PS X st (tAsg (rdR G C (wE E) i) (gName j))) : PS X st (rdM G C H0 E (.set j i)) := by
  refine PS.imp (ps_fz h) fun D σ H ⟨r, N, si, no, z⟩ => ?_
  unfold exS at z
  refine m_R hB hC si z fun x v H1 rr x1 t1 f => ?_
  have s1 := si.setR j rr x1 t1
  cases x with
  | v d => exact .inl (no.nx _ _ H1 s1 (ExN.stb x1) f)
  | fr xs =>
    obtain ⟨p, us, e1, e2, e3, e4⟩ := rr
    subst e1
    refine .inr ⟨p, us, e3, fun o => no.nx _ _ _ ?_ ((ExN.stb x1).trans (Stb.frz e3)) f⟩
    by_cases hl : j < r.length
    · have s2 := s1.frz (o := o) (i := j) (xs := xs) (p := p) (us := us) (List.getElem?_set_self hl) (List.getElem?_set_self (by rw [← si.re.len]; exact hl)) e3 e4
      rw [List.set_set] at s2
      exact s2
    · have s2 : SI G H0 (upd H1 p (.frz o (.lst us))) r σ := by
        refine ⟨si.re.ext (ExN.frz x1 e2), si.fr, si.ex.trans (ExN.frz x1 e2), Tabs.frz t1 e3⟩
      rw [List.set_eq_of_length_le (by omega), List.set_eq_of_length_le (by rw [← si.re.len]; omega)]
      exact s2
end
end
/-! ### targets keep what the frame owns -/
def OwnSub (r r' : Env) (is : List Nat) : Prop := ∀ (j : Nat) (xs : List D) (t : Option Addr), r'[j]? = some (some (.own xs t)) → r[j]? = some (some (.own xs t)) ∧ j ∉ is
mutual
theorem bindTg_own : ∀ (t : Tg) (d : D) (r : Env) (K : Env → Prop), bindTg t d r K → bindTg t d r fun r' => K r' ∧ OwnSub r r' (tgIx t)
  | .nm i, d, r, K, z => by
    unfold bindTg at z ⊢
    refine ⟨z, fun j xs t e => ?_⟩
    rcases set_own e with ⟨_, q, _⟩ | ⟨hj, e⟩
    · cases q
    · exact ⟨e, by simpa [tgIx] using hj⟩
  | .tp ts, d, r, K, z => by
    unfold bindTg at z ⊢
    obtain ⟨ds, e, z⟩ := z
    exact ⟨ds, e, bindTgs_own ts ds r K z⟩
theorem bindTgs_own : ∀ (t : Tgs) (d : List D) (r : Env) (K : Env → Prop), bindTgs t d r K → bindTgs t d r fun r' => K r' ∧ OwnSub r r' (tgsIx t)
  | .nil, d, r, K, z => by
    unfold bindTgs at z ⊢
    exact ⟨z.1, z.2, fun j xs t e => ⟨e, by simp [tgsIx]⟩⟩
  | .cons t ts, d, r, K, z => by
    unfold bindTgs at z ⊢
    obtain ⟨x, xs, e, z⟩ := z
    refine ⟨x, xs, e, bindTg_mono t _ _ _ _ (fun r1 ⟨z, o1⟩ => ?_) (bindTg_own t x r _ z)⟩
    refine bindTgs_mono ts _ _ _ _ (fun r2 ⟨z, o2⟩ => ⟨z, fun j as t e => ?_⟩) (bindTgs_own ts xs r1 K z)
    obtain ⟨e2, n2⟩ := o2 j as t e
    obtain ⟨e1, n1⟩ := o1 j as t e2
    exact ⟨e1, by simp [tgsIx, n1, n2]⟩
end
theorem SI.bind {G : Cfg} {H0 H : Hp} {r r' : Env} {σ σ' : St} {is : List Nat} (s : SI G H0 H r σ) (re : RE G.K H r' σ') (wd : Wd is σ σ') (o : OwnSub r r' is) : SI G H0 H r' σ' := by
  refine ⟨re, fun j xs t p e1 e2 => ?_, s.ex, s.tb⟩
  obtain ⟨f1, f2⟩ := o j xs t e1
  have w := wd is fun i hi => hi
  have := congrArg (fun l => l[j]?) w
  simp only [wipe_get f2] at this
  rw [this] at e2
  exact s.fr j xs t p f1 e2
/-- a target, within a statement -/
def rdGM (G : Cfg) (H0 : Hp) (t : Tg) : TG := fun v σ H Q => ∃ d r, SI G H0 H r σ ∧ RD G.K H d v ∧ bindTg t d r fun r' => ∀ σ', SI G H0 H r' σ' → Q σ' H
section
variable {X : Cx} {G : Cfg} {C : Call} {H0 : Hp} {E : XK}
theorem g_M {tg : Expr} {t : Tg} (h : PG X tg (rdG G t)) : PG X tg (rdGM G H0 t) := by
  refine PG.imp h fun v σ H Q ⟨d, r, si, rd, z⟩ => ?_
  exact ⟨d, r, si.re, rd, bindTg_mono t _ _ _ _ (fun r' ⟨z, o⟩ σ' re wd => z σ' (si.bind re wd o)) (bindTg_own t d r _ z)⟩
variable (hB : G.B.Mono) (hC : MonoC C)
section
include hB hC
theorem m_unp {e : Expr} {i : Ex} {tg : Expr} {t : Tgs} {pos : Pos} (h : PE X e (rdR G C (wE E) i)) (hg : PG X tg (rdG G (.tp t))) (hs : swapsWithSole [tg] e pos.line X.env = pure false) (hw : swappedStores [tg] e X.env = pure none) (h1 : (assignEach [tg] X.env).map (·.2) = [assign tg X.env]) : PS X (.Assign [tg] e pos) (rdM G C H0 E (.unp t i)) := by
  refine PS.imp (ps_asg h (g_M (H0 := H0) hg) hs hw h1) fun D σ H ⟨r, N, si, no, z⟩ => ?_
  unfold exS at z
  refine m_R hB hC si z fun x v H1 rr x1 t1 ⟨xs, e1, f⟩ => ?_
  subst e1
  refine ⟨.tup xs, r, si.ext x1 t1, rr, ?_⟩
  unfold bindTg
  exact ⟨xs, rfl, bindTgs_mono t _ _ _ _ (fun r' z σ' s' => no.nx r' σ' H1 s' (ExN.stb x1) z) f⟩
/-- x, y = a, b, where y is a list of its own -/
theorem m_uno {st : Stmt} {ia ib : Ex} {i j : Nat} (hK : X.K = G.K) (h : PS X st (tAsg (tTup (tCons (rdR G C (wE E) ia) (tCons (rdR G C (wE E) ib) tNil))) (gTup X.K 2 (gCons (gName i) (gCons (gName j) gNil))))) : PS X st (rdM G C H0 E (.uno i j ia ib)) := by
  refine PS.imp h fun D σ H ⟨r, N, si, no, z⟩ => ?_
  unfold exS at z
  refine m_R hB hC si z fun x v H1 rr x1 t1 ⟨d, e1, z2⟩ => ?_
  subst e1
  have s1 := si.ext x1 t1
  refine m_R hB hC s1 z2 fun y w H2 rr2 x2 t2 f => ?_
  refine ⟨by rw [sizeLine_eq]; simp, fun p hp => ?_⟩
  refine ⟨p, [v, w], rfl, .inl (.inl upd_same), rfl, v, [w], rfl, w, [], rfl, rfl, ?_⟩
  have s2 := (s1.setV i (d := d) (v := v) rr).setR j rr2 x2 t2
  have xn : ExN H2 (upd H2 p (.tup [v, w])) := ExN.new hp
  exact no.nx _ _ _ (s2.ext xn (Tabs.new t2 hp)) (ExN.stb (x1.trans (x2.trans xn))) f
theorem m_drop {e : Expr} {i : Ex} {pos : Pos} (h : PE X e (rdR G C (wE E) i)) (hs : swapsWith e none pos.line X.env = pure false) : PS X (.Expr e pos) (rdM G C H0 E (.drop i)) := by
  refine PS.imp (ps_expr h hs) fun D σ H ⟨r, N, si, no, z⟩ => ?_
  unfold exS at z
  exact m_R hB hC si z fun x v H1 rr x1 t1 f => no.nx r σ H1 (si.ext x1 t1) (ExN.stb x1) f
theorem m_if {c : Expr} {t : Ex} {a b : List Stmt} {ia ib : Sms} {pos : Pos} (hc : PT X c (rdT G C (wE E) t)) (ha : PSs X a (rdMs G C H0 E ia)) (hb : PSs X b (rdMs G C H0 E ib)) : PS X (.If c a b pos) (rdM G C H0 E (.iff t ia ib)) := by
  refine PS.imp (ps_if hc ha hb) fun D σ H ⟨r, N, si, no, z⟩ => ?_
  unfold exS at z
  refine m_T hB hC si z fun b H1 x1 t1 f => ?_
  cases b with
  | true => exact ⟨r, N, si.ext x1 t1, no.back (ExN.stb x1), f⟩
  | false => exact ⟨r, N, si.ext x1 t1, no.back (ExN.stb x1), f⟩
omit hB hC in
theorem m_pass {pos : Pos} : PS X (.Pass pos) (rdM G C H0 E .pss) := PS.imp ps_pass fun D σ H ⟨r, N, si, no, z⟩ => by
  unfold exS at z
  exact no.nx r σ H si (Stb.refl H) z
omit hB hC in
theorem m_doc {x : Str} {k : Nat} {p pos : Pos} : PS X (.Expr (.Constant (.str x) k p) pos) (rdM G C H0 E .pss) := PS.imp ps_doc fun D σ H ⟨r, N, si, no, z⟩ => by
  unfold exS at z
  exact no.nx r σ H si (Stb.refl H) z
omit hB hC in
theorem m_break {pos : Pos} : PS X (.Break pos) (rdM G C H0 E .brk) := PS.imp ps_break fun D σ H ⟨r, N, si, no, z⟩ => by
  unfold exS at z
  exact no.bk r σ H si (Stb.refl H) z
omit hB hC in
theorem m_cont {pos : Pos} : PS X (.Continue pos) (rdM G C H0 E .cnt) := PS.imp ps_continue fun D σ H ⟨r, N, si, no, z⟩ => by
  unfold exS at z
  exact no.ct r σ H si (Stb.refl H) z
/-! ### lists of the frame -/
omit hB hC in
theorem tVar_own {i : Nat} {r : Env} {σ : St} {H : Hp} {xs : List D} {t : Option Addr} (si : SI G H0 H r σ) (hi : r[i]? = some (some (.own xs t))) {Q : VK} (k : ∀ p us, σ[i]? = some (some (.ref p)) → H p = some (.lst us) → RDs G.K H xs us → Q (.ref p) H) : tVar i σ H Q := by
  obtain ⟨p, us, e1, e2, e3⟩ := si.own_at hi
  exact ⟨.ref p, e1, k p us e1 e2 e3⟩
theorem m_app {x : Str} {e : Expr} {i : Nat} {ie : Ex} {px ap cp pos : Pos} (hx : PE X (.Name x px) (tVar i)) (he : PE X e (rdV G C (wE E) ie)) (hst : isStar e = false) (hl : (ap.endLine == cp.line) = true) : PS X (.Expr (.Call (.Attribute (.Name x px) "append" ap) [e] [] cp) pos) (rdM G C H0 E (.app i ie)) := by
  have hs := starEach_cons (env := X.env) (es := []) hst
  have h := pe_bm (cpos := cp) (apos := ap) PySem.F.plainAttrs_list PySem.F.slot_list_append PySem.F.type_list_append (mt_append (X := X)) hx (pa_cons he pa_nil hs) rfl (by rw [hs]; rfl) hl hs rfl
  refine PS.imp (ps_expr h rfl) fun D σ H ⟨r, N, si, no, z⟩ => ?_
  unfold exS at z
  obtain ⟨xs, t, hi, hl, z⟩ := z
  unfold tDrop tBM
  refine tVar_own si hi fun p us e1 e2 e3 => ?_
  refine ⟨.inl ⟨rfl, us, .inl (.inl e2)⟩, m_V hB hC si z fun y v H1 rd x1 t1 f => ?_⟩
  have e2' := x1 _ _ e2 (fun _ z => nomatch z)
  refine ⟨p, us, v, rfl, rfl, e2', by rw [← e3.length]; exact hl, ?_⟩
  exact no.nx _ σ _ ((si.ext x1 t1).put hi e1 e2' ((e3.stb (ExN.stb x1)).append (.one rd))) ((ExN.stb x1).trans (Stb.own e2')) f
theorem m_ext {x : Str} {e : Expr} {i : Nat} {ie : Ex} {px ap cp pos : Pos} (hx : PE X (.Name x px) (tVar i)) (he : PE X e (rdR G C (wE E) ie)) (hst : isStar e = false) (hl : (ap.endLine == cp.line) = true) : PS X (.Expr (.Call (.Attribute (.Name x px) "extend" ap) [e] [] cp) pos) (rdM G C H0 E (.ext i ie)) := by
  have hs := starEach_cons (env := X.env) (es := []) hst
  have h := pe_bm (cpos := cp) (apos := ap) PySem.F.plainAttrs_list PySem.F.slot_list_extend PySem.F.type_list_extend (mt_extend (X := X)) hx (pa_cons he pa_nil hs) rfl (by rw [hs]; rfl) hl hs rfl
  refine PS.imp (ps_expr h rfl) fun D σ H ⟨r, N, si, no, z⟩ => ?_
  unfold exS at z
  obtain ⟨xs, t, hi, z⟩ := z
  unfold tDrop tBM
  refine tVar_own si hi fun p us e1 e2 e3 => ?_
  refine ⟨.inl ⟨rfl, us, .inl (.inl e2)⟩, m_R hB hC si z fun y v H1 rr x1 t1 ⟨ys, f1, hl, f⟩ => ?_⟩
  subst f1
  obtain ⟨q, ws, g1, g2, g3, g4⟩ := rr
  subst g1
  have e2' := x1 _ _ e2 (fun _ z => nomatch z)
  refine ⟨p, q, us, ws, rfl, rfl, e2', g3, by rw [← e3.length, ← g4.length]; exact hl, ?_⟩
  exact no.nx _ σ _ ((si.ext x1 t1).put hi e1 e2' ((e3.stb (ExN.stb x1)).append g4)) ((ExN.stb x1).trans (Stb.own e2')) f
theorem m_put {x : Str} {k e : Expr} {i : Nat} {ik ie : Ex} {px tp pos : Pos} (hx : PE X (.Name x px) (tVar i)) (hk : PE X k (rdS G C (wE E) ik)) (he : PE X e (rdV G C (wE E) ie)) (hs : swapsWithSole [.Subscript (.Name x px) k tp] e pos.line X.env = pure false) (hw : swappedStores [.Subscript (.Name x px) k tp] e X.env = pure none) (ha : ∀ v, assign (.Subscript (.Name x px) k tp) X.env v = (do
      let ov ← holding [v] (eval (.Name x px) X.env)
      let iv ← holding [v, ov] (eval k X.env)
      standAt tp
      holding [v, ov, iv] (setItem ov iv v)
      release [v, ov, iv] [])) :
    PS X (.Assign [.Subscript (.Name x px) k tp] e pos) (rdM G C H0 E (.put i ik ie)) := by
  refine PS.imp (ps_asg he (pg_sub hx hk set_list ha) hs hw) fun D σ H ⟨r, N, si, no, z⟩ => ?_
  unfold exS at z
  obtain ⟨xs, t, hi, z⟩ := z
  refine m_V hB hC si z fun y v H1 rd x1 t1 f => ?_
  have s1 := si.ext x1 t1
  refine tVar_own s1 hi fun p us e1 e2 e3 => ?_
  refine m_S hB hC s1 f fun yk vk H2 rb x2 t2 ⟨j, n, g1, g2, f⟩ => ?_
  subst g1
  cases rb.rd (fun _ z => nomatch z)
  have e2' := x2 _ _ e2 (fun _ z => nomatch z)
  refine ⟨p, us, j, n, rfl, rfl, e2', by rw [← e3.length]; exact g2, ?_⟩
  exact no.nx _ σ _ ((s1.ext x2 t2).put hi e1 e2' ((e3.stb (ExN.stb x2)).set (rd.stb (ExN.stb x2)) n)) (((ExN.stb x1).trans (ExN.stb x2)).trans (Stb.own e2')) f
theorem m_dvs {x y : Str} {k e : Expr} {i j : Nat} {ik ie : Ex} {px tp py pos pt : Pos} {kk : Nat} (hc : X.calm = true) (hK : X.K = G.K) (hx : PE X (.Name x px) (tVar i)) (hk : PE X k (rdS G C (wE E) ik)) (hy : PG X (.Name y py) (gName j)) (he : PE X e (rdV G C (wE E) ie)) (hs : swapsWithSole [.Tuple [.Subscript (.Name x px) k tp, .Name y py] kk pt] e pos.line X.env = pure false) (hw : swappedStores [.Tuple [.Subscript (.Name x px) k tp, .Name y py] kk pt] e X.env = pure none) (ha : ∀ v, assign (.Subscript (.Name x px) k tp) X.env v = (do
      let ov ← holding [v] (eval (.Name x px) X.env)
      let iv ← holding [v, ov] (eval k X.env)
      standAt tp
      holding [v, ov, iv] (setItem ov iv v)
      release [v, ov, iv] [])) :
    PS X (.Assign [.Tuple [.Subscript (.Name x px) k tp, .Name y py] kk pt] e pos) (rdM G C H0 E (.dvs i ik j ie)) := by
  refine PS.imp (ps_asg he (pg_tup hc (pgs_cons (pg_sub hx hk set_list ha) (pgs_cons hy pgs_nil))) hs hw) fun D σ H ⟨r, N, si, no, z⟩ => ?_
  unfold exS at z
  obtain ⟨xs, t, hi, z⟩ := z
  refine m_V hB hC si z fun y v H1 rd x1 t1 ⟨a, b, ex, f⟩ => ?_
  subst ex
  have s1 := si.ext x1 t1
  have rd : RD G.K H1 (.tup [a, b]) v := rd
  cases rd with
  | tup sq rs =>
    cases rs with
    | cons ra rs =>
      cases rs with
      | cons rb rs =>
        cases rs
        refine ⟨_, _, rfl, by rw [hK]; exact sq, rfl, _, _, rfl, ?_⟩
        refine tVar_own s1 hi fun p us e1 e2 e3 => ?_
        refine m_S hB hC s1 f fun yk vk H2 rbk x2 t2 ⟨j, n, g1, g2, f⟩ => ?_
        subst g1
        cases rbk.rd (fun _ z => nomatch z)
        have e2' := x2 _ _ e2 (fun _ z => nomatch z)
        have s2 := (s1.ext x2 t2).put hi e1 e2' ((e3.stb (ExN.stb x2)).set (ra.stb (ExN.stb x2)) n)
        refine ⟨p, us, j, n, rfl, rfl, e2', by rw [← e3.length]; exact g2, ?_⟩
        refine ⟨_, _, rfl, rfl, ?_⟩
        exact no.nx _ _ _ (s2.setV _ (rb.stb ((ExN.stb x2).trans (Stb.own e2')))) (((ExN.stb x1).trans (ExN.stb x2)).trans (Stb.own e2')) f
omit hB hC in
theorem setAll_ok {H : Hp} : ∀ (ks : List Nat) (ds : List D) (vs : List V) (r : Env) (σ : St), SI G H0 H r σ → RDs G.K H ds vs → ds.length = ks.length → SI G H0 H (setAll ks ds r) ((ks.zip vs).foldl (fun σ kv => σ.set kv.1 (some kv.2)) σ)
  | [], ds, vs, r, σ, s, rd, hl => by
    cases ds with
    | nil =>
      cases rd
      exact s
    | cons d ds => cases hl
  | k :: ks, ds, vs, r, σ, s, rd, hl => by
    cases rd with
    | nil => cases hl
    | cons r1 r2 =>
      unfold setAll
      exact setAll_ok ks _ _ _ _ (s.setV k r1) r2 (by simpa using hl)
theorem m_par {st : Stmt} {i j : Nat} {es : List Expr} {is : Exs} (h : ∀ {ta : TA}, PA X es ta → PS X st (tPar i j ta)) (ha : PA X es (rdA G C (wE E) is)) : PS X st (rdM G C H0 E (.par [i, j] is)) := by
  refine PS.imp (h ha) fun D σ H ⟨r, N, si, no, z⟩ => ?_
  unfold exS at z
  refine m_A hB hC si z fun xs vs H1 rs x1 t1 ⟨hl, f⟩ => ?_
  cases rs with
  | nil => cases hl
  | cons r1 rs =>
    cases rs with
    | nil => cases hl
    | cons r2 rs =>
      cases rs with
      | nil => exact ⟨_, _, rfl, no.nx _ _ H1 (setAll_ok [i, j] _ _ r σ (si.ext x1 t1) (.cons r1 (.cons r2 .nil)) hl) (ExN.stb x1) f⟩
      | cons r3 rs => simp at hl
theorem m_par3 {st : Stmt} {i j l : Nat} {es : List Expr} {is : Exs} (h : ∀ {ta : TA}, PA X es ta → PS X st (tPar3 i j l ta)) (ha : PA X es (rdA G C (wE E) is)) : PS X st (rdM G C H0 E (.par [i, j, l] is)) := by
  refine PS.imp (h ha) fun D σ H ⟨r, N, si, no, z⟩ => ?_
  unfold exS at z
  refine m_A hB hC si z fun xs vs H1 rs x1 t1 ⟨hl, f⟩ => ?_
  cases rs with
  | nil => cases hl
  | cons r1 rs =>
    cases rs with
    | nil => cases hl
    | cons r2 rs =>
      cases rs with
      | nil => cases hl
      | cons r3 rs =>
        cases rs with
        | nil => exact ⟨_, _, _, rfl, no.nx _ _ H1 (setAll_ok [i, j, l] _ _ r σ (si.ext x1 t1) (.cons r1 (.cons r2 (.cons r3 .nil))) hl) (ExN.stb x1) f⟩
        | cons r4 rs => simp at hl
end
end
end En
/-! En13: loops, raise. -/
namespace En
open PySem L2 PyProof.Rows
section
variable {X : Cx} {G : Cfg} {C : Call} {H0 : Hp} {E : XK}
/-- a value that is walked by a for: a list of the frame is frozen -/
def rdZ (G : Cfg) (C : Call) (H0 : Hp) (E : XK) (i : Ex) : TE := fun σ H Q => ∃ r, SI G H0 H r σ ∧ evS G.B C i r (fun d => ∀ v H', RD G.K H' d v → SI G H0 H' (fzE i r) σ → Stb H H' → Q v H') (eS G E H0)
theorem pe_fz {e : Expr} {t : TE} (h : PE X e t) : PE X e fun σ H Q => t σ H fun v H' => Q v H' ∨ ∃ p us, H' p = some (.lst us) ∧ ∀ o, Q v (upd H' p (.frz o (.lst us))) := by
  refine ⟨fun pins s σ H Q I q => thn (h.run pins s σ H _ I q) fun u s1 ⟨v, H1, I1, rv, z⟩ => ?_⟩
  rcases z with z | ⟨p, us, e, z⟩
  · exact ⟨v, H1, I1, rv, z⟩
  · obtain ⟨o, I2⟩ := Inv.freeze I1 e
    exact ⟨v, _, I2, rv, z o⟩
theorem z_var {e : Expr} {i : Nat} (h : PE X e (tVar i)) : PE X e (rdZ G C H0 E (.var i)) := by
  refine PE.imp (pe_fz h) fun σ H Q ⟨r, si, z⟩ => ?_
  have z : barW i r fun d => ∀ v H', RD G.K H' d v → SI G H0 H' (fzV i r) σ → Stb H H' → Q v H' := z
  unfold fzV at z
  rcases z with ⟨d, e1, z⟩ | ⟨xs, t, e1, z⟩
  · obtain ⟨v, e2, q⟩ := si.re.at_ i _ e1
    rw [e1] at z
    exact ⟨v, e2, .inl (z v H q si (Stb.refl H))⟩
  · obtain ⟨p, us, e2, e3, e4⟩ := si.own_at e1
    rw [e1] at z
    exact ⟨.ref p, e2, .inr ⟨p, us, e3, fun o => z _ _ (.lst (.inl ⟨o, upd_same⟩) (e4.stb (Stb.frz e3))) (si.frz e1 e2 e3 e4) (Stb.frz e3)⟩⟩
theorem z_val (hB : G.B.Mono) (hC : MonoC C) {e : Expr} {i : Ex} (hn : ∀ k, i ≠ .var k) (h : PE X e (rdR G C (wE E) i)) : PE X e (rdZ G C H0 E i) := by
  refine PE.imp (pe_frz hB hC h) fun σ H Q ⟨r, si, z⟩ => ?_
  have hf : fzE i r = r := by
    unfold fzE
    split
    · exact absurd rfl (hn _)
    · rfl
  rw [hf] at z
  have e : evS G.B C i r (fun d => ∀ v H', RD G.K H' d v → SI G H0 H' r σ → Stb H H' → Q v H') (eS G E H0) → evR G.B C i r (fun x => ∀ v H', RD G.K H' x.d v → SI G H0 H' r σ → Stb H H' → Q v H') (eS G E H0) := by
    intro z
    cases i <;> first
      | exact z
      | exact absurd rfl (hn _)
  exact m_V hB hC si (e z) fun x v H1 rd x1 t1 f => f v H1 rd (si.ext x1 t1) (ExN.stb x1)
/-- what a for walks -/
def rdIF (G : Cfg) (C : Call) (H0 : Hp) (E : XK) (it : Ix) : TI := fun σ H R => ∃ r, SI G H0 H r σ ∧ evIF G.B C it r (fun items r0 => ∀ J H', Wk G Stb J items H' → SI G H0 H' r0 σ → Stb H H' → R J H') (eS G E H0)
section
variable (hB : G.B.Mono) (hC : MonoC C) (hK : X.K = G.K)
include hB hC
theorem z_bind {i : Ex} {σ : St} {H : Hp} {Q : VK} {r : Env} {F : D → Prop} (si : SI G H0 H r σ) (z : evS G.B C i r F (eS G E H0)) (k : ∀ d v H1, RD G.K H1 d v → SI G H0 H1 (fzE i r) σ → Stb H H1 → F d → Q v H1) : rdZ G C H0 E i σ H Q :=
  ⟨r, si, (evP_mono hB hC i r).S _ _ _ _ (fun d f v H1 rd s st => k d v H1 rd s st f) (fun _ _ z => z) z⟩
include hK
theorem f_seq {tg e : Expr} {i : Ex} (he : PE X e (rdZ G C H0 E i)) : PI X tg e (rdIF G C H0 E (.seq i)) := by
  refine PI.imp (pi_seq he) fun σ H R ⟨r, si, z⟩ => ?_
  unfold evIF at z
  refine z_bind hB hC si z fun d v H1 rd s1 st f => ?_
  rw [hK]
  exact seq_case (Rel := fun H d v => RD G.K H d v) (rdRB G) (rdSt G) rd f fun J items wk f => f J H1 wk s1 st
theorem f_enu {a : Expr} {i : Ex} {p pos tpos : Pos} {elts : List Expr} {kk : Nat} (hg : Gl X "enumerate") (hm : X.mg "enumerate" = none) (ha : PE X a (rdZ G C H0 E i)) (hs : starEach [a] X.env = [(false, eval a X.env)]) : PI X (.Tuple elts kk tpos) (.Call (.Name "enumerate" p) [a] [] pos) (rdIF G C H0 E (.enu i)) := by
  refine PI.imp (pi_enumA hg hm (pa_cons ha pa_nil hs) hs) fun σ H R ⟨r, si, z⟩ => ?_
  unfold evIF at z
  refine z_bind hB hC si z fun d v H1 rd s1 st f => ?_
  rw [hK]
  exact enu_case (Rel := fun H d v => RD G.K H d v) (F := fun items => ∀ J H', Wk G Stb J items H' → SI G H0 H' (fzE i r) σ → Stb H H' → R J H') (rdRB G) (rdSt G) rd f fun J items wk f => f J H1 wk s1 st
theorem f_zip {a b : Expr} {i j : Ex} {p pos tpos : Pos} {elts : List Expr} {kk : Nat} (hg : Gl X "zip") (hm : X.mg "zip" = none) (ha : PE X a (rdZ G C H0 E i)) (hb : PE X b (rdZ G C H0 E j)) (hs : starEach [a, b] X.env = (false, eval a X.env) :: starEach [b] X.env) (hs2 : starEach [b] X.env = [(false, eval b X.env)]) :
    PI X (.Tuple elts kk tpos) (.Call (.Name "zip" p) [a, b] [] pos) (rdIF G C H0 E (.zip i j)) := by
  refine PI.imp (RZ.pi_zipA hg hm (pa_cons ha (pa_cons hb pa_nil hs2) hs) hs (by rw [hs2]; rfl)) fun σ H R ⟨r, si, z⟩ => ?_
  unfold evIF at z
  refine z_bind hB hC si z fun d v H1 rd s1 st f => ?_
  refine z_bind hB hC s1 f fun d2 v2 H2 rd2 s2 st2 f => ?_
  rw [hK]
  exact zip_case (Rel := fun H d v => RD G.K H d v) (F := fun items => ∀ J H', Wk G Stb J items H' → SI G H0 H' (fzE j (fzE i r)) σ → Stb H H' → R J H') (rdRB G) (rdSt G) (rd.stb st2) rd2 f fun J items wk f => f J H2 wk s2 (st.trans st2)
omit hK in
theorem f_rng1 {tg a : Expr} {i : Ex} {p pos : Pos} (hg : Gl X "range") (hm : X.mg "range" = none) (ha : PE X a (rdS G C (wE E) i)) (hs : starEach [a] X.env = [(false, eval a X.env)]) : PI X tg (.Call (.Name "range" p) [a] [] pos) (rdIF G C H0 E (.rng1 i)) := by
  refine PI.imp (pi_range1 hg hm (pa_cons ha pa_nil hs) hs) fun σ H R ⟨r, si, z⟩ => ?_
  unfold evIF evI at z
  refine m_S hB hC si z fun x v H1 rb x1 t1 ⟨j, e, l, f⟩ => ?_
  subst e
  cases rb.rd (fun _ z => nomatch z)
  refine ⟨j, rfl, by omega, by omega, f _ H1 ?_ (si.ext x1 t1) (ExN.stb x1)⟩
  have := wk_rng (G := G) (S := Stb) (H := H1) (lo := 0) (n := j.toNat)
  simpa using this
omit hK in
theorem f_rng2 {tg a b : Expr} {i j : Ex} {p pos : Pos} (hg : Gl X "range") (hm : X.mg "range" = none) (ha : PE X a (rdS G C (wE E) i)) (hb : PE X b (rdS G C (wE E) j)) (hs : starEach [a, b] X.env = (false, eval a X.env) :: starEach [b] X.env) (hs2 : starEach [b] X.env = [(false, eval b X.env)]) : PI X tg (.Call (.Name "range" p) [a, b] [] pos) (rdIF G C H0 E (.rng2 i j)) := by
  refine PI.imp (pi_range2 hg hm (pa_cons ha (pa_cons hb pa_nil hs2) hs) (by rw [hs, hs2]) hs2) fun σ H R ⟨r, si, z⟩ => ?_
  unfold evIF evI at z
  refine m_S hB hC si z fun x v H1 rb x1 t1 f => ?_
  refine m_S hB hC (si.ext x1 t1) f fun y w H2 rb2 x2 t2 ⟨lo, hi, e1, e2, l1, l2, l3, l4, f9⟩ => ?_
  subst e1 e2
  cases rb.rd (fun _ z => nomatch z)
  cases rb2.rd (fun _ z => nomatch z)
  exact ⟨lo, hi, rfl, ⟨by omega, by omega, by omega, by omega⟩, f9 _ H2 wk_rng (si.ext (x1.trans x2) t2) (ExN.stb (x1.trans x2))⟩
omit hK in
theorem m_for {tg iter : Expr} {body : List Stmt} {t : Tg} {it : Ix} {b : Sms} {pos : Pos} (hp : PassesOwn (model X.prog X.w) X.A X.env X.xe) (hc : X.calm = true) (hi : PI X tg iter (rdIF G C H0 E it)) (hg : PG X tg (rdG G t)) (hb : PSs X body (rdMs G C H0 E b)) (hs : ∀ x, foldedSetIterable iter X.env x = pure x) :
    PS X (.For tg iter body [] pos) (rdM G C H0 E (.forr t it b)) := by
  refine PS.imp (ps_for hp hc hi (g_M (H0 := H0) hg) hb hs) fun D σ H ⟨r, N, si, no, z⟩ => ?_
  unfold exS at z
  refine ⟨r, si, evIF_mono hB hC it r _ _ _ _ (fun items r0 z J H1 wk s1 st1 => ?_) (fun _ _ z => z) z⟩
  obtain ⟨Gd, g1, g2, w⟩ := wk
  refine for_it w (fun i σ' H' => ∃ r', SI G H0 H' r' σ' ∧ Stb H1 H' ∧ forW (fun x r1 K => bindTg t x r1 fun r2 => exSs G.B C b { N with nx := K, ct := K, bk := N.nx } r2 (eS G E H0)) (items.drop i) r' N.nx)
    ⟨r0, s1, Stb.refl H1, by simpa using z⟩ (fun i σ' H' _ ⟨r', _, st, _⟩ => g2 _ _ g1 st) (fun i x σa Ha Hb hi ⟨r', sa, st, zf⟩ ⟨x3, t3, d, hd, rd⟩ => ?_) fun σ' H' ⟨r', s', st, zf⟩ => ?_
  · have hdr : items.drop i = d :: items.drop (i + 1) := by
      rw [List.drop_eq_getElem_cons hi]
      rw [List.getElem?_eq_getElem hi] at hd
      rw [Option.some.inj hd]
    rw [hdr] at zf
    unfold forW at zf
    have sb := sa.ext x3 (t3 sa.tb)
    refine ⟨d, r', sb, rd, bindTg_mono t _ _ _ _ (fun r2 z2 σ2 s2 => ?_) zf⟩
    have stb : Stb H1 Hb := st.trans (ExN.stb x3)
    refine Exists.intro r2 (Exists.intro _ (And.intro s2 (And.intro (Nok.mk (N := { N with nx := fun r' => forW (fun x r1 K => bindTg t x r1 fun r2 => exSs G.B C b { N with nx := K, ct := K, bk := N.nx } r2 (eS G E H0)) (items.drop (i + 1)) r' N.nx, ct := fun r' => forW (fun x r1 K => bindTg t x r1 fun r2 => exSs G.B C b { N with nx := K, ct := K, bk := N.nx } r2 (eS G E H0)) (items.drop (i + 1)) r' N.nx, bk := N.nx }) (fun r3 σ3 H3 s3 st3 z => ?_) no.rt (fun r3 σ3 H3 s3 st3 z => ?_) (fun r3 σ3 H3 s3 st3 z => ?_)) z2)))
    · exact ⟨r3, s3, stb.trans st3, z⟩
    · exact no.nx r3 σ3 H3 s3 (st1.trans (stb.trans st3)) z
    · exact ⟨r3, s3, stb.trans st3, z⟩
  · rw [List.drop_length] at zf
    unfold forW at zf
    exact no.nx r' σ' H' s' (st1.trans st) zf
omit hK in
theorem m_while {c : Expr} {t : Ex} {body : List Stmt} {b : Sms} {pos : Pos} (hp : PassesOwn (model X.prog X.w) X.A X.env X.xe) (hc : PT X c (rdT G C (wE E) t)) (hb : PSs X body (rdMs G C H0 E b)) : PS X (.While c body [] pos) (rdM G C H0 E (.whl t b)) := by
  refine PS.imp (ps_while hp hc hb) fun D σ H ⟨r, N, si, no, z⟩ => ?_
  unfold exS at z
  obtain ⟨W, ⟨m0, w0⟩, h⟩ := z
  refine ⟨fun m σ' H' => ∃ r', SI G H0 H' r' σ' ∧ Stb H H' ∧ W m r', ⟨m0, r, si, Stb.refl H, w0⟩, fun m σ' H' ⟨r', s', st, w⟩ => ?_⟩
  refine m_T hB hC s' (h m r' w) fun k H1 x1 t1 f => ?_
  have s1 := s'.ext x1 t1
  have st1 := st.trans (ExN.stb x1)
  cases k with
  | false => exact no.nx r' σ' H1 s1 st1 f
  | true =>
    refine ⟨_, fun σ3 H3 z => z, Exists.intro r' (Exists.intro _ (And.intro s1 (And.intro (Nok.mk (N := { N with nx := fun r' => ∃ m', m' < m ∧ W m' r', ct := fun r' => ∃ m', m' < m ∧ W m' r', bk := N.nx }) (fun r3 σ3 H3 s3 st3 z => ?_) no.rt (fun r3 σ3 H3 s3 st3 z => ?_) (fun r3 σ3 H3 s3 st3 z => ?_)) f)))⟩
    · obtain ⟨m', hm, w'⟩ := z
      exact ⟨m', hm, r3, s3, st1.trans st3, w'⟩
    · exact no.nx r3 σ3 H3 s3 (st1.trans st3) z
    · obtain ⟨m', hm, w'⟩ := z
      exact ⟨m', hm, r3, s3, st1.trans st3, w'⟩
end
/-! ### raise -/
def rdX (G : Cfg) (C : Call) (W : WX) (c : Str) (is : Exs) : St → Hp → XK → Prop := fun σ H Q => ∃ r, RE G.K H r σ ∧ Tb G H ∧ C "!lv" [] (fun _ => True) E0 ∧ (evAs G.B C is r).R (fun ds => C c ds (fun _ => ∀ cls d H', RX G.K G.fl H' c ds cls d → ExN H H' → Tb G H' → Q cls d H') E0) (exq G W σ H)
theorem m_raise (hB : G.B.Mono) (hC : MonoC C) {e : Expr} {c : Str} {is : Exs} {pos : Pos} (hc : X.calm = true) (tk : Takes X (wE E)) (h : PMk X e (rdX G C (wE E) c is)) : PS X (.Raise (some e) none pos) (rdM G C H0 E (.rse c is)) := by
  refine PS.imp (ps_raise hc tk h) fun D σ H ⟨r, N, si, no, z⟩ => ?_
  unfold exS at z
  exact ⟨r, si.re, si.tb, z.1, (evAs_mono hB hC is r).R _ _ _ _ (fun ds f => hC _ _ _ _ _ _ (fun _ f cls d H' rx x t => f cls d H' rx (si.ex.trans x) t) (fun _ _ z => z) f) (fun c ds z => eS.exq si.ex c ds z) z.2⟩
end
end En
/-! En14: from statements to the small syntax; soundness. -/
namespace En
open PySem L2 PyProof.Rows
/-! ### names that are read as they stand -/
mutual
def rvR : Ex → List Nat
  | .var i => [i]
  | .con _ => []
  | .glo _ => []
  | .bin _ a b => rvS a ++ rvS b
  | .neg a => rvS a
  | .not a => rvS a
  | .and a b => rvS a ++ rvR b
  | .or a b => rvS a ++ rvR b
  | .cmp _ a b => rvS a ++ rvS b
  | .chn _ _ a b c => rvS a ++ (rvS b ++ rvS c)
  | .ite t a b => rvS t ++ (rvR a ++ rvR b)
  | .tup es => rvRs es
  | .lst es => rvRs es
  | .fn _ es => rvRs es
  | .fnk _ _ es ks => rvRs es ++ rvRs ks
  | .blt _ es => rvSs es
  | .mth _ o es => rvS o ++ rvSs es
  | .mcl _ o es => rvR o ++ rvRs es
  | .mck _ _ o es ks => rvR o ++ (rvRs es ++ rvRs ks)
  | .att o _ => rvR o
  | .idx o i => rvS o ++ rvS i
  | .slc o lo hi => rvS o ++ (rvO lo ++ rvO hi)
  | .rev o => rvS o
  | .dct _ => []
  | .lc el _ it c _ => rvR el ++ (rvI it ++ rvO c)
  | .fst es => rvSs es
def rvS : Ex → List Nat
  | .var _ => []
  | .con _ => []
  | .glo _ => []
  | .bin _ a b => rvS a ++ rvS b
  | .neg a => rvS a
  | .not a => rvS a
  | .and a b => rvS a ++ rvR b
  | .or a b => rvS a ++ rvR b
  | .cmp _ a b => rvS a ++ rvS b
  | .chn _ _ a b c => rvS a ++ (rvS b ++ rvS c)
  | .ite t a b => rvS t ++ (rvR a ++ rvR b)
  | .tup es => rvRs es
  | .lst es => rvRs es
  | .fn _ es => rvRs es
  | .fnk _ _ es ks => rvRs es ++ rvRs ks
  | .blt _ es => rvSs es
  | .mth _ o es => rvS o ++ rvSs es
  | .mcl _ o es => rvR o ++ rvRs es
  | .mck _ _ o es ks => rvR o ++ (rvRs es ++ rvRs ks)
  | .att o _ => rvR o
  | .idx o i => rvS o ++ rvS i
  | .slc o lo hi => rvS o ++ (rvO lo ++ rvO hi)
  | .rev o => rvS o
  | .dct _ => []
  | .lc el _ it c _ => rvR el ++ (rvI it ++ rvO c)
  | .fst es => rvSs es
def rvRs : Exs → List Nat
  | .nil => []
  | .cons e r => rvR e ++ rvRs r
  | .star e r => rvS e ++ rvRs r
def rvSs : Exs → List Nat
  | .nil => []
  | .cons e r => rvS e ++ rvSs r
  | .star e r => rvS e ++ rvSs r
def rvO : Exo → List Nat
  | .no => []
  | .so e => rvS e
def rvI : Ix → List Nat
  | .seq e => rvS e
  | .rng1 a => rvS a
  | .rng2 a b => rvS a ++ rvS b
  | .enu e => rvS e
  | .zip a b => rvS a ++ rvS b
end
def rvM : Sm → List Nat
  | .ret e => rvR e
  | .set _ e => rvR e
  | .own _ e => rvR e
  | .unp _ e => rvR e
  | .uno _ _ a b => rvR a ++ rvR b
  | .par _ es => rvRs es
  | .app _ e => rvR e
  | .ext _ e => rvR e
  | .put _ k e => rvS k ++ rvR e
  | .dvs _ k _ e => rvS k ++ rvR e
  | .drop e => rvR e
  | .iff t _ _ => rvS t
  | .forr _ it _ => rvI it
  | .rse _ es => rvRs es
  | _ => []
/-! ### names whose lists are written -/
def isComp : Expr → Bool
  | .ListComp .. => true
  | .SetComp .. => true
  | .DictComp .. => true
  | _ => false
/-- name = [..] on one line -/
def lcSw (sc : Scope) (x : Str) (px : Pos) : Expr → Option Bool
  | .ListComp _ _ scope pos => some (sc.names.lookup x == some .local && px.line == pos.line && !(scope.names.any fun (n, k) => n == x && (k == .local || k == .cell)))
  | .SetComp .. => none
  | .DictComp .. => none
  | _ => some false
/-- two or three names at once -/
def par2 (sc : Scope) (x y : Str) (px py : Pos) (a b : Expr) : Bool :=
  decide (sc.names.lookup x = some .local) && decide (sc.names.lookup y = some .local) && (py.line == px.line) && decide (x ≠ y) && !isStar a && !isStar b && !([a, b].all (foldedForSure 8)) && !([a, b].all (constantsAlone 8))
def par3 (sc : Scope) (x y z : Str) (px py pz : Pos) (a b c : Expr) : Bool :=
  decide (sc.names.lookup x = some .local) && decide (sc.names.lookup y = some .local) && decide (sc.names.lookup z = some .local) && (py.line == px.line) && (pz.line == px.line) && decide (x ≠ y) && decide (x ≠ z) && decide (y ≠ z) && !isStar a && !isStar b && !isStar c && !([a, b, c].all (foldedForSure 8)) && !([a, b, c].all (constantsAlone 8))
/-- a target that is no plain name of the frame -/
def notLoc (sc : Scope) : Expr → Bool
  | .Name x _ => !(sc.names.lookup x == some .local)
  | _ => true
def noPar (sc : Scope) (ts : List Expr) : Expr → Bool
  | .Tuple vs _ _ => !(ts.length == 2 || ts.length == 3) || vs.length != ts.length || vs.all (foldedForSure 8) || ts.any (notLoc sc)
  | _ => true
def frzs (mx : List Nat) : List Nat → Sms → Sms
  | [], q => q
  | i :: r, q => if i ∈ mx then .cons (.frz i) (frzs mx r q) else frzs mx r q
def isVarE : Ex → Bool
  | .var _ => true
  | _ => false
def isNm : Expr → Bool
  | .Name .. => true
  | _ => false
def nvE (f : Expr → Option Ex) (e : Expr) : Option Ex := (f e).bind fun i => if isVarE i && !isNm e then none else some i
section
variable (g : Gi) (N : List Str) (mu : List Str)
def compPar (n : Nat) (sc : Scope) (ts : List Expr) (e : Expr) : Option Sm := match ts, e with
  | [.Name x px, .Name y py], .Tuple [a, b] _ _ => if par2 sc x y px py a b then (ixOf N x).bind fun i => (ixOf N y).bind fun j => (mapN (compE g N n sc) [a, b]).map fun is => Sm.par [i, j] is else none
  | [.Name x px, .Name y py, .Name z pz], .Tuple [a, b, c] _ _ => if par3 sc x y z px py pz a b c then (ixOf N x).bind fun i => (ixOf N y).bind fun j => (ixOf N z).bind fun l => (mapN (compE g N n sc) [a, b, c]).map fun is => Sm.par [i, j, l] is else none
  | _, _ => none
def compUnp (n : Nat) (sc : Scope) (ts : List Expr) (e : Expr) : Option Sm := if noPar sc ts e then (compTs sc N n ts).bind fun t => (compE g N n sc e).map fun ie => .unp t ie else none
/-- x, y = a, b, where y is a list that changes -/
def compUno (n : Nat) (sc : Scope) (ts : List Expr) (e : Expr) : Option Sm := match ts, e with
  | [.Name x _, .Name y _], .Tuple [a, b] _ _ => if decide (y ∈ mu) && (!decide (x ∈ mu) && (isLoc sc x && (isLoc sc y && (noPar sc ts e && (!isStar a && (!isStar b && decide (x ≠ y))))))) then (ixOf N x).bind fun i => (ixOf N y).bind fun j => (compE g N n sc a).bind fun ia => (compE g N n sc b).map fun ib => .uno i j ia ib else none
  | _, _ => none
/-- x[k], y = e -/
def compDv (n : Nat) (sc : Scope) (ts : List Expr) (e : Expr) : Option Sm := match ts with
  | [.Subscript (.Name x _) k _, .Name y _] => if odd x || !isVis sc x || !isLoc sc y || !noPar sc ts e then none else (ixOf N x).bind fun i => (ixOf N y).bind fun j => (compE g N n sc k).bind fun ik => (compE g N n sc e).map fun ie => .dvs i ik j ie
  | _ => none
def compAsg (n : Nat) (sc : Scope) (tg e : Expr) : Option Sm := match tg with
  | .Name x px => if isLoc sc x then (lcSw sc x px e).bind fun _ => (ixOf N x).bind fun i => (compE g N n sc e).map fun ie => if x ∈ mu then .own i ie else .set i ie else none
  | .Subscript (.Name x px) k _ => if odd x || !isVis sc x then none else (ixOf N x).bind fun i => (compE g N n sc k).bind fun ik => (compE g N n sc e).map fun ie => .put i ik ie
  | .Tuple ts _ _ => (match compUno g N mu n sc ts e with
    | some s => some s
    | none => (match compDv g N n sc ts e with
      | some s => some s
      | none => (match compPar g N n sc ts e with
        | some s => some s
        | none => compUnp g N n sc ts e)))
  | _ => none
def compX (n : Nat) (sc : Scope) (e : Expr) : Option Sm := match e with
  | .Constant (.str _) _ _ => some .pss
  | .Call (.Attribute (.Name x px) m ap) [a] [] cp =>
    if m = ("append" : Str) then (if odd x || !isVis sc x || !(ap.endLine == cp.line) then none else (ixOf N x).bind fun i => (compE g N n sc a).map fun ie => .app i ie)
    else if m = ("extend" : Str) then (if odd x || !isVis sc x || !(ap.endLine == cp.line) then none else (ixOf N x).bind fun i => (compE g N n sc a).map fun ie => .ext i ie)
    else (compE g N n sc e).map .drop
  | e => if isComp e then none else (compE g N n sc e).map .drop
def compRet (n : Nat) (sc : Scope) (e : Expr) : Option Sm := match e with
  | .Name x px => if x ∈ mu then (if odd x || !isVis sc x then none else (ixOf N x).map .retO) else (compE g N n sc (.Name x px)).map .ret
  | e => (compE g N n sc e).map .ret
mutual
def compS : Nat → Scope → Stmt → Option Sm
  | 0, _, _ => none
  | n + 1, sc, st => match st with
    | .Return none _ => some .retN
    | .Return (some e) _ => compRet g N mu n sc e
    | .Assign [tg] e _ => compAsg g N mu n sc tg e
    | .Expr e _ => compX g N n sc e
    | .If c a b _ => (tstE (compE g N n sc) c).bind fun ic => (compSs n sc a).bind fun ia => (compSs n sc b).map fun ib => .iff ic ia ib
    | .For tg it body [] _ => (compT sc N n tg).bind fun t => (compI g sc (nvE (compE g N n sc)) tg it).bind fun ix => (compSs n sc body).map fun b => .forr t ix b
    | .While c body [] _ => (tstE (compE g N n sc) c).bind fun ic => (compSs n sc body).map fun b => .whl ic b
    | .Raise (some (.Call (.Name c _) args [] _)) none _ => if odd c || !isGl sc c then none else if c ∈ g.err then (mapN (compE g N n sc) args).map fun is => .rse c is else some .dead
    | .Pass _ => some .pss
    | .Break _ => some .brk
    | .Continue _ => some .cnt
    | _ => none
def compSs : Nat → Scope → List Stmt → Option Sms
  | _, _, [] => some .nil
  | 0, _, _ => none
  | n + 1, sc, st :: rest => (compS n sc st).bind fun s => (compSs n sc rest).map fun q => frzs (mu.filterMap (ixOf N)) (rvM s) (.cons s q)
end
end
/-! ### what the machine asks of stores -/
theorem sw_not {e : Expr} {t : Option Expr} {l : Nat} {env : PySem.Env} (h : isComp e = false) : swapsWith e t l env = pure false := by
  cases e <;> first
    | rfl
    | cases h
theorem sw_tup {e tg : Expr} {l : Nat} {env : PySem.Env} (h : ∀ x p, tg ≠ .Name x p) : swapsWithSole [tg] e l env = pure false := by
  show swapsWith e (some tg) l env = pure false
  cases e <;> first
    | rfl
    | (cases tg <;> first
        | rfl
        | exact absurd rfl (h _ _))
theorem sw_false {elt : Expr} {gs : List Comprehension} {scope : Scope} {pos py : Pos} {y : Str} {l : Nat} {env : PySem.Env}
    (h : (env.scope.names.lookup y == some .local && py.line == pos.line && !(scope.names.any fun (n, k) => n == y && (k == .local || k == .cell))) = false) : swapsWith (.ListComp elt gs scope pos) (some (.Name y py)) l env = pure false := by
  unfold swapsWith
  show (pure (env.blockKind == .function && env.kindOf y == some .local && py.line == pos.line && !(scope.names.any fun (n, k) => n == y && (k == .local || k == .cell))) : Sem Bool) = pure false
  have e : (env.blockKind == .function && env.kindOf y == some .local && py.line == pos.line && !(scope.names.any fun (n, k) => n == y && (k == .local || k == .cell))) = false := by
    have h : (env.kindOf y == some .local && py.line == pos.line && !(scope.names.any fun (n, k) => n == y && (k == .local || k == .cell))) = false := h
    rw [Bool.and_assoc, Bool.and_assoc, ← Bool.and_assoc (env.kindOf y == some .local), h, Bool.and_false]
  rw [e]
theorem ss_no {ts : List Expr} {e : Expr} {k : Nat} {tp : Pos} {env : PySem.Env} (h : noPar env.scope ts e = true) : swappedStores [.Tuple ts k tp] e env = pure none := by
  cases e <;> first
    | rfl
    | skip
  rename_i vs k2 p2
  unfold noPar at h
  unfold swappedStores
  simp only [Bool.or_eq_true] at h
  rcases h with ((h | h) | h) | h
  · simp [h]
  · simp [h]
  · simp only [h, if_true]
    repeat' split
    all_goals rfl
  · have hl : ∀ (f : Expr → Option Str) (l : List Expr), (∀ e ∈ l, notLoc env.scope e = true → f e = none) → l.any (notLoc env.scope) = true → ((l.filterMap f).length != l.length) = true := fun f l hf ha => by
      have hlt : (l.filterMap f).length < l.length := by
        induction l with
        | nil => cases ha
        | cons x xs ih =>
          rw [List.filterMap_cons]
          have hx := hf x List.mem_cons_self
          cases hn : notLoc env.scope x with
          | true =>
            rw [hx hn]
            have := List.length_filterMap_le f xs
            simp only [List.length_cons]
            omega
          | false =>
            have h2 : xs.any (notLoc env.scope) = true := by
              have : (notLoc env.scope x || xs.any (notLoc env.scope)) = true := ha
              rw [hn] at this
              exact this
            have := ih (fun e he => hf e (List.mem_cons_of_mem _ he)) h2
            cases f x with
            | none => simp only [List.length_cons]; omega
            | some y => simp only [List.length_cons]; omega
      simp only [bne_iff_ne, ne_eq]
      omega
    simp only
    repeat' split
    all_goals first
      | rfl
      | skip
    all_goals
      rename_i h3 _ _
      exfalso
      simp only [Bool.or_eq_true, not_or] at h3
      refine h3.1 (hl _ ts (fun e _ hn => ?_) h)
      unfold notLoc at hn
      split at hn
      · rename_i id pp _
        have : (env.kindOf id == some .local) = false := by
          have hn : (env.scope.names.lookup id == some .local) = false := by simpa using hn
          exact hn
        simp only [this]
        rfl
      · split
        · rename_i hh; exact absurd rfl (hh _ _)
        · rfl
theorem dups2 {x y : Str} (h : x ≠ y) : [x, y].eraseDups = [x, y] := by
  have e : (y == x) = false := by simpa using Ne.symm h
  rw [List.eraseDups_cons, List.filter_cons, e]
  simp [List.eraseDups_cons]
theorem dups3 {x y z : Str} (h : x ≠ y) (h2 : x ≠ z) (h3 : y ≠ z) : [x, y, z].eraseDups = [x, y, z] := by
  have e : (y == x) = false := by simpa using Ne.symm h
  have e2 : (z == x) = false := by simpa using Ne.symm h2
  rw [List.eraseDups_cons]
  have : List.filter (fun b => !b == x) [y, z] = [y, z] := by
    rw [List.filter_cons, List.filter_cons, e, e2]
    rfl
  rw [this, dups2 h3]
theorem ss_2 {x y : Str} {px py tp p2 : Pos} {a b : Expr} {k k2 : Nat} {env : PySem.Env} (hk : env.blockKind = .function) (h : par2 env.scope x y px py a b = true) : swappedStores [.Tuple [.Name x px, .Name y py] k tp] (.Tuple [a, b] k2 p2) env = pure (some [x, y]) := by
  unfold par2 at h
  simp only [Bool.and_eq_true, decide_eq_true_eq, Bool.not_eq_true'] at h
  obtain ⟨⟨⟨⟨⟨⟨⟨h1, h2⟩, h3⟩, h4⟩, h5⟩, h6⟩, h7⟩, h8⟩ := h
  have e1 : env.kindOf x = some .local := h1
  have e2 : env.kindOf y = some .local := h2
  have d := dups2 h4
  unfold swappedStores
  simp only [h7, h8, hk, e1, e2, Expr.pos, h3, List.head?, List.filterMap, Option.map, Option.getD, beq_self_eq_true, Bool.and_self, if_true, d]
  simp
  intro h
  rcases h with h | h
  · cases a <;> first
      | exact Bool.noConfusion (show true = false from h5)
      | exact Bool.noConfusion (show false = true from h)
  · cases b <;> first
      | exact Bool.noConfusion (show true = false from h6)
      | exact Bool.noConfusion (show false = true from h)
theorem ss_3 {x y z : Str} {px py pz tp p2 : Pos} {a b c : Expr} {k k2 : Nat} {env : PySem.Env} (hk : env.blockKind = .function) (h : par3 env.scope x y z px py pz a b c = true) : swappedStores [.Tuple [.Name x px, .Name y py, .Name z pz] k tp] (.Tuple [a, b, c] k2 p2) env = pure (some [x, y, z]) := by
  unfold par3 at h
  simp only [Bool.and_eq_true, decide_eq_true_eq, Bool.not_eq_true'] at h
  obtain ⟨⟨⟨⟨⟨⟨⟨⟨⟨⟨⟨⟨h1, h2⟩, h2'⟩, h3⟩, h3'⟩, h4⟩, h4'⟩, h4''⟩, h5⟩, h6⟩, h6'⟩, h7⟩, h8⟩ := h
  have e1 : env.kindOf x = some .local := h1
  have e2 : env.kindOf y = some .local := h2
  have e3 : env.kindOf z = some .local := h2'
  have d := dups3 h4 h4' h4''
  unfold swappedStores
  simp only [h7, h8, hk, e1, e2, e3, Expr.pos, h3, h3', List.head?, List.filterMap, Option.map, Option.getD, beq_self_eq_true, Bool.and_self, if_true, d]
  simp
  intro h
  rcases h with h | h | h
  · cases a <;> first
      | exact Bool.noConfusion (show true = false from h5)
      | exact Bool.noConfusion (show false = true from h)
  · cases b <;> first
      | exact Bool.noConfusion (show true = false from h6)
      | exact Bool.noConfusion (show false = true from h)
  · cases c <;> first
      | exact Bool.noConfusion (show true = false from h6')
      | exact Bool.noConfusion (show false = true from h)
theorem ss_sub {o i e : Expr} {p : Pos} {env : PySem.Env} : swappedStores [.Subscript o i p] e env = pure none := by
  cases e <;> rfl
end En
/-! En15: compSs is sound. -/
namespace En
open PySem L2 PyProof.Rows
/-- what is known where statements run -/
structure Ks (g : Gi) (G : Cfg) (C : Call) (Ok : Cx → WX → Prop) (X : Cx) (E : XK) : Prop where
  ok : Ok X (wE E)
  pass : PassesOwn (model X.prog X.w) X.A X.env X.xe
  tk : Takes X (wE E)
  fn : ∀ x, X.fn x = true
  kind : X.env.blockKind = .function
  skind : X.env.scope.kind = .function
  err : ∀ c ∈ g.err, Gl X c → odd c = false → ∀ args is p pos, PA X args (rdA G C (wE E) is) → (∀ e ∈ args, isStar e = false) → (args = [] → is = .nil) → PMk X (.Call (.Name c p) args [] pos) (rdX G C (wE E) c is)
section
variable {g : Gi} {G : Cfg} {C : Call} {Ok : Cx → WX → Prop} {X : Cx} {E : XK} {N mu : List Str} {H0 : Hp}
theorem vr_ok {sc : Scope} {x : Str} {p : Pos} {i : Nat} (hs : X.env.scope = sc) (hn : X.N = N) (ho : odd x = false) (hv : isVis sc x = true) (hi : ixOf N x = some i) : PE X (.Name x p) (tVar i) := by
  obtain ⟨o1, o2, o3⟩ := odd_cases ho
  exact pe_var (by rw [hn]; exact ixOf_get hi) (vis_ok hs hv) o1 o2
theorem name_var {n : Nat} {sc : Scope} {x : Str} {p : Pos} {i : Nat} (h : compE g N n sc (.Name x p) = some (.var i)) (hs : X.env.scope = sc) (hn : X.N = N) : PE X (.Name x p) (tVar i) := by
  cases n with
  | zero => simp [compE] at h
  | succ n =>
    simp only [compE] at h
    unfold nameE at h
    split at h
    · cases h
    · rename_i ho
      split at h
      · rename_i hv
        simp only [Option.map_eq_some_iff] at h
        obtain ⟨j, h1, h2⟩ := h
        cases h2
        exact vr_ok hs hn (by simpa using ho) hv h1
      · split at h
        · simp only [Option.map_eq_some_iff] at h
          obtain ⟨j, h1, h2⟩ := h
          cases h2
        · cases h
theorem zz_ok (k : Kn g G C Ok) (hN : N.Nodup) (ks : Ks g G C Ok X E) {n : Nat} {sc : Scope} (hs : X.env.scope = sc) (hn : X.N = N) : ∀ e i, nvE (compE g N n sc) e = some i → PE X e (rdZ G C H0 E i) ∧ Sd G C X (wE E) e i := by
  intro e i h
  unfold nvE at h
  simp only [Option.bind_eq_some_iff] at h
  obtain ⟨j, h1, h2⟩ := h
  split at h2
  · cases h2
  rename_i hv
  cases h2
  have s := compE_ok k hN n sc e i h1 X (wE E) ks.ok hs hn
  refine ⟨?_, s⟩
  cases hi : isVarE i with
  | false =>
    refine z_val k.hB k.hC (fun m z => ?_) s.R
    rw [z] at hi
    cases hi
  | true =>
    have hnm : isNm e = true := by simpa [hi] using hv
    cases i <;> first
      | cases hi
      | skip
    cases e <;> first
      | cases hnm
      | skip
    exact z_var (name_var h1 hs hn)
theorem compIF_ok (k : Kn g G C Ok) (hN : N.Nodup) (ks : Ks g G C Ok X E) {n : Nat} {sc : Scope} (hs : X.env.scope = sc) (hn : X.N = N) (tg iter : Expr) (ix : Ix) (h : compI g sc (nvE (compE g N n sc)) tg iter = some ix) :
    PI X tg iter (rdIF G C H0 E ix) ∧ isSet iter = false := by
  have ok := ks.ok
  have hK := (k.bs X _ ok).K
  have ih : ∀ e i, nvE (compE g N n sc) e = some i → PE X e (rdZ G C H0 E i) ∧ Sd G C X (wE E) e i := zz_ok k hN ks hs hn
  have seq : isSet iter = false → (nvE (compE g N n sc) iter).map .seq = some ix → PI X tg iter (rdIF G C H0 E ix) ∧ isSet iter = false := fun hi h => by
    simp only [Option.map_eq_some_iff] at h
    obtain ⟨i, h1, h2⟩ := h
    subst h2
    exact ⟨f_seq k.hB k.hC hK (ih _ _ h1).1, hi⟩
  unfold compI at h
  split at h
  · rename_i x px a pos
    split at h
    · rename_i c
      obtain ⟨e1, e2, e3⟩ := c
      subst e1
      simp only [Option.map_eq_some_iff] at h
      obtain ⟨i, h1, h2⟩ := h
      subst h2
      have s := (ih _ _ h1).2
      exact ⟨f_rng1 k.hB k.hC (gl_ok hs e2) (k.no X _ _ ok e3) s.S (starEach_cons s.st), rfl⟩
    · split at h
      · rename_i c
        obtain ⟨e1, e2, e3, e4⟩ := c
        subst e1
        simp only [Option.map_eq_some_iff] at h
        obtain ⟨i, h1, h2⟩ := h
        subst h2
        obtain ⟨z, s⟩ := ih _ _ h1
        cases tg <;> first
          | exact ⟨f_enu k.hB k.hC hK (gl_ok hs e2) (k.no X _ _ ok e3) z (starEach_cons s.st), rfl⟩
          | cases e4
      · exact seq rfl h
  · rename_i x px a b pos
    split at h
    · rename_i c
      obtain ⟨e1, e2, e3⟩ := c
      subst e1
      simp only [Option.map_eq_some_iff, Option.bind_eq_some_iff] at h
      obtain ⟨i, h1, j, h2, h3⟩ := h
      subst h3
      have s := (ih _ _ h1).2
      have s2 := (ih _ _ h2).2
      exact ⟨f_rng2 k.hB k.hC (gl_ok hs e2) (k.no X _ _ ok e3) s.S s2.S (starEach_cons s.st) (starEach_cons s2.st), rfl⟩
    · split at h
      · rename_i c
        obtain ⟨e1, e2, e3, e4⟩ := c
        subst e1
        simp only [Option.map_eq_some_iff, Option.bind_eq_some_iff] at h
        obtain ⟨i, h1, j, h2, h3⟩ := h
        subst h3
        obtain ⟨z, s⟩ := ih _ _ h1
        obtain ⟨z2, s2⟩ := ih _ _ h2
        cases tg <;> first
          | exact ⟨f_zip k.hB k.hC hK (gl_ok hs e2) (k.no X _ _ ok e3) z z2 (starEach_cons s.st) (starEach_cons s2.st), rfl⟩
          | cases e4
      · exact seq rfl h
  · cases h
  · rename_i h3
    refine seq ?_ h
    cases iter <;> first
      | rfl
      | exact absurd rfl (h3 _ _ _)
/-- name = [..] on one line -/
theorem lc_set (k : Kn g G C Ok) (hN : N.Nodup) {n : Nat} {sc : Scope} {elt : Expr} {gens : List Comprehension} {scope : Scope} {pos py spos : Pos} {y : Str} {i : Ex} {j : Nat} {W : WX} (ok : Ok X W) (hs : X.env.scope = sc) (hn : X.N = N) (h : compE g N n sc (.ListComp elt gens scope pos) = some i) (hy : X.N[j]? = some y) (hyl : X.env.scope.names.lookup y = some .local)
    (hsw : swapsWith (.ListComp elt gens scope pos) (some (.Name y py)) spos.line X.env = pure true) : PS X (.Assign [.Name y py] (.ListComp elt gens scope pos) spos) (tAsg (rdR G C W i) (gName j)) := by
  cases n with
  | zero => simp [compE] at h
  | succ n =>
    have hB := k.hB
    have hC := k.hC
    have bs := k.bs X W ok
    have ih : ∀ e i, compE g N n sc e = some i → Sd G C X W e i := fun e i h => compE_ok k hN n sc e i h X W ok hs hn
    unfold compE at h
    split at h
    all_goals first
      | (rename_i q; cases q; done)
      | skip
    · rename_i elt' tg iter ifs scope' pos' q
      cases q
      split at h
      · rename_i hb
        simp only [Option.map_eq_some_iff, Option.bind_eq_some_iff] at h
        obtain ⟨t, h1, h⟩ := h
        split at h
        · rename_i hin
          simp only [Option.map_eq_some_iff, Option.bind_eq_some_iff] at h
          obtain ⟨ix, h2, co, h3, el, h4, h5⟩ := h
          subst h5
          have hin : ∀ i ∈ tgIx t, i ∈ (ownOf N scope).map (fun (p : Str × Nat) => p.2) := fun i hi => by
            have := List.all_eq_true.mp hin i hi
            simpa using this
          have bok := blkOk_by hb
          obtain ⟨hI, hset⟩ := compI_ok k ok hs ih tg iter ix h2
          have okB : ∀ s H a cl fp, Ok (X.blk s H scope (compEnvC scope cl a X.env) fp) W0 := fun s H a cl fp => k.blk X W s H scope cl a fp ok
          have hsc : ∀ s H a cl fp, (X.blk s H scope (compEnvC scope cl a X.env) fp).env.scope = relS scope sc := fun s H a cl fp => by rw [← hs]; rfl
          have hg : ∀ (s : Shared) (H : Hp) (a : Addr) (cl : List (Str × Addr)) (fp : List Addr), PG (X.blk s H scope (compEnvC scope cl a X.env) fp) tg (rdG G t) := fun s H a cl fp =>
            compT_ok (hsc s H a cl fp) hn hN (k.bs _ _ (okB s H a cl fp)).calm (k.bs _ _ (okB s H a cl fp)).K n tg t h1 (own_fn (X := X) bok hN hin (hsc s H a cl fp) rfl)
          have ht : ∀ (s : Shared) (H : Hp) (a : Addr) (cl : List (Str × Addr)) (fp : List Addr), PTs (X.blk s H scope (compEnvC scope cl a X.env) fp) ifs (rdC G C co) := fun s H a cl fp => by
            split at h3
            · cases h3
              exact c_no
            · simp only [Option.map_eq_some_iff] at h3
              obtain ⟨i, h6, h7⟩ := h3
              subst h7
              obtain ⟨s1, s2⟩ := tst_ok (fun e i h => compE_ok k hN n _ e i h _ W0 (okB s H a cl fp) (hsc s H a cl fp) hn) _ _ h6
              exact c_so hB hC (s1.T s2)
            · cases h3
          have he : ∀ (s : Shared) (H : Hp) (a : Addr) (cl : List (Str × Addr)) (fp : List Addr), PE (X.blk s H scope (compEnvC scope cl a X.env) fp) elt (rdV G C W0 el) := fun s H a cl fp =>
            pe_frz hB hC (compE_ok k hN n _ elt el h4 _ W0 (okB s H a cl fp) (hsc s H a cl fp) hn).R
          have bok' : BlkOk X.N X.env.scope scope (ownOf N scope) := by rw [hn, hs]; exact bok
          refine PS.imp (ps_setLc bs.calm (by rw [hn]; exact hN) hy hyl hsw hI bok' hg ht he (fset_ok hset)) fun D σ H q => ?_
          exact p_lc hB hC bs (pos := pos) hI bok' hin hg ht he (fset_ok hset) σ H _ q
        · cases h
      · cases h
    · cases h
theorem asg_ok (k : Kn g G C Ok) (hN : N.Nodup) (ks : Ks g G C Ok X E) {n : Nat} {sc : Scope} (hs : X.env.scope = sc) (hn : X.N = N) {x : Str} {px pos : Pos} {e : Expr} {i : Ex} {j : Nat} {b : Bool} (hl : isLoc sc x = true) (hb : lcSw sc x px e = some b) (hj : ixOf N x = some j) (h : compE g N n sc e = some i) :
    PS X (.Assign [.Name x px] e pos) (tAsg (rdR G C (wE E) i) (gName j)) := by
  have hl' : Loc X.env.scope x := by
    unfold isLoc at hl
    rw [hs]
    show sc.names.lookup x = some .local ∨ sc.names.lookup x = some .cell
    simpa using hl
  have plain : swapsWith e (some (.Name x px)) pos.line X.env = pure false → PS X (.Assign [.Name x px] e pos) (tAsg (rdR G C (wE E) i) (gName j)) := fun hw =>
    ps_set (by rw [hn]; exact hN) (by rw [hn]; exact ixOf_get hj) hl' (compE_ok k hN n sc e i h X (wE E) ks.ok hs hn).R hw (.inl (ks.fn x))
  cases e <;> first
    | exact plain (sw_not rfl)
    | skip
  · rename_i elt gens scope cpos
    unfold lcSw at hb
    cases b with
    | false => exact plain (sw_false (by rw [hs]; exact Option.some.inj hb))
    | true =>
      have hb := Option.some.inj hb
      simp only [Bool.and_eq_true, Bool.not_eq_true', beq_iff_eq] at hb
      obtain ⟨⟨h1, h2⟩, h3⟩ := hb
      exact lc_set k hN ks.ok hs hn h (by rw [hn]; exact ixOf_get hj) (by rw [hs]; exact h1) (sw_true ks.skind (by rw [hs]; exact h1) (by simpa using h2) h3)
  · cases hb
  · cases hb
theorem asgn_sub {n : Nat} {sc : Scope} {o kx : Expr} {i : Ex} {tp : Pos} {env : PySem.Env} (h : compE g N n sc kx = some i) : ∀ v, assign (.Subscript o kx tp) env v = (do
      let ov ← holding [v] (eval o env)
      let iv ← holding [v, ov] (eval kx env)
      standAt tp
      holding [v, ov, iv] (setItem ov iv v)
      release [v, ov, iv] []) := by
  cases n with
  | zero => simp [compE] at h
  | succ n => cases kx <;> first
    | (intro v; rfl)
    | (simp [compE] at h)
theorem frzs_ok {rest : List Stmt} {mx : List Nat} {q : Sms} (h : PSs X rest (rdMs G C H0 E q)) : ∀ l, PSs X rest (rdMs G C H0 E (frzs mx l q))
  | [] => h
  | i :: r => by
    unfold frzs
    split
    · exact m_frz (frzs_ok h r)
    · exact frzs_ok h r
mutual
theorem compS_ok (k : Kn g G C Ok) (hN : N.Nodup) (ks : Ks g G C Ok X E) {sc : Scope} (hs : X.env.scope = sc) (hn : X.N = N) : ∀ (n : Nat) (st : Stmt) (s : Sm), compS g N mu n sc st = some s → PS X st (rdM G C H0 E s)
  | 0, st, s, h => by simp [compS] at h
  | n + 1, st, s, h => by
    have hB := k.hB
    have hC := k.hC
    have ih : ∀ e i, compE g N n sc e = some i → Sd G C X (wE E) e i := fun e i h => compE_ok k hN n sc e i h X (wE E) ks.ok hs hn
    have hc := (k.bs _ _ ks.ok).calm
    have hK := (k.bs _ _ ks.ok).K
    unfold compS at h
    split at h
    · cases h
      exact m_retN
    · rename_i e pos
      unfold compRet at h
      split at h
      · rename_i x px
        split at h
        · split at h
          · cases h
          rename_i hv
          simp only [Bool.or_eq_true, Bool.not_eq_true', not_or, Bool.not_eq_true, Bool.not_eq_false] at hv
          simp only [Option.map_eq_some_iff] at h
          obtain ⟨i, h1, h2⟩ := h
          subst h2
          exact m_retO (vr_ok hs hn hv.1 hv.2 h1)
        · simp only [Option.map_eq_some_iff] at h
          obtain ⟨i, h1, h2⟩ := h
          subst h2
          exact m_ret hB hC (ih _ _ h1).R
      · simp only [Option.map_eq_some_iff] at h
        obtain ⟨i, h1, h2⟩ := h
        subst h2
        exact m_ret hB hC (ih _ _ h1).R
    · rename_i tg e pos
      unfold compAsg at h
      split at h
      · rename_i x px
        split at h
        · rename_i hl
          simp only [Option.map_eq_some_iff, Option.bind_eq_some_iff] at h
          obtain ⟨b, h1, i, h2, ie, h3, h4⟩ := h
          have a := asg_ok (pos := pos) k hN ks hs hn hl h1 h2 h3
          split at h4
          · cases h4
            exact m_own hB hC a
          · cases h4
            exact m_set hB hC a
        · cases h
      · rename_i x px kx tp
        split at h
        · cases h
        rename_i hv
        simp only [Bool.or_eq_true, Bool.not_eq_true', not_or, Bool.not_eq_true, Bool.not_eq_false] at hv
        simp only [Option.map_eq_some_iff, Option.bind_eq_some_iff] at h
        obtain ⟨i, h1, ik, h2, ie, h3, h4⟩ := h
        subst h4
        exact m_put hB hC (vr_ok hs hn hv.1 hv.2 h1) (ih _ _ h2).S (pe_frz hB hC (ih _ _ h3).R) (sw_tup fun _ _ z => nomatch z) ss_sub (asgn_sub h2)
      · rename_i ts kt tp
        cases hun : compUno g N mu n sc ts e with
        | some s' =>
          rw [hun] at h
          cases h
          unfold compUno at hun
          split at hun
          · rename_i x px y py a b k2 p2
            split at hun
            · rename_i hv
              simp only [Bool.and_eq_true, Bool.not_eq_true', decide_eq_true_eq] at hv
              obtain ⟨_, _, lx, ly, hnp, sa, sb, hne⟩ := hv
              simp only [Option.map_eq_some_iff, Option.bind_eq_some_iff] at hun
              obtain ⟨i, h1, j, h2, ia, h3, ib, h4, h5⟩ := hun
              subst h5
              have loc : ∀ {x : Str}, isLoc sc x = true → Loc X.env.scope x := fun {x} hl => by
                unfold isLoc at hl
                rw [hs]
                simp only [Bool.or_eq_true, beq_iff_eq] at hl
                exact hl
              exact m_uno hB hC hK (ps_asg (pe_tup (pa_cons (ih _ _ h3).R (pa_cons (ih _ _ h4).R pa_nil (starEach_cons sb)) (starEach_cons sa))) (pg_tup hc (pgs_cons (pg_name (by rw [hn]; exact hN) (by rw [hn]; exact ixOf_get h1) (loc lx) (.inl (ks.fn x))) (pgs_cons (pg_name (by rw [hn]; exact hN) (by rw [hn]; exact ixOf_get h2) (loc ly) (.inl (ks.fn y))) pgs_nil))) (sw_tup fun _ _ z => nomatch z) (ss_no (by rw [hs]; exact hnp)) rfl)
            · cases hun
          · cases hun
        | none =>
        rw [hun] at h
        simp only at h
        cases hdv : compDv g N n sc ts e with
        | some s' =>
          rw [hdv] at h
          cases h
          unfold compDv at hdv
          split at hdv
          · rename_i x px kx tp2 y py
            split at hdv
            · cases hdv
            rename_i hv
            simp only [Bool.or_eq_true, Bool.not_eq_true', not_or, Bool.not_eq_true, Bool.not_eq_false] at hv
            simp only [Option.map_eq_some_iff, Option.bind_eq_some_iff] at hdv
            obtain ⟨i, h1, j, h2, ik, h3, ie, h4, h5⟩ := hdv
            subst h5
            refine m_dvs hB hC hc hK (vr_ok hs hn hv.1.1.1 hv.1.1.2 h1) (ih _ _ h3).S (pg_name (by rw [hn]; exact hN) (by rw [hn]; exact ixOf_get h2) ?_ (.inl (ks.fn y))) (pe_frz hB hC (ih _ _ h4).R) (sw_tup fun _ _ z => nomatch z) (ss_no (by rw [hs]; exact hv.2)) (asgn_sub h3)
            have hl := hv.1.2
            unfold isLoc at hl
            rw [hs]
            simp only [Bool.or_eq_true, beq_iff_eq] at hl
            exact hl
          · cases hdv
        | none =>
        rw [hdv] at h
        simp only at h
        have hst : swapsWithSole [.Tuple ts kt tp] e pos.line X.env = pure false := sw_tup fun _ _ z => nomatch z
        split at h
        · rename_i s' hp
          cases h
          unfold compPar at hp
          split at hp
          · rename_i x px y py a b k2 p2
            split at hp
            · rename_i hpar
              simp only [Option.map_eq_some_iff, Option.bind_eq_some_iff] at hp
              obtain ⟨i, h1, j, h2, is, h3, h4⟩ := hp
              subst h4
              have hpar2 := hpar
              unfold par2 at hpar2
              simp only [Bool.and_eq_true, decide_eq_true_eq] at hpar2
              obtain ⟨⟨⟨⟨⟨⟨⟨l1, l2⟩, _⟩, hne⟩, _⟩, _⟩, _⟩, _⟩ := hpar2
              have hij : i ≠ j := fun z => by
                have e1 := ixOf_get h1
                have e2 := ixOf_get h2
                rw [z, e2] at e1
                exact hne (Option.some.inj e1).symm
              exact m_par hB hC (fun ha => ps_par hc (by rw [hn]; exact hN) (by rw [hn]; exact ixOf_get h1) (by rw [hn]; exact ixOf_get h2) hij (by rw [hs]; exact l1) (by rw [hs]; exact l2) ha (ss_2 ks.kind (by rw [hs]; exact hpar)) hst) (mapN_ok hB hC ih _ _ h3).1
            · cases hp
          · rename_i x px y py z pz a b c k2 p2
            split at hp
            · rename_i hpar
              simp only [Option.map_eq_some_iff, Option.bind_eq_some_iff] at hp
              obtain ⟨i, h1, j, h2, l, h2', is, h3, h4⟩ := hp
              subst h4
              have hpar2 := hpar
              unfold par3 at hpar2
              simp only [Bool.and_eq_true, decide_eq_true_eq] at hpar2
              obtain ⟨⟨⟨⟨⟨⟨⟨⟨⟨⟨⟨⟨l1, l2⟩, l3⟩, _⟩, _⟩, ne1⟩, ne2⟩, ne3⟩, _⟩, _⟩, _⟩, _⟩, _⟩ := hpar2
              have e1 := ixOf_get h1
              have e2 := ixOf_get h2
              have e3 := ixOf_get h2'
              have hij : i ≠ j := fun w => by
                rw [w, e2] at e1
                exact ne1 (Option.some.inj e1).symm
              have hil : i ≠ l := fun w => by
                rw [w, e3] at e1
                exact ne2 (Option.some.inj e1).symm
              have hjl : j ≠ l := fun w => by
                rw [w, e3] at e2
                exact ne3 (Option.some.inj e2).symm
              exact m_par3 hB hC (fun ha => ps_par3 hc (by rw [hn]; exact hN) (by rw [hn]; exact e1) (by rw [hn]; exact e2) (by rw [hn]; exact e3) hij hil hjl (by rw [hs]; exact l1) (by rw [hs]; exact l2) (by rw [hs]; exact l3) ha (ss_3 ks.kind (by rw [hs]; exact hpar)) hst) (mapN_ok hB hC ih _ _ h3).1
            · cases hp
          · cases hp
        · unfold compUnp at h
          split at h
          · rename_i hnp
            simp only [Option.map_eq_some_iff, Option.bind_eq_some_iff] at h
            obtain ⟨t, h1, ie, h2, h3⟩ := h
            subst h3
            obtain ⟨g1, g2, g3⟩ := compTs_ok (G := G) hs hn hN hc hK n ts t h1 fun i hi x hx => .inl (ks.fn x)
            exact m_unp hB hC (ih _ _ h2).R (g_tup hc hK g1 g2 g3) hst (ss_no (by rw [hs]; exact hnp)) rfl
          · cases h
      · cases h
    · rename_i e pos
      have dr : ∀ e s, isComp e = false → (compE g N n sc e).map .drop = some s → PS X (.Expr e pos) (rdM G C H0 E s) := fun e s hi h => by
        simp only [Option.map_eq_some_iff] at h
        obtain ⟨i, h1, h2⟩ := h
        subst h2
        exact m_drop hB hC (ih _ _ h1).R (sw_not hi)
      unfold compX at h
      split at h
      · cases h
        exact m_doc
      · rename_i x px m ap a cp
        split at h
        · rename_i hm
          subst hm
          split at h
          · cases h
          rename_i hv
          simp only [Bool.or_eq_true, Bool.not_eq_true', not_or, Bool.not_eq_true, Bool.not_eq_false] at hv
          simp only [Option.map_eq_some_iff, Option.bind_eq_some_iff] at h
          obtain ⟨i, h1, ie, h2, h3⟩ := h
          subst h3
          exact m_app hB hC (vr_ok hs hn hv.1.1 hv.1.2 h1) (pe_frz hB hC (ih _ _ h2).R) (ih _ _ h2).st hv.2
        · split at h
          · rename_i hm
            subst hm
            split at h
            · cases h
            rename_i hv
            simp only [Bool.or_eq_true, Bool.not_eq_true', not_or, Bool.not_eq_true, Bool.not_eq_false] at hv
            simp only [Option.map_eq_some_iff, Option.bind_eq_some_iff] at h
            obtain ⟨i, h1, ie, h2, h3⟩ := h
            subst h3
            exact m_ext hB hC (vr_ok hs hn hv.1.1 hv.1.2 h1) (ih _ _ h2).R (ih _ _ h2).st hv.2
          · exact dr _ _ rfl h
      · split at h
        · cases h
        · rename_i hi
          exact dr _ _ (by simpa using hi) h
    · rename_i c a b pos
      simp only [Option.map_eq_some_iff, Option.bind_eq_some_iff] at h
      obtain ⟨ic, h1, ia, h2, ib, h3, h4⟩ := h
      subst h4
      obtain ⟨s, hi⟩ := tst_ok ih _ _ h1
      exact m_if hB hC (s.T hi) (compSs_ok k hN ks hs hn n a ia h2) (compSs_ok k hN ks hs hn n b ib h3)
    · rename_i tg it body pos
      simp only [Option.map_eq_some_iff, Option.bind_eq_some_iff] at h
      obtain ⟨t, h1, ix, h2, b, h3, h4⟩ := h
      subst h4
      obtain ⟨p1, p2⟩ := compIF_ok (H0 := H0) k hN ks hs hn tg it ix h2
      exact m_for hB hC ks.pass hc p1 (compT_ok hs hn hN hc hK n tg t h1 fun i hi x hx => .inl (ks.fn x)) (compSs_ok k hN ks hs hn n body b h3) (fset_ok p2)
    · rename_i c body pos
      simp only [Option.map_eq_some_iff, Option.bind_eq_some_iff] at h
      obtain ⟨ic, h1, b, h2, h3⟩ := h
      subst h3
      obtain ⟨s, hi⟩ := tst_ok ih _ _ h1
      exact m_while hB hC ks.pass (s.T hi) (compSs_ok k hN ks hs hn n body b h2)
    · rename_i c p args cp pos
      split at h
      · cases h
      rename_i ho
      simp only [Bool.or_eq_true, Bool.not_eq_true', not_or, Bool.not_eq_true, Bool.not_eq_false] at ho
      split at h
      · rename_i hc'
        simp only [Option.map_eq_some_iff] at h
        obtain ⟨is, h1, h2⟩ := h
        subst h2
        obtain ⟨q1, q2, q3⟩ := mapN_ok hB hC ih _ _ h1
        exact m_raise hB hC hc ks.tk (ks.err c hc' (gl_ok hs ho.2) ho.1 args is p cp q1 q3 (mapN_nil h1))
      · cases h
        exact ⟨fun pins s σ H D I ⟨r, N, si, no, z⟩ => by unfold exS at z; exact z.elim⟩
    · cases h
      exact m_pass
    · cases h
      exact m_break
    · cases h
      exact m_cont
    · cases h
theorem compSs_ok (k : Kn g G C Ok) (hN : N.Nodup) (ks : Ks g G C Ok X E) {sc : Scope} (hs : X.env.scope = sc) (hn : X.N = N) : ∀ (n : Nat) (sts : List Stmt) (s : Sms), compSs g N mu n sc sts = some s → PSs X sts (rdMs G C H0 E s)
  | n, [], s, h => by
    have e : s = .nil := by cases n <;> simp [compSs] at h <;> exact h.symm
    subst e
    exact m_nil
  | 0, st :: r, s, h => by simp [compSs] at h
  | n + 1, st :: r, s, h => by
    simp only [compSs, Option.map_eq_some_iff, Option.bind_eq_some_iff] at h
    obtain ⟨s1, h1, q, h2, h3⟩ := h
    subst h3
    exact frzs_ok (m_cons (compS_ok k hN ks hs hn n st s1 h1) (compSs_ok k hN ks hs hn n r q h2)) _
end
end
end En
/-! En16: defs and their calls. -/
namespace En
open PySem L2 PyProof.Rows
/-- the program, its globals, the ground -/
structure Pg where
  P : Program
  w : World
  mg : Str → Option Value
  base : Heap
  fl : Bool
  lq : Bool
/-- the table of a def that makes lambdas, by its code -/
def LmV (p : Pg) (G : Cfg) (qual : Str) (cd : Value) : Prop := p.lq = true → ∃ c P, cd = .ref c ∧ LamX.TabB p.base p.mg c P ∧ (P, qual ++ "<lambda>") ∈ G.T ∧ ∀ t ∈ G.T, t.1 = P → t.2 = qual ++ "<lambda>"
theorem LmV.nil {p : Pg} {G : Cfg} {qual : Str} {cd : Value} (h : p.lq = false) : LmV p G qual cd := fun z => by
  rw [h] at z
  cases z
/-- a context at level k -/
structure OkX (p : Pg) (G : Cfg) (k : Nat) (X : Cx) (W : WX) : Prop where
  P : X.prog = p.P
  w : X.w = p.w
  mg : X.mg = p.mg
  base : X.base = p.base
  bs : Bs X G
  room : Room k X.A
  gd : p.fl = true → X.A.guards = some []
  tk : Takes X W
  lm : LmV p G X.env.qual X.env.code
  ind : ∀ cls d σ σ' H, W cls d σ H → W cls d σ' H
theorem OkX.blk {p : Pg} {G : Cfg} {k : Nat} {X : Cx} {W : WX} (h : OkX p G k X W) (s : Shared) (H : Hp) (scope : Scope) (cl : List (Str × Addr)) (a : Addr) (fp : List Addr) : OkX p G k (X.blk s H scope (compEnvC scope cl a X.env) fp) W0 :=
  ⟨h.P, h.w, h.mg, h.base, ⟨h.bs.K, h.bs.un, h.bs.calm, h.bs.nd⟩, h.room, h.gd, fun u s' ⟨_, _, _, _, _, _, _, _, _, _, _, _, _, _, _, _, z⟩ => z.elim, h.lm, fun _ _ _ _ _ z => z.elim⟩
/-- what a call's wish is, told of data -/
def qS (G : Cfg) (Q : VK) (H : Hp) : Rv → Prop := fun x => ∀ v H', RR G.K H H' x v → ExN H H' → Tb G H' → Q v H'
/-- a def keeps its meaning C nm -/
def FnG (p : Pg) (G : Cfg) (C : Call) (k : Nat) (f : Addr) (fd : FuncData) (ps : List Str) (nm : Str) : Prop :=
  ∀ (A : Around) (outer : List PySem.Env) (s : Shared) (H : Hp) (args : Args) (us : List Value) (vs : List V) (ds : List D) (Q : VK) (E : XK), Room k A → (p.fl = true → A.guards = some []) → Env0 p.P p.w G.K p.mg p.base A outer s H → BindsTo s fd args (ps.zip us) → Vals vs us → RDs G.K H ds vs → Tb G H → ds.length = ps.length →
    C nm ds (qS G Q H) (eS G E H) → codeAny (model p.P p.w) A (.call (.ref f) args) (CR (L2.CX p.P p.w) outer p.P p.w H s Q E) s
theorem startD_get {n : Nat} {ds : List D} {i : Nat} {s : Slot} (h : (startD n ds)[i]? = some (some s)) : ∃ d, ds[i]? = some d ∧ s = .val d := by
  unfold startD at h
  by_cases hi : i < ds.length
  · rw [List.getElem?_append_left (by simpa using hi), List.getElem?_map, List.getElem?_eq_getElem hi] at h
    cases h
    exact ⟨_, List.getElem?_eq_getElem hi, rfl⟩
  · rw [List.getElem?_append_right (by simp; omega)] at h
    have := List.mem_of_getElem? h
    have := List.eq_of_mem_replicate this
    cases this
theorem RE.start {K : PySem.W.Frag} {H : Hp} {N : List Str} {ds : List D} {vs : List V} (r : RDs K H ds vs) : RE K H (startD N.length ds) (L2.start N vs) := by
  have hl := r.length
  refine ⟨fun i s e => ?_, fun i j xs ys t u v e1 _ _ _ => ?_, by simp [startD, L2.start, hl]⟩
  · obtain ⟨d, e1, e2⟩ := startD_get e
    subst e2
    obtain ⟨v, e3, rd⟩ := r.get e1
    refine ⟨v, ?_, rd⟩
    unfold L2.start
    have hi : i < vs.length := by
      rcases Nat.lt_or_ge i vs.length with z | z
      · exact z
      · rw [List.getElem?_eq_none z] at e3; cases e3
    rw [List.getElem?_append_left (by simpa using hi), List.getElem?_map, e3]
    rfl
  · obtain ⟨d, _, e2⟩ := startD_get e1
    cases e2
section
variable {p : Pg} {G : Cfg} {g : Gi} {C : Call}
/-- what may be raised -/
def ErrOk (p : Pg) (G : Cfg) (g : Gi) (C : Call) (k : Nat) : Prop := ∀ X E, OkX p G k X (wE E) → ∀ c ∈ g.err, Gl X c → odd c = false → ∀ args is p pos, PA X args (rdA G C (wE E) is) → (∀ e ∈ args, isStar e = false) → (args = [] → is = .nil) → PMk X (.Call (.Name c p) args [] pos) (rdX G C (wE E) c is)
/-- a def that is compiled -/
theorem fn_comp {k : Nat} (kn : Kn g G C (OkX p G k)) (er : ErrOk p G g C k) {x qual : Str} {params : Arguments} {body : List Stmt} {scope : Scope} {dvs : List V} {kws : List (Str × V)} {f : Addr} {fd : FuncData} {N ps mu : List Str} {n : Nat} {b : Sms}
    (F : FunD G.K x qual params body scope dvs kws f fd) (S : FnScope N ps scope) (hc : compSs g N mu n scope body = some b) (hlm : LmV p G (qual ++ ".<locals>.") fd.code)
    {C' : Call} {nm : Str} (hC' : ∀ ds Q E, C' nm ds Q E → exSs G.B C b { nx := fun _ => Q (.v .non), rt := fun x _ => Q x } (startD N.length ds) E) : FnG p G C' (k + 1) f fd ps nm := by
  obtain ⟨oc, od, dV, kV, doc, pm, an, cdv, ct, osl, rfl, lk, hcd, _, _⟩ := F.ex
  intro A outer s H args us vs ds Q E hr hg e0 hb r rd tb hl h
  refine LamX.run_ofS (N := N) lk hcd S hr e0 hb r (by rw [← rd.length]; exact hl) fun hr2 => ⟨rdMs G C H E b, ?_, ?_⟩
  · have ok : OkX p G k (cxOf (L2.CX p.P p.w) p.P p.w G.K p.mg p.base N qual scope f cdv A outer s H E) (wE E) :=
      ⟨rfl, rfl, rfl, rfl, ⟨rfl, hr2.units, rfl, S.nd⟩, hr2, hg, takes_of rfl rfl rfl rfl, hlm, fun _ _ _ _ _ z => z⟩
    exact compSs_ok kn S.nd ⟨ok, passes_of rfl, takes_of rfl rfl rfl rfl, fun _ => rfl, by show Env.blockKind _ = _; unfold Env.blockKind; rw [show (cxOf (L2.CX p.P p.w) p.P p.w G.K p.mg p.base N qual scope f cdv A outer s H E).env.scope.kind = .function from S.kind]; rfl, S.kind, er _ E ok⟩ rfl rfl n body b hc
  · refine ⟨startD N.length ds, { nx := fun _ => qS G Q H (.v .non), rt := fun x _ => qS G Q H x }, ⟨RE.start rd, fun i xs t q e _ => ?_, LamX.ExtN.refl H, tb⟩, ⟨fun r' σ' H' si _ z => z _ H' .non si.ex si.tb, fun x v r' σ' H' si rr z => z v H' rr si.ex si.tb, fun _ _ _ _ _ z => z.elim, fun _ _ _ _ _ z => z.elim⟩, hC' _ _ _ h⟩
    obtain ⟨d, _, e2⟩ := startD_get e
    cases e2
/-! ### the call of a def -/
theorem run_G {k : Nat} {X : Cx} {W : WX} (ok : OkX p G k X W) {f : Addr} {fd : FuncData} {ps : List Str} {nm : Str} (F : FnG p G C k f fd ps nm) {pins : List (Addr × Obj)} {σ : St} {H : Hp} {s : Shared} {Q : VK} {args : Args} {us : List Value} {vs : List V} {ds : List D}
    (hb : BindsTo s fd args (ps.zip us)) (I : Inv X pins σ H s) (r : Vals vs us) (rd : RDs G.K H ds vs) (tb : Tb G H) (hl : ds.length = ps.length) (h : C nm ds (qS G Q H) (exq G W σ H)) :
    wpAny (model X.prog X.w) X.A (call (.ref f) args.pos args.kw) (EP X pins σ Q) X.xe s := by
  obtain ⟨e1, e2, e3, e4, bs, room, gd, tk, _, _⟩ := ok
  have e0 := I.env0
  rw [e1, e2, bs.K, e3, e4] at e0
  rw [e1, e2]
  refine wpAny_call (codeAny_mono (F X.A X.stack s H args us vs ds Q (fun cls d H' => W cls d σ H') room gd e0 hb r rd tb hl h) fun r s' hq => ?_)
  rw [← e1, ← e2] at hq
  cases r with
  | error e => exact tk e s' (XE.of_call I (fun cls d H' h => h) hq)
  | ok fl =>
    cases fl with
    | ret u => exact I.after hq
    | next => exact False.elim hq
    | brk => exact False.elim hq
    | cont => exact False.elim hq
theorem noStars {es : List Expr} {env : PySem.Env} {pos : Pos} (h : ∀ e ∈ es, isStar e = false) : (backTo pos (starEach es env)).any (·.1) = false := by
  induction es with
  | nil => rfl
  | cons e es ih =>
    rw [starEach_cons (h e List.mem_cons_self)]
    show (false || (backTo pos (starEach es env)).any (·.1)) = false
    rw [ih fun x hx => h x (List.mem_cons_of_mem _ hx)]
    rfl
/-- the promise of a def, for the rules of the layer that ask no guards -/
def spG (G : Cfg) (C : Call) (n : Nat) (nm : Str) : Sp := fun vs H Q E => ∃ ds, RDs G.K H ds vs ∧ Tb G H ∧ ds.length = n ∧ C nm ds (qS G Q H) (eS G E H)
theorem FnG.ok {k : Nat} {f : Addr} {fd : FuncData} {ps : List Str} {nm : Str} (hf : p.fl = false) (F : FnG p G C k f fd ps nm) : FnOk p.P p.w G.K p.mg p.base (L2.CX p.P p.w) k f fd ps (spG G C ps.length nm) :=
  ⟨fun vs H Q E ⟨ds, rd, _, hl, _⟩ => by rw [← rd.length]; exact hl, fun A outer s H args us vs Q E hr e0 hb r ⟨ds, rd, tb, hl, h⟩ => F A outer s H args us vs ds Q E hr (fun z => by rw [hf] at z; cases z) e0 hb r rd tb hl h⟩
theorem FnG.run {k : Nat} {f : Addr} {fd : FuncData} {ps : List Str} {nm : Str} (hf : p.fl = false) (F : FnG p G C k f fd ps nm) (hb : Binds G.K fd ps []) : FnR p.P p.w G.K p.mg p.base (L2.CX p.P p.w) k f (spG G C ps.length nm) :=
  fun A outer s H us vs Q E hr e0 r ⟨ds, rd, tb, hl, h⟩ => by
    have kin : G.K.In s.heap := e0.mod.kin.keeps fun b o e => (e0.bs b o e).1
    have b := hb s us kin (by rw [List.append_nil, ← r.length, ← rd.length]; exact hl)
    rw [List.append_nil] at b
    exact F A outer s H ⟨us, []⟩ us vs ds Q E hr (fun z => by rw [hf] at z; cases z) e0 b r rd tb hl h
end
end En
/-! En17: built-in functions and methods, by data. -/
namespace En
open PySem L2 PyProof.Rows
/-- the built-in type of a datum -/
def tyN : D → Option Tn
  | .non => some .none
  | .bl _ => some .bool
  | .int _ => some .int
  | .str _ => some .str
  | .tup _ => some .tuple
  | .lst _ => some .list
  | .dic _ => some .dict
  | _ => none
def subT (a b : Tn) : Bool := decide (a = b) || (decide (a = .bool) && decide (b = .int))
/-- what own classes are of -/
structure Sub where
  ok : Str → D → Option Bool
  own : List Str
  mok : Str → D → Bool
def unBl : List D → Option (List Bool)
  | [] => some []
  | .bl b :: r => (unBl r).map (b :: ·)
  | _ => none
def unInt : List D → Option (List Int)
  | [] => some []
  | .int b :: r => (unInt r).map (b :: ·)
  | _ => none
def unStr : List D → Option (List Str)
  | [] => some []
  | .str b :: r => (unStr r).map (b :: ·)
  | _ => none
def isiW (sub : Sub) : D → D → (Bool → Prop) → Prop
  | .obj c _, u, Q => ∃ b, sub.ok c u = some b ∧ Q b
  | x, .ty n, Q => ∃ a, tyN x = some a ∧ Q (subT a n)
  | x, .cls c, Q => c ∈ sub.own ∧ (tyN x).isSome = true ∧ Q false
  | _, _, _ => False
def lenW : D → (Int → Prop) → Prop
  | .lst xs, Q => Q xs.length
  | .tup xs, Q => Q xs.length
  | .str x, Q => x.length ≤ sizeLine ∧ Q x.length
  | _, _ => False
/-- the built-in functions -/
def bltW (sub : Sub) (C : Call) : Bf → List D → (Rv → Prop) → Prop
  | .isi, [x, u], Q => isiW sub x u fun b => Q (.v (.bl b))
  | .len, [.obj c fs], Q => C "__len__" [.obj c fs] (fun r => ∃ n : Int, r = .v (.int n) ∧ 0 ≤ n ∧ n < 1000000 ∧ Q (.v (.int n))) E0
  | .len, [x], Q => lenW x fun n => Q (.v (.int n))
  | .all, [.lst xs], Q => ∃ bs, unBl xs = some bs ∧ Q (.v (.bl (bs.all id)))
  | .any, [.lst xs], Q => ∃ bs, unBl xs = some bs ∧ Q (.v (.bl (bs.any id)))
  | .tup, [.lst xs], Q => Q (.v (.tup xs))
  | .tup, [.tup xs], Q => Q (.v (.tup xs))
  | .lst, [.lst xs], Q => Q (.fr xs)
  | .lst, [.tup xs], Q => Q (.fr xs)
  | .str, [.obj c fs], Q => C "__str__" [.obj c fs] (fun r => ∃ x, r = .v (.str x) ∧ Q (.v (.str x))) E0
  | .str, [.int i], Q => i.natAbs.log2 < 1920 ∧ Q (.v (.str (toString i)))
  | .str, [.str x], Q => Q (.v (.str x))
  | .int, [.int i], Q => Q (.v (.int i))
  | .int, [.bl b], Q => Q (.v (.int (if b then 1 else 0)))
  | .int, [.str a], Q => ∃ n, PySem.intText? a = some n ∧ a.length ≤ 640 ∧ Q (.v (.int n))
  | .abs, [.int i], Q => Q (.v (.int (if i < 0 then -i else i)))
  | .min, [.int i, .int j], Q => Q (.v (.int (if j < i then j else i)))
  | .max, [.int i, .int j], Q => Q (.v (.int (if j > i then j else i)))
  | .sum, [.lst xs], Q => ∃ ns, unInt xs = some ns ∧ Q (.v (.int ns.sum))
  | .divmod, [.int i, .int j], Q => CDiv i j ∧ Q (.v (.tup [.int (i / j), .int (i % j)]))
  | .bool, [.int i], Q => Q (.v (.bl (i != 0)))
  | .bool, [.bl b], Q => Q (.v (.bl b))
  | .bool, [.obj c fs], Q => C "__bool__" [.obj c fs] (fun r => ∃ n : Int, r = .v (.int n) ∧ 0 ≤ n ∧ n < 1000000 ∧ Q (.v (.bl (n != 0)))) E0
  | .repr, [.obj c fs], Q => C "__repr__" [.obj c fs] (fun r => ∃ x, r = .v (.str x) ∧ Q (.v (.str x))) E0
  | .repr, [x], Q => isShw x = true ∧ (toPy x).showable = true ∧ (toPy x).depth ≤ 60 ∧ (toPy x).shown.length ≤ sizeLine ∧ Q (.v (.str (toPy x).shown))
  | .sorted, [.tup xs], Q => ∃ ys, unStr xs = some ys ∧ ys.length < 64 ∧ ∀ zs : List Str, zs.Perm ys → sortedS zs = true → Q (.fr (zs.map D.str))
  | _, _, _ => False
def joinW : D → List D → (Rv → Prop) → Prop
  | .str a, [.lst xs], Q => ∃ ys, unStr xs = some ys ∧ (ys.map (·.length)).sum + ys.length * a.length ≤ 16777216 ∧ Q (.v (.str (Txt.join a ys)))
  | .str a, [.tup xs], Q => ∃ ys, unStr xs = some ys ∧ (ys.map (·.length)).sum + ys.length * a.length ≤ 16777216 ∧ Q (.v (.str (Txt.join a ys)))
  | _, _, _ => False
def splitW : D → List D → (Rv → Prop) → Prop
  | .str a, [.str b], Q => (b.length == 0) = false ∧ a.length + 2 ≤ sizeLine ∧ Q (.fr ((Txt.split a b).map D.str))
  | _, _, _ => False
def countW : D → List D → (Rv → Prop) → Prop
  | .lst xs, [.int k], Q => ∃ ns, unInt xs = some ns ∧ Q (.v (.int (ns.count k : Nat)))
  | _, _, _ => False
def mthW : Mf → D → List D → (Rv → Prop) → Prop
  | .join => joinW
  | .split => splitW
  | .count => countW
  | _ => fun _ _ _ => False
def mtyW : Mf → D → Bool
  | .join, .str _ => true
  | .split, .str _ => true
  | .count, .lst _ => true
  | _, _ => false
def libW (sub : Sub) : Lib := ⟨fun C b ds Q _ => bltW sub C b ds Q, mthW, mtyW, sub.mok⟩
theorem isiW_mono {sub : Sub} {x u : D} {Q Q' : Bool → Prop} (h : ∀ b, Q b → Q' b) (z : isiW sub x u Q) : isiW sub x u Q' := by
  unfold isiW at z ⊢
  split at z <;> first
    | (obtain ⟨b, e, z⟩ := z; exact ⟨b, e, h _ z⟩)
    | exact ⟨z.1, z.2.1, h _ z.2.2⟩
    | exact z.elim
theorem lenW_mono {x : D} {Q Q' : Int → Prop} (h : ∀ b, Q b → Q' b) (z : lenW x Q) : lenW x Q' := by
  unfold lenW at z ⊢
  split at z <;> first
    | exact h _ z
    | exact ⟨z.1, h _ z.2⟩
    | exact z.elim
theorem libW_mono (sub : Sub) : (libW sub).Mono := by
  refine ⟨fun C hC b ds Q Q' E E' hq he z => ?_, fun m x ds Q Q' hq z => ?_⟩
  · have z : bltW sub C b ds Q := z
    show bltW sub C b ds Q'
    unfold bltW at z ⊢
    split at z
    case h_1 => exact isiW_mono (fun _ z => hq _ z) z
    case h_2 => exact hC _ _ _ _ _ _ (fun r ⟨n, e, h1, h2, z⟩ => ⟨n, e, h1, h2, hq _ z⟩) (fun _ _ z => z) z
    case h_3 => exact lenW_mono (fun _ z => hq _ z) z
    case h_10 => exact hC _ _ _ _ _ _ (fun r ⟨x, e, z⟩ => ⟨x, e, hq _ z⟩) (fun _ _ z => z) z
    case h_23 => exact hC _ _ _ _ _ _ (fun r ⟨n, e, h1, h2, z⟩ => ⟨n, e, h1, h2, hq _ z⟩) (fun _ _ z => z) z
    case h_24 => exact hC _ _ _ _ _ _ (fun r ⟨x, e, z⟩ => ⟨x, e, hq _ z⟩) (fun _ _ z => z) z
    case h_25 => exact ⟨z.1, z.2.1, z.2.2.1, z.2.2.2.1, hq _ z.2.2.2.2⟩
    all_goals first
      | exact hq _ z
      | exact ⟨z.1, hq _ z.2⟩
      | (obtain ⟨b, e, z⟩ := z; exact ⟨b, e, hq _ z⟩)
      | (obtain ⟨b, e, e2, z⟩ := z; exact ⟨b, e, e2, hq _ z⟩)
      | (obtain ⟨b, e, e2, z⟩ := z; exact ⟨b, e, e2, fun zs h1 h2 => hq _ (z zs h1 h2)⟩)
      | exact z.elim
  · have z : mthW m x ds Q := z
    show mthW m x ds Q'
    cases m with
    | join =>
      have z : joinW x ds Q := z
      show joinW x ds Q'
      unfold joinW at z ⊢
      split at z
      all_goals first
        | (obtain ⟨b, e, e2, z⟩ := z; exact ⟨b, e, e2, hq _ z⟩)
        | exact z.elim
    | split =>
      have z : splitW x ds Q := z
      show splitW x ds Q'
      unfold splitW at z ⊢
      split at z
      all_goals first
        | exact ⟨z.1, z.2.1, hq _ z.2.2⟩
        | exact z.elim
    | count =>
      have z : countW x ds Q := z
      show countW x ds Q'
      unfold countW at z ⊢
      split at z
      all_goals first
        | (obtain ⟨b, e, z⟩ := z; exact ⟨b, e, hq _ z⟩)
        | exact z.elim
    | _ => exact (show False from z).elim
section
variable {X : Cx} {G : Cfg}
theorem unBl_ok {K : PySem.W.Frag} {H : Hp} : ∀ {xs : List D} {bs : List Bool} {us : List V}, unBl xs = some bs → RDs K H xs us → us = bs.map V.bl
  | [], bs, us, h, r => by
    cases r
    cases h
    rfl
  | x :: xs, bs, us, h, r => by
    cases r with
    | cons r1 r2 =>
      cases r1 <;> first
        | (simp only [unBl, Option.map_eq_some_iff] at h
           obtain ⟨bs', h1, h2⟩ := h
           rw [← h2, unBl_ok h1 r2]
           rfl)
        | cases h
theorem unInt_ok {K : PySem.W.Frag} {H : Hp} : ∀ {xs : List D} {bs : List Int} {us : List V}, unInt xs = some bs → RDs K H xs us → us = bs.map V.int
  | [], bs, us, h, r => by
    cases r
    cases h
    rfl
  | x :: xs, bs, us, h, r => by
    cases r with
    | cons r1 r2 =>
      cases r1 <;> first
        | (simp only [unInt, Option.map_eq_some_iff] at h
           obtain ⟨bs', h1, h2⟩ := h
           rw [← h2, unInt_ok h1 r2]
           rfl)
        | cases h
theorem unStr_ok {K : PySem.W.Frag} {H : Hp} : ∀ {xs : List D} {bs : List Str} {us : List V}, unStr xs = some bs → RDs K H xs us → us = bs.map V.str
  | [], bs, us, h, r => by
    cases r
    cases h
    rfl
  | x :: xs, bs, us, h, r => by
    cases r with
    | cons r1 r2 =>
      cases r1 <;> first
        | (simp only [unStr, Option.map_eq_some_iff] at h
           obtain ⟨bs', h1, h2⟩ := h
           rw [← h2, unStr_ok h1 r2]
           rfl)
        | cases h
theorem strs_rd {K : PySem.W.Frag} {H : Hp} : ∀ ys : List Str, RDs K H (ys.map D.str) (ys.map V.str)
  | [] => .nil
  | y :: ys => .cons (.str y) (strs_rd ys)
/-- the type of a value -/
theorem tyX_of {K : PySem.W.Frag} {H : Hp} {x : D} {v : V} {a : Tn} (h : RB K H x v) (e : tyN x = some a) : TyX K H v (.type a.nm) := by
  rcases h with h | ⟨xs, p, us, e1, e2, e3, r⟩
  · cases h with
    | non => cases e; exact .base .non
    | bl b => cases e; exact .base (.bl b)
    | int i => cases e; exact .base (.int i)
    | str y => cases e; exact .base (.str y)
    | @tup a xs ds hq rs =>
      cases e
      rcases hq with (hq | ⟨o, hq⟩) | hq
      · exact .base (.tup hq)
      · exact .fTuple hq
      · obtain ⟨o, _, _, hk, hc, _⟩ := hq
        exact .kTuple hk hc
    | lst hq rs =>
      cases e
      rcases hq with ⟨o, hq⟩ | ⟨_, _, hk, _⟩
      · exact .base (.frz hq)
      · exact .kList hk rfl
    | dic hq _ _ => cases e; exact .fDict hq
    | _ => cases e
  · subst e1 e2
    cases e
    exact .base (.lst e3)
theorem sub_kit (a b : Tn) : kitB a.nm b.nm = some (subT a b) := by
  cases a <;> cases b <;> decide +kernel
end
end En
namespace En
open PySem L2 PyProof.Rows TL
/-! Xs1: sorted of a tuple of texts. -/
section
variable {prog : Program} {w : World} {A : Around} {E : Value → Shared → Prop} {s : Shared}
theorem coll_tup {a : Addr} {us : List Value} {F : List Value → Shared → Prop} (ht : IsTup s.heap a us.toArray)
    (q : F us { s with heap := (s.heap.push (seqObj "list" #[] 0)).update s.heap.objs.size (Obj.mapSeq (· ++ us.toArray)) }) (hl : us.length ≤ sizeLine) :
    wpAny (model prog w) A (collect (.ref a)) F E s := by
  obtain ⟨ob, h1, h2, m, h3⟩ := id ht
  unfold collect
  refine wpAny_bind (wpAny_runValue (codeAny_builtin entry_proto_collect' ?_))
  show wpAny _ _ (do again (.builtin "list.__iadd__" ⟨[← newList [], .ref a], []⟩)) _ _ s
  refine wpAny_bind (wpAny_newList (wpAny_pure ⟨Code.quiet_builtin _ (by decide +kernel), codeAny_builtin entry_list_iadd' ?_⟩))
  show wpAny _ _ (Builtin.List.listExtendWith (.ref s.heap.objs.size) (.ref a) (.ref s.heap.objs.size)) _ _ { s with heap := s.heap.push (seqObj "list" #[] 0) }
  unfold Builtin.List.listExtendWith
  have h1' : (s.heap.push (seqObj "list" #[] 0)).get? a = some ob := Heap.get?_push_of_some _ h1
  refine wpAny_bind (wpAny_typeOf (T := "tuple") ⟨ob, h1', h2⟩ ?_)
  have et : (Value.type "tuple" == Value.type "tuple") = true := by rfl
  rw [if_pos (by rw [et]; simp)]
  refine wpAny_bind (listItems_at h1' h3 ?_)
  refine wpAny_bind (listItems_at (xs := #[]) (n := 0) (Heap.get?_push_size _ rfl) rfl ?_)
  rw [if_neg (by simp)]
  refine wpAny_bind (listUpdate_at (xs := #[]) (n := 0) (Heap.get?_push_size _ rfl) rfl ?_ (Nat.zero_le _) (by show (#[] ++ us.toArray).size ≤ sizeLine + 1; simp only [Array.size_append, List.size_toArray, List.length_nil]; omega))
  refine wpAny_pure ?_
  show wpAny (model prog w) A (do
      let ob ← load s.heap.objs.size
      match ob.data with
      | .seq ys _ => pure ys.toList
      | _ => unsupported "internal:collect") F E { s with heap := (s.heap.push (seqObj "list" #[] 0)).update s.heap.objs.size (Obj.mapSeq (· ++ us.toArray)) }
  refine wpAny_bind (wpAny_load (get?_update_seq (Heap.get?_push_size _ rfl) _) ?_)
  show wpAny _ _ (pure ((#[] : Array Value) ++ us.toArray).toList) F E _
  rw [show ((#[] : Array Value) ++ us.toArray).toList = us by simp]
  exact wpAny_pure q
theorem sorted_tupS {a : Addr} {us : List Value} {zs : List Str} {F : Value → Shared → Prop} (ht : IsTup s.heap a us.toArray) (hS : StrsAre us zs) (h64 : us.length < 64)
    (q : ∀ (out : Array Value) (ys : List Str), StrsAre out.toList ys → ys.Perm zs → sortedS ys = true → F (.ref (s.heap.objs.size + 1)) { s with heap := sortedAll s.heap us out }) :
    wpAny (model prog w) A (call (.builtin "sorted") [.ref a]) F E s := by
  refine Calls.call_function_entry kind_sorted plain_sorted entry_sorted (args_sorted1 _) ?_
  unfold Builtin.«sorted»
  refine wpAny_bind (m := checkCount "sorted" 1 1 _) (wpAny_pure ?_)
  refine wpAny_bind (coll_tup ht ?_ (by rw [sizeLine_eq]; omega))
  refine wpAny_bind (wpAny_newList ?_)
  have e1 : ((s.heap.push (seqObj "list" #[] 0)).update s.heap.objs.size (Obj.mapSeq (· ++ us.toArray))).objs.size = s.heap.objs.size + 1 := by
    rw [Heap.size_update, size_push']
  have e2 : (((s.heap.push (seqObj "list" #[] 0)).update s.heap.objs.size (Obj.mapSeq (· ++ us.toArray))).push (seqObj "list" us.toArray 0)).get? (s.heap.objs.size + 1) = some (seqObj "list" us.toArray 0) := by
    rw [← e1]; exact Heap.get?_push_size _ rfl
  show wpAny _ _ _ _ _ { s with heap := ((s.heap.push (seqObj "list" #[] 0)).update s.heap.objs.size (Obj.mapSeq (· ++ us.toArray))).push (seqObj "list" us.toArray 0) }
  rw [e1]
  refine wpAny_bind (wpAny_holding (wpAny_call_entry slot_list_sort ⟨_, e2, rfl⟩ entry_list_sort (list_sort_treeK strKind_oneLt e2 hS.keysOf (fun v₁ v₂ rest e => keyKind_strs (by rw [← e]; exact hS)) h64 fun st' b1 b2 => ⟨_, rfl, ?_⟩) (args_list_sort _)))
  obtain ⟨ys, g1, g2, g3⟩ := sorted_out_str hS b1 b2
  exact wpAny_pure ⟨_, rfl, q _ ys g1 g2 g3⟩
end
section
variable {X : Cx}
theorem cr_srtT : CallR X (.builtin "sorted") (fun vs H Q => ∃ (a : Addr) (zs : List Str), vs = [V.ref a] ∧ SqT X.K H a (zs.map V.str) ∧ zs.length < 64 ∧ ∀ (ys : List Str) (p : Addr), ys.Perm zs → sortedS ys = true → H p = none → Q (.ref p) (upd H p (.lst (ys.map V.str)))) := by
  intro pins s σ H vs us Q I r h
  obtain ⟨a, zs, rfl, hs, h64, q⟩ := h
  obtain ⟨its, rv, hl, _⟩ := I.tuple hs
  rw [Vals.ref1 r]
  have e0 := rv.length
  rw [List.length_map] at e0
  refine sorted_tupS hl rv.strs (by rw [← e0]; exact h64) fun out ys h1 h2 h3 => ?_
  obtain ⟨ep, e1⟩ := PyProof.Rows.sortedAll_at s.heap its out
  have e2 : (ys.map V.str).length ≤ sizeLine := by rw [List.length_map, h2.length_eq]; exact small64 h64
  exact ⟨.ref _, upd H (s.heap.objs.size + 1) (.lst (ys.map V.str)), I.laid (t' := s.toks) (fun _ _ => PyProof.Rows.sortedAll_old) (Nat.le_succ _) ⟨e2, out.toList, ep, vals_of_strs h1, e1⟩, rfl, q ys _ h2 h3 (I.hok.fresh (Nat.le_succ _))⟩
end
end En
/-! En18: the built-in functions are as bltW says. -/
namespace En
open PySem L2 PyProof.Rows
def bfV : Bf → Option Value
  | .isi => some (.builtin "isinstance")
  | .len => some (.builtin "len")
  | .all => some (.builtin "all")
  | .any => some (.builtin "any")
  | .tup => some (.type "tuple")
  | .lst => some (.type "list")
  | .str => some (.type "str")
  | .int => some (.type "int")
  | .abs => some (.builtin "abs")
  | .min => some (.builtin "min")
  | .max => some (.builtin "max")
  | .sum => some (.builtin "sum")
  | .bool => some (.type "bool")
  | .repr => some (.builtin "repr")
  | .divmod => some (.builtin "divmod")
  | .sorted => some (.builtin "sorted")
  | _ => none
def isOb : List D → Bool
  | .obj _ _ :: _ => true
  | _ => false
/-- what a built-in does, told of values; L: its meaning -/
def rBlt (G : Cfg) (L : List D → (Rv → Prop) → Prop) : List V → Hp → VK → Prop := fun vs H Q => ∃ ds, RBs G.K H ds vs ∧ Tb G H ∧ L ds (fin G H Q)
/-- what is known of own classes -/
structure Own (G : Cfg) (sub : Sub) : Prop where
  cls : ∀ c ∈ sub.own, ∀ a : Tn, PySem.W.kitOne G.K (.type a.nm) (.ref (He.ga G.K c)) = some false
  sub : ∀ c u b, sub.ok c u = some b → SlX.SCls G.K (He.ga G.K c) ∧ SlX.SIsi G.K (He.ga G.K c) ∧ ((∃ n, u = .ty n ∧ PySem.W.kitOne G.K (.ref (He.ga G.K c)) (.type n.nm) = some b) ∨ ∃ c', u = .cls c' ∧ PySem.W.kitOne G.K (.ref (He.ga G.K c)) (.ref (He.ga G.K c')) = some b)
theorem rbs1 {K : PySem.W.Frag} {H : Hp} {x : D} {vs : List V} (h : RBs K H [x] vs) : ∃ v, vs = [v] ∧ RB K H x v := by
  cases h with
  | cons r t =>
    cases t
    exact ⟨_, rfl, r⟩
theorem rbs2 {K : PySem.W.Frag} {H : Hp} {x y : D} {vs : List V} (h : RBs K H [x, y] vs) : ∃ v u, vs = [v, u] ∧ RB K H x v ∧ RB K H y u := by
  cases h with
  | cons r t =>
    cases t with
    | cons r2 t =>
      cases t
      exact ⟨_, _, rfl, r, r2⟩
theorem CallR.imp {X : Cx} {f : Value} {r r' : List V → Hp → VK → Prop} (h : CallR X f r) (w : ∀ vs H Q, r' vs H Q → r vs H Q) : CallR X f r' := fun pins s σ H xs us Q I rv q => h pins s σ H xs us Q I rv (w xs H Q q)
section
variable {X : Cx} {G : Cfg} {sub : Sub} {C : Call}
theorem isi_ok (hK : X.K = G.K) (ow : Own G sub) : CallR X (.builtin "isinstance") (rBlt G fun ds Q => ∃ x u, ds = [x, u] ∧ isiW sub x u fun b => Q (.v (.bl b))) := by
  intro pins s σ H xs us Q I rv ⟨ds, rb, tb, x, u, e, z⟩
  subst e
  obtain ⟨v, w, rfl, rx, ru⟩ := rbs2 rb
  unfold isiW at z
  split at z
  · rename_i c fs _
    obtain ⟨b, e, z⟩ := z
    obtain ⟨h1, h2, h3⟩ := ow.sub _ _ _ e
    have q := fin_same tb z (.bl b)
    cases rx.rd (fun _ z => nomatch z) with
    | obj hs rs =>
      rcases h3 with ⟨n, e, k⟩ | ⟨c', e, k⟩
      · subst e
        cases ru.rd (fun _ z => nomatch z)
        exact SlX.call_isiSl (.type n.nm) pins s σ H _ us Q I rv ⟨_, _, _, _, _, b, rfl, rfl, fun w r => r, hs, by rw [hK]; exact h1, by rw [hK]; exact h2, by rw [hK]; exact k, q⟩
      · subst e
        cases ru.rd (fun _ z => nomatch z)
        exact SlX.call_isiSl (.ref (He.ga G.K c')) pins s σ H _ us Q I rv ⟨_, _, _, _, _, b, rfl, rfl, fun w r => r, hs, by rw [hK]; exact h1, by rw [hK]; exact h2, by rw [hK]; exact k, q⟩
  · rename_i n _
    obtain ⟨a, e, z⟩ := z
    cases ru.rd (fun _ z => nomatch z)
    refine call_isi pins s σ H _ us Q I rv ⟨_, _, _, _, _, rfl, .ty _, by rw [hK]; exact tyX_of rx e, kit_ty (sub_kit a n), fin_same tb z (.bl _)⟩
  · rename_i c _
    obtain ⟨ho, e, z⟩ := z
    obtain ⟨a, e⟩ := Option.isSome_iff_exists.mp e
    cases ru.rd (fun _ z => nomatch z)
    refine call_isi pins s σ H _ us Q I rv ⟨_, _, _, _, _, rfl, .own _, by rw [hK]; exact tyX_of rx e, by rw [hK]; exact ow.cls c ho a, fin_same tb z (.bl _)⟩
  · exact z.elim
theorem len_ok (hK : X.K = G.K) : CallR X (.builtin "len") (rBlt G fun ds Q => ∃ x, ds = [x] ∧ lenW x fun n => Q (.v (.int n))) := by
  refine CallR.imp call_len fun vs H Q ⟨ds, rb, tb, x, e, z⟩ => ?_
  subst e
  obtain ⟨v, rfl, rx⟩ := rbs1 rb
  unfold lenW at z
  split at z
  · obtain ⟨p, us, e, hq, rs⟩ := rx.lst
    subst e
    rw [rs.length] at z
    exact ⟨_, us.length, rfl, .inl ⟨us, by rw [hK]; exact hq, rfl⟩, fin_same tb z (.int _)⟩
  · obtain ⟨p, us, e, hq, rs⟩ := rx.tup
    subst e
    rw [rs.length] at z
    exact ⟨_, us.length, rfl, .inr ⟨us, by rw [hK]; exact hq, rfl⟩, fin_same tb z (.int _)⟩
  · rename_i y
    cases rx.str
    exact ⟨_, y.length, rfl, ⟨z.1, rfl⟩, fin_same tb z.2 (.int _)⟩
  · exact z.elim
theorem all_ok (hK : X.K = G.K) (hc : X.calm = true) : CallR X (.builtin "all") (rBlt G fun ds Q => ∃ xs bs, ds = [.lst xs] ∧ unBl xs = some bs ∧ Q (.v (.bl (bs.all id)))) := by
  refine CallR.imp (cr_all hc) fun vs H Q ⟨ds, rb, tb, xs, bs, e, eb, z⟩ => ?_
  subst e
  obtain ⟨v, rfl, rx⟩ := rbs1 rb
  obtain ⟨p, us, e, hq, rs⟩ := rx.lst
  subst e
  rw [unBl_ok eb rs] at hq
  exact ⟨p, bs, rfl, by rw [hK]; exact hq, fin_same tb z (.bl _)⟩
theorem any_ok (hK : X.K = G.K) (hc : X.calm = true) : CallR X (.builtin "any") (rBlt G fun ds Q => ∃ xs bs, ds = [.lst xs] ∧ unBl xs = some bs ∧ Q (.v (.bl (bs.any id)))) := by
  refine CallR.imp (cr_any hc) fun vs H Q ⟨ds, rb, tb, xs, bs, e, eb, z⟩ => ?_
  subst e
  obtain ⟨v, rfl, rx⟩ := rbs1 rb
  obtain ⟨p, us, e, hq, rs⟩ := rx.lst
  subst e
  rw [unBl_ok eb rs] at hq
  exact ⟨p, bs, rfl, by rw [hK]; exact hq, fin_same tb z (.bl _)⟩
theorem sum_ok (hK : X.K = G.K) (hc : X.calm = true) : CallR X (.builtin "sum") (rBlt G fun ds Q => ∃ xs ns, ds = [.lst xs] ∧ unInt xs = some ns ∧ Q (.v (.int ns.sum))) := by
  refine CallR.imp (cr_sum hc) fun vs H Q ⟨ds, rb, tb, xs, bs, e, eb, z⟩ => ?_
  subst e
  obtain ⟨v, rfl, rx⟩ := rbs1 rb
  obtain ⟨p, us, e, hq, rs⟩ := rx.lst
  subst e
  rw [unInt_ok eb rs] at hq
  exact ⟨p, bs, rfl, by rw [hK]; exact hq, fin_same tb z (.int _)⟩
theorem tup_ok (hK : X.K = G.K) : CallR X (.type "tuple") (rBlt G fun ds Q => ∃ xs, (ds = [.lst xs] ∨ ds = [.tup xs]) ∧ Q (.v (.tup xs))) := by
  refine CallR.imp call_tuple_of fun vs H Q ⟨ds, rb, tb, xs, e, z⟩ => ?_
  rcases e with e | e
  · subst e
    obtain ⟨v, rfl, rx⟩ := rbs1 rb
    obtain ⟨p, us, e, hq, rs⟩ := rx.lst
    subst e
    exact ⟨p, us, rfl, .inl ⟨by rw [hK]; exact hq, fun l hl => fin_tup tb z rs l hl⟩⟩
  · subst e
    obtain ⟨v, rfl, rx⟩ := rbs1 rb
    have rx' := rx.rd (fun _ z => nomatch z)
    obtain ⟨p, us, e, hq, rs⟩ := rx.tup
    subst e
    exact ⟨p, us, rfl, .inr ⟨by rw [hK]; exact hq, fin_same tb z rx'⟩⟩
theorem lst_ok (hK : X.K = G.K) : CallR X (.type "list") (rBlt G fun ds Q => ∃ xs, (ds = [.lst xs] ∨ ds = [.tup xs]) ∧ Q (.fr xs)) := by
  refine CallR.imp call_list_of fun vs H Q ⟨ds, rb, tb, xs, e, z⟩ => ?_
  rcases e with e | e
  · subst e
    obtain ⟨v, rfl, rx⟩ := rbs1 rb
    obtain ⟨p, us, e, hq, rs⟩ := rx.lst
    subst e
    exact ⟨p, us, rfl, .inl (by rw [hK]; exact hq), fun l hl => fin_fr tb z rs l hl⟩
  · subst e
    obtain ⟨v, rfl, rx⟩ := rbs1 rb
    obtain ⟨p, us, e, hq, rs⟩ := rx.tup
    subst e
    exact ⟨p, us, rfl, .inr (by rw [hK]; exact hq), fun l hl => fin_fr tb z rs l hl⟩
theorem str_ok : CallR X (.type "str") (rBlt G fun ds Q => (∃ i : Int, ds = [.int i] ∧ i.natAbs.log2 < 1920 ∧ Q (.v (.str (toString i)))) ∨ ∃ x, ds = [.str x] ∧ Q (.v (.str x))) := by
  refine CallR.imp (CallR.or call_str_int SkE.call_str_str) fun vs H Q ⟨ds, rb, tb, z⟩ => ?_
  rcases z with ⟨i, e, h, z⟩ | ⟨x, e, z⟩
  · subst e
    obtain ⟨v, rfl, rx⟩ := rbs1 rb
    cases rx.int
    exact .inl ⟨i, rfl, h, fin_same tb z (.str _)⟩
  · subst e
    obtain ⟨v, rfl, rx⟩ := rbs1 rb
    cases rx.str
    exact .inr ⟨x, rfl, fin_same tb z (.str _)⟩
theorem int_ok : CallR X (.type "int") (rBlt G fun ds Q => (∃ i : Int, ds = [.int i] ∧ Q (.v (.int i))) ∨ (∃ b, ds = [.bl b] ∧ Q (.v (.int (if b then 1 else 0)))) ∨ ∃ a n, ds = [.str a] ∧ PySem.intText? a = some n ∧ a.length ≤ 640 ∧ Q (.v (.int n))) := by
  refine CallR.imp (CallR.or call_int1 call_int_str) fun vs H Q ⟨ds, rb, tb, z⟩ => ?_
  rcases z with ⟨i, e, z⟩ | ⟨b, e, z⟩ | ⟨a, n, e, h1, h2, z⟩
  · subst e
    obtain ⟨v, rfl, rx⟩ := rbs1 rb
    cases rx.int
    exact .inl (.inl ⟨i, rfl, fin_same tb z (.int _)⟩)
  · subst e
    obtain ⟨v, rfl, rx⟩ := rbs1 rb
    cases rx.bl
    exact .inl (.inr ⟨b, rfl, fin_same tb z (.int _)⟩)
  · subst e
    obtain ⟨v, rfl, rx⟩ := rbs1 rb
    cases rx.str
    exact .inr ⟨a, n, rfl, h1, h2, fin_same tb z (.int _)⟩
theorem bool_ok : CallR X (.type "bool") (rBlt G fun ds Q => (∃ i : Int, ds = [.int i] ∧ Q (.v (.bl (i != 0)))) ∨ ∃ b, ds = [.bl b] ∧ Q (.v (.bl b))) := by
  refine CallR.imp call_bool1 fun vs H Q ⟨ds, rb, tb, z⟩ => ?_
  rcases z with ⟨i, e, z⟩ | ⟨b, e, z⟩
  · subst e
    obtain ⟨v, rfl, rx⟩ := rbs1 rb
    cases rx.int
    exact .inl ⟨i, rfl, fin_same tb z (.bl _)⟩
  · subst e
    obtain ⟨v, rfl, rx⟩ := rbs1 rb
    cases rx.bl
    exact .inr ⟨b, rfl, fin_same tb z (.bl _)⟩
theorem abs_ok : CallR X (.builtin "abs") (rBlt G fun ds Q => ∃ i : Int, ds = [.int i] ∧ Q (.v (.int (if i < 0 then -i else i)))) := by
  refine CallR.imp call_abs fun vs H Q ⟨ds, rb, tb, i, e, z⟩ => ?_
  subst e
  obtain ⟨v, rfl, rx⟩ := rbs1 rb
  cases rx.int
  exact ⟨i, rfl, fin_same tb z (.int _)⟩
theorem min_ok (hc : X.calm = true) : CallR X (.builtin "min") (rBlt G fun ds Q => ∃ i j : Int, ds = [.int i, .int j] ∧ Q (.v (.int (if j < i then j else i)))) := by
  refine CallR.imp (call_min2 hc) fun vs H Q ⟨ds, rb, tb, i, j, e, z⟩ => ?_
  subst e
  obtain ⟨v, w, rfl, rx, ry⟩ := rbs2 rb
  cases rx.int
  cases ry.int
  exact ⟨i, j, rfl, fin_same tb z (.int _)⟩
theorem max_ok (hc : X.calm = true) : CallR X (.builtin "max") (rBlt G fun ds Q => ∃ i j : Int, ds = [.int i, .int j] ∧ Q (.v (.int (if j > i then j else i)))) := by
  refine CallR.imp (call_max2 hc) fun vs H Q ⟨ds, rb, tb, i, j, e, z⟩ => ?_
  subst e
  obtain ⟨v, w, rfl, rx, ry⟩ := rbs2 rb
  cases rx.int
  cases ry.int
  exact ⟨i, j, rfl, fin_same tb z (.int _)⟩
theorem dvm_ok : CallR X (.builtin "divmod") (rBlt G fun ds Q => ∃ i j : Int, ds = [.int i, .int j] ∧ CDiv i j ∧ Q (.v (.tup [.int (i / j), .int (i % j)]))) := by
  refine CallR.imp call_divmod fun vs H Q ⟨ds, rb, tb, i, j, e, hd, z⟩ => ?_
  subst e
  obtain ⟨v, w, rfl, rx, ry⟩ := rbs2 rb
  cases rx.int
  cases ry.int
  exact ⟨i, j, rfl, hd, fun p hp => fin_tup tb z (.cons (.int _) (.cons (.int _) .nil)) p hp⟩
mutual
theorem toPy_noDict : ∀ d : D, isDat d = true → (toPy d).hasDict = false
  | .non, _ => by simp only [toPy, PyData.hasDict]
  | .bl _, _ => by simp only [toPy, PyData.hasDict]
  | .int _, _ => by simp only [toPy, PyData.hasDict]
  | .str _, _ => by simp only [toPy, PyData.hasDict]
  | .tup xs, h => by
    simp only [toPy, PyData.hasDict]
    unfold isDat at h
    exact toPys_noDict xs h
  | .lst xs, h => by
    simp only [toPy, PyData.hasDict]
    unfold isDat at h
    exact toPys_noDict xs h
theorem toPys_noDict : ∀ d : List D, isDats d = true → PyData.hasDictAll (toPys d) = false
  | [], _ => by simp only [toPys, PyData.hasDictAll]
  | x :: r, h => by
    unfold isDats at h
    have h := Bool.and_eq_true_iff.mp h
    simp only [toPys, PyData.hasDictAll, toPy_noDict x h.1, toPys_noDict r h.2]
    rfl
end
/-- the rows of a dict of flat data are read -/
theorem dic_reads {P : Program} {w : World} {K : PySem.W.Frag} {H : Hp} {h : Heap} : ∀ {es : List DictEntry} {qs : List (Key × Value)} {kvs : List (Key × D)} {xs : List V}, Pairs (mixKind P w) es qs → KV ((kvs.map (·.1)).zip xs) qs → xs.length = kvs.length → RDs K H (kvs.map (·.2)) xs → dicOk kvs = true →
    ReadsAll h (es.map (·.key)) ((kvs.map fun e => (keyPy e.1, flatPy e.2)).map (·.1)) [] ∧ ReadsAll h (es.map (·.val)) ((kvs.map fun e => (keyPy e.1, flatPy e.2)).map (·.2)) []
  | _, _, [], xs, p, kv, l, r, _ => by
    cases r
    cases kv
    cases p
    exact ⟨.nil, .nil⟩
  | _, _, (k, d) :: kvs, xs, p, kv, l, r, ok => by
    cases r with
    | cons r1 r2 =>
      rename_i v vs
      replace kv : KV ((k, v) :: (kvs.map (·.1)).zip vs) _ := kv
      cases kv with
      | cons hq kv2 =>
        rename_i q qs
        cases p with
        | cons p1 p2 p3 =>
          rename_i e es
          have ok2 : dicOk kvs = true := by
            cases d <;> first
              | exact ok
              | cases ok
          obtain ⟨a1, a2⟩ := dic_reads (h := h) p3 kv2 (by simpa using l) r2 ok2
          have hk : Reads h e.key (keyPy k) [] := by
            have p1 : keyIs q.1 e.key = true := p1
            rw [← hq.1] at p1
            rcases keyIs_shape p1 with ⟨i, t, e1, e2⟩ | ⟨x, t, e1, e2⟩
            · have e1 : k = .inl i := e1
              subst e1
              rw [e2]
              exact .int _ _
            · have e1 : k = .inr x := e1
              subst e1
              rw [e2]
              exact .str _ _
          have hv : Reads h e.val (flatPy d) [] := by
            rw [p2]
            have hr : RelV v q.2 := hq.2
            cases d with
            | int i =>
              cases r1
              obtain ⟨t, e⟩ := (show ∃ t, q.2 = Value.int i t from hr)
              rw [e]
              exact .int _ _
            | str i =>
              cases r1
              obtain ⟨t, e⟩ := (show ∃ t, q.2 = Value.str i t from hr)
              rw [e]
              exact .str _ _
            | _ => cases ok
          exact ⟨.cons (as := []) hk a1, .cons (as := []) hv a2⟩
theorem repr_ok (hK : X.K = G.K) (hu : X.A.units + 64 < cLine) (hg : X.A.guards = some []) : CallR X (.builtin "repr") (rBlt G fun ds Q => ∃ x, ds = [x] ∧ isShw x = true ∧ (toPy x).showable = true ∧ (toPy x).depth ≤ 60 ∧ (toPy x).shown.length ≤ sizeLine ∧ Q (.v (.str (toPy x).shown))) := by
  intro pins s σ H xs us Q I rv ⟨ds, rb, tb, x, e, h1, h2, h3, h4, z⟩
  subst e
  obtain ⟨v, rfl, rx⟩ := rbs1 rb
  obtain ⟨u, rfl, ru⟩ := rv.one
  have q := fin_same tb z (.str _)
  have rdo : isDat x = true → ∃ as, Reads s.heap u (toPy x) as := fun h => Dp.reads I (toPy x) v u (by rw [hK]; exact rx.dp h) ru
  have fin : ∀ (h' : Heap) (t tk : Nat), (∀ b o, s.heap.get? b = some o → h'.get? b = some o) → EP X pins σ Q (.str (toPy x).shown t) { s with heap := h', toks := tk } :=
    fun h' t tk hk => ⟨.str _, H, I.kept (t' := tk) fun b o e => hk b o e, ⟨t, rfl⟩, q⟩
  have flat : ∀ {y : Str}, (toPy x).shown = y → ∀ t tk, EP X pins σ Q (.str y t) { s with toks := tk } := fun e t tk => by
    subst e
    exact fin s.heap t tk fun _ _ e => e
  cases x with
  | non =>
    cases rx.rd (fun _ z => nomatch z)
    cases (show u = Value.none from ru)
    exact PySem.P.repr_of_none (flat rfl _ _)
  | bl b =>
    cases rx.bl
    cases (show u = Value.bool b from ru)
    exact PySem.P.repr_of_bool (flat rfl _ _)
  | int i =>
    cases rx.int
    obtain ⟨t, rfl⟩ := (show ∃ t, u = Value.int i t from ru)
    exact PySem.P.repr_of_int (by simpa [toPy, PyData.showable] using h2) (flat rfl _ _)
  | str y =>
    cases rx.str
    obtain ⟨t, rfl⟩ := (show ∃ t, u = Value.str y t from ru)
    exact PySem.P.repr_of_str (flat rfl _ _) h4
  | tup ys =>
    obtain ⟨p, ws, rfl, _, _⟩ := rx.tup
    cases (show u = Value.ref p from ru)
    obtain ⟨as, rd⟩ := rdo h1
    exact repr_of_reads' rd h2 (PyData.noDict_hsm (toPy_noDict _ h1)) hg (by omega) (fun _ _ e => e) (fun h' t tk hk => fin h' t tk hk) h4
  | lst ys =>
    obtain ⟨p, ws, rfl, _, _⟩ := rx.lst
    cases (show u = Value.ref p from ru)
    obtain ⟨as, rd⟩ := rdo h1
    exact repr_of_reads' rd h2 (PyData.noDict_hsm (toPy_noDict _ h1)) hg (by omega) (fun _ _ e => e) (fun h' t tk hk => fin h' t tk hk) h4
  | dic kvs =>
    have r0 := rx.rd (fun _ z => nomatch z)
    cases r0 with
    | dic ha hl hr =>
      cases ru
      obtain ⟨_, _, hm, qs, kv, o', es, ep, e1, e2, e3, _, e4, _⟩ := I.hok _ _ ha
      obtain ⟨a1, a2⟩ := dic_reads (h := s.heap) e4 kv hl hr h1
      have rd : Reads s.heap _ (toPy (.dic kvs)) _ := .dict e1 e2.1 e3 a1 a2
      refine repr_of_reads' rd h2 (fun _ => ?_) hg (by omega) (fun _ _ e => e) (fun h' t tk hk => fin h' t tk hk) h4
      simp only [List.append_nil, List.mem_singleton]
      intro z
      rw [← z] at hm
      simp at hm
  | _ => cases h1
theorem srt_ok (hK : X.K = G.K) : CallR X (.builtin "sorted") (rBlt G fun ds Q => ∃ xs ys, ds = [.tup xs] ∧ unStr xs = some ys ∧ ys.length < 64 ∧ ∀ zs : List Str, zs.Perm ys → sortedS zs = true → Q (.fr (zs.map D.str))) := by
  refine CallR.imp cr_srtT fun vs H Q ⟨ds, rb, tb, xs, ys, e, eb, h64, z⟩ => ?_
  subst e
  obtain ⟨v, rfl, rx⟩ := rbs1 rb
  obtain ⟨p, us, e, hq, rs⟩ := rx.tup
  subst e
  rw [unStr_ok eb rs] at hq
  refine ⟨p, ys, rfl, by rw [hK]; exact hq, h64, fun zs q h1 h2 hn => fin_fr tb (z zs h1 h2) ?_ q hn⟩
  clear z h1 h2
  induction zs with
  | nil => exact .nil
  | cons a r ih => exact .cons (.str a) ih
/-- all of them; ob: the same for own objects -/
theorem blt_ok (hK : X.K = G.K) (hc : X.calm = true) (hu : X.A.units + 64 < cLine) (ow : Own G sub) {b : Bf} (hg : b = .repr → X.A.guards = some []) {f : Value} (hf : bfV b = some f)
    (ob : CallR X f (rBlt G fun ds Q => isOb ds = true ∧ b ≠ .isi ∧ bltW sub C b ds Q)) : CallR X f (rBlt G (bltW sub C b)) := by
  intro pins s σ H vs us Q I rv ⟨ds, rb, tb, z⟩
  cases hob : (isOb ds && decide (b ≠ .isi)) with
  | true =>
    simp only [Bool.and_eq_true, decide_eq_true_eq] at hob
    exact ob pins s σ H vs us Q I rv ⟨ds, rb, tb, hob.1, hob.2, z⟩
  | false =>
    have no : ∀ c fs r, ds = .obj c fs :: r → b = .isi := fun c fs r e => by
      subst e
      cases b <;> first
        | rfl
        | (simp [isOb] at hob)
    unfold bltW at z
    split at z
    case h_1 => cases hf; exact isi_ok hK ow pins s σ H vs us Q I rv ⟨_, rb, tb, _, _, rfl, z⟩
    case h_2 => exact absurd (no _ _ _ rfl) (fun z => nomatch z)
    case h_3 => cases hf; exact len_ok hK pins s σ H vs us Q I rv ⟨_, rb, tb, _, rfl, z⟩
    case h_4 => cases hf; obtain ⟨bs, e, z⟩ := z; exact all_ok hK hc pins s σ H vs us Q I rv ⟨_, rb, tb, _, bs, rfl, e, z⟩
    case h_5 => cases hf; obtain ⟨bs, e, z⟩ := z; exact any_ok hK hc pins s σ H vs us Q I rv ⟨_, rb, tb, _, bs, rfl, e, z⟩
    case h_6 => cases hf; exact tup_ok hK pins s σ H vs us Q I rv ⟨_, rb, tb, _, .inl rfl, z⟩
    case h_7 => cases hf; exact tup_ok hK pins s σ H vs us Q I rv ⟨_, rb, tb, _, .inr rfl, z⟩
    case h_8 => cases hf; exact lst_ok hK pins s σ H vs us Q I rv ⟨_, rb, tb, _, .inl rfl, z⟩
    case h_9 => cases hf; exact lst_ok hK pins s σ H vs us Q I rv ⟨_, rb, tb, _, .inr rfl, z⟩
    case h_10 => exact absurd (no _ _ _ rfl) (fun z => nomatch z)
    case h_11 => cases hf; exact str_ok pins s σ H vs us Q I rv ⟨_, rb, tb, .inl ⟨_, rfl, z.1, z.2⟩⟩
    case h_12 => cases hf; exact str_ok pins s σ H vs us Q I rv ⟨_, rb, tb, .inr ⟨_, rfl, z⟩⟩
    case h_13 => cases hf; exact int_ok pins s σ H vs us Q I rv ⟨_, rb, tb, .inl ⟨_, rfl, z⟩⟩
    case h_14 => cases hf; exact int_ok pins s σ H vs us Q I rv ⟨_, rb, tb, .inr (.inl ⟨_, rfl, z⟩)⟩
    case h_15 => cases hf; obtain ⟨n, h1, h2, z⟩ := z; exact int_ok pins s σ H vs us Q I rv ⟨_, rb, tb, .inr (.inr ⟨_, n, rfl, h1, h2, z⟩)⟩
    case h_16 => cases hf; exact abs_ok pins s σ H vs us Q I rv ⟨_, rb, tb, _, rfl, z⟩
    case h_17 => cases hf; exact min_ok hc pins s σ H vs us Q I rv ⟨_, rb, tb, _, _, rfl, z⟩
    case h_18 => cases hf; exact max_ok hc pins s σ H vs us Q I rv ⟨_, rb, tb, _, _, rfl, z⟩
    case h_19 => cases hf; obtain ⟨ns, e, z⟩ := z; exact sum_ok hK hc pins s σ H vs us Q I rv ⟨_, rb, tb, _, ns, rfl, e, z⟩
    case h_20 => cases hf; exact dvm_ok pins s σ H vs us Q I rv ⟨_, rb, tb, _, _, rfl, z.1, z.2⟩
    case h_21 => cases hf; exact bool_ok pins s σ H vs us Q I rv ⟨_, rb, tb, .inl ⟨_, rfl, z⟩⟩
    case h_22 => cases hf; exact bool_ok pins s σ H vs us Q I rv ⟨_, rb, tb, .inr ⟨_, rfl, z⟩⟩
    case h_23 => exact absurd (no _ _ _ rfl) (fun z => nomatch z)
    case h_24 => exact absurd (no _ _ _ rfl) (fun z => nomatch z)
    case h_25 => cases hf; exact repr_ok hK hu (hg rfl) pins s σ H vs us Q I rv ⟨_, rb, tb, _, rfl, z.1, z.2.1, z.2.2.1, z.2.2.2.1, z.2.2.2.2⟩
    case h_26 => cases hf; obtain ⟨ys, e1, e2, z⟩ := z; exact srt_ok hK pins s σ H vs us Q I rv ⟨_, rb, tb, _, ys, rfl, e1, e2, z⟩
    case h_27 => exact z.elim
end
end En
/-! En19: calls of built-ins and of methods of built-in types, in the text. -/
namespace En
open PySem L2 PyProof.Rows
section
variable {X : Cx} {G : Cfg} {sub : Sub} {C : Call} {W : WX}
theorem blt_call (hL : G.B = libW sub) (hC : MonoC C) {b : Bf} {bv : Value} {f : Str} {args : List Expr} {is : Exs} {p pos : Pos} (hb : bfV b = some bv) (hv : bootBuiltins f = some bv) (hm : X.mg f = none) (hg : Gl X f) (ho : odd f = false) (hne : args ≠ []) (hst : ∀ e ∈ args, isStar e = false)
    (hc : CallR X bv (rBlt G (bltW sub C b))) (ha : PA X args (rdAS G C W is)) : PE X (.Call (.Name f p) args [] pos) (rdR G C W (.blt b is)) := by
  have hB : G.B.Mono := by rw [hL]; exact libW_mono sub
  obtain ⟨o1, o2, o3⟩ := odd_cases ho
  cases args with
  | nil => exact absurd rfl hne
  | cons e es =>
    have h1 := starEach_cons (env := X.env) (es := es) (hst e List.mem_cons_self)
    have h2 := noStars (env := X.env) (pos := pos) fun x hx => hst x (List.mem_cons_of_mem e hx)
    have key : ∀ σ H Q, rdR G C W (.blt b is) σ H Q → tCB (rBlt G (bltW sub C b)) (rdAS G C W is) σ H Q := fun σ H Q ⟨r, re, tb, z⟩ => by
      refine as_bind hB hC re tb (LamX.ExtN.refl H) z fun ds vs H1 rs x1 t1 f => ⟨ds, rs, t1, ?_⟩
      have f : G.B.blt C b ds (fun x => ∀ v H', RR G.K H H' x v → ExN H H' → Tb G H' → Q v H') (exq G W σ H) := f
      rw [hL] at f
      have f : bltW sub C b ds (fun x => ∀ v H', RR G.K H H' x v → ExN H H' → Tb G H' → Q v H') := f
      have mo := (libW_mono sub).blt C hC b ds _ (fin G H1 Q) E0 E0 (fun x z => fin.ext x1 z) (fun _ _ z => z) f
      exact mo
    cases b <;> first
      | (cases hb; exact PE.imp (pe_callB hc hg hm hv ha o3 o1 h1 h2) key)
      | (cases hb; exact PE.imp (pe_callTy hc hg hm hv ha o3 o1 h1 h2) key)
      | cases hb
def mfS : Mf → Str
  | .join => "join"
  | .split => "split"
  | .count => "count"
  | _ => ""
theorem mth_call (hL : G.B = libW sub) (hC : MonoC C) (hK : X.K = G.K) {b : Mf} {m : Str} {o : Expr} {io : Ex} {args : List Expr} {is : Exs} {ap cp : Pos} (hm : m = mfS b) (hmb : mfS b ≠ "") (hl : (ap.endLine == cp.line) = true) (hne : args ≠ []) (hst : ∀ e ∈ args, isStar e = false) (hlen : args.length < 20)
    (hpo : PE X o (rdS G C W io)) (ha : PA X args (rdAS G C W is)) (hsup : isSup o = false) : PE X (.Call (.Attribute o m ap) args [] cp) (rdR G C W (.mth b io is)) := by
  have hB : G.B.Mono := by rw [hL]; exact libW_mono sub
  cases args with
  | nil => exact absurd rfl hne
  | cons e es =>
    have h1 := starEach_cons (env := X.env) (es := es) (hst e List.mem_cons_self)
    have h2 := noStars (env := X.env) (pos := cp) fun x hx => hst x (List.mem_cons_of_mem e hx)
    have hfew : ((backTo cp (starEach (e :: es) X.env)).all (fun x => !x.1) && (backToKw cp (keywordEach [] X.env)).all (fun x => x.1.isSome)
      && decide ((e :: es).length + ([] : List Keyword).length + (if ([] : List Keyword).isEmpty then 0 else 1) < 30)) = true := by
      have h3 := noStars (env := X.env) (pos := cp) hst
      have h4 : (backTo cp (starEach (e :: es) X.env)).all (fun x => !x.1) = true := by
        rw [List.all_eq_true]
        intro x hx
        have := List.any_eq_false.mp h3 x hx
        simpa using this
      rw [h4]
      have h5 : (e :: es).length + 0 + 0 < 30 := by omega
      have h6 : decide ((e :: es).length + ([] : List Keyword).length + (if ([] : List Keyword).isEmpty then 0 else 1) < 30) = true := decide_eq_true h5
      rw [h6]
      rfl
    have bind : ∀ {T : String} {r : V → List V → Hp → VK → Prop}, (∀ (x : D) (v : V) (H : Hp), mtyW b x = true → RB G.K H x v → tyV X.K T v H) → (∀ x xs v vs H Q, RB G.K H x v → RBs G.K H xs vs → Tb G H → mthW b x xs (fin G H Q) → r v vs H Q) →
        ∀ σ H Q, rdR G C W (.mth b io is) σ H Q → tBM X.K T r (rdS G C W io) (rdAS G C W is) σ H Q := fun {T r} ht hr σ H Q ⟨r', re, tb, z⟩ => by
      refine s_bind hB hC re tb (LamX.ExtN.refl H) z fun x v H1 rx x1 t1 ⟨zt, z1⟩ => ?_
      rw [hL] at zt
      refine ⟨ht x v H1 zt rx, as_bind hB hC (re.ext x1) t1 x1 z1 fun ds vs H2 rs x2 t2 f => ?_⟩
      have f : G.B.mth b x ds (fun x => ∀ v H', RR G.K H H' x v → ExN H H' → Tb G H' → Q v H') := f
      rw [hL] at f
      have f : mthW b x ds (fun x => ∀ v H', RR G.K H H' x v → ExN H H' → Tb G H' → Q v H') := f
      exact hr x ds v vs H2 Q (rx.ext x2) rs t2 ((libW_mono sub).mth b x ds _ (fin G H2 Q) (fun x z => fin.ext (x1.trans x2) z) f)
    have hbase : attributeBase o m X.env (eval o X.env) = eval o X.env := attrBase_ok hsup
    have tyS : ∀ {x : D} {v : V} {H : Hp} {a : Str}, x = .str a → RB G.K H x v → tyV X.K "str" v H := fun {x v H a} e rx => by
      subst e
      cases rx.str
      rfl
    cases b with
    | join =>
      subst hm
      refine PE.imp (pe_bm PySem.F.plainAttrs_str PySem.F.slot_str_join PySem.F.type_str_join mt_join hpo ha hbase hfew hl h1 h2) (bind (fun x v H ht rx => ?_) fun x xs v vs H Q rx rs tb z => ?_)
      · cases x <;> first
          | exact tyS rfl rx
          | cases ht
      · have z : joinW x xs (fin G H Q) := z
        unfold joinW at z
        split at z
        · obtain ⟨ys, e, hz, z⟩ := z
          cases rx.str
          obtain ⟨v, rfl, r1⟩ := rbs1 rs
          obtain ⟨p, us, e1, hq, rd⟩ := r1.lst
          subst e1
          rw [unStr_ok e rd] at hq
          exact ⟨_, p, ys, rfl, rfl, .inl (by rw [hK]; exact hq), hz, fin_same tb z (.str _)⟩
        · obtain ⟨ys, e, hz, z⟩ := z
          cases rx.str
          obtain ⟨v, rfl, r1⟩ := rbs1 rs
          obtain ⟨p, us, e1, hq, rd⟩ := r1.tup
          subst e1
          rw [unStr_ok e rd] at hq
          exact ⟨_, p, ys, rfl, rfl, .inr (by rw [hK]; exact hq), hz, fin_same tb z (.str _)⟩
        · exact z.elim
    | split =>
      subst hm
      refine PE.imp (pe_bm PySem.F.plainAttrs_str PySem.F.slot_str_split PySem.F.type_str_split mt_split hpo ha hbase hfew hl h1 h2) (bind (fun x v H ht rx => ?_) fun x xs v vs H Q rx rs tb z => ?_)
      · cases x <;> first
          | exact tyS rfl rx
          | cases ht
      · have z : splitW x xs (fin G H Q) := z
        unfold splitW at z
        split at z
        · obtain ⟨h1, h2, z⟩ := z
          cases rx.str
          obtain ⟨v, rfl, r1⟩ := rbs1 rs
          cases r1.str
          exact ⟨_, _, rfl, rfl, h1, h2, fun p hp => fin_fr tb z (strs_rd _) p hp⟩
        · exact z.elim
    | count =>
      subst hm
      refine PE.imp (pe_bm PySem.F.plainAttrs_list PySem.F.slot_list_count PySem.F.type_list_count mt_lcount hpo ha hbase hfew hl h1 h2) (bind (fun x v H ht rx => ?_) fun x xs v vs H Q rx rs tb z => ?_)
      · cases x <;> first
          | (obtain ⟨p, us, e1, hq, rd⟩ := rx.lst; subst e1; exact .inl ⟨rfl, us, by rw [hK]; exact hq⟩)
          | cases ht
      · have z : countW x xs (fin G H Q) := z
        unfold countW at z
        split at z
        · obtain ⟨ns, e, z⟩ := z
          obtain ⟨p, us, e1, hq, rd⟩ := rx.lst
          subst e1
          obtain ⟨v, rfl, r1⟩ := rbs1 rs
          cases r1.int
          rw [unInt_ok e rd] at hq
          exact ⟨p, ns, _, rfl, rfl, by rw [hK]; exact hq, fin_same tb z (.int _)⟩
        · exact z.elim
    | _ => exact absurd rfl hmb
end
end En
/-! En20: all defs, level by level; global names; own objects. -/
namespace En
open PySem L2 PyProof.Rows
/-- a def of the text, by where its function object stands; no defaults -/
structure Df where
  ad : PySem.W.Frag → Addr
  name : Str
  qual : Str
  params : Arguments
  body : List Stmt
  scope : Scope
def Df.obs (K : PySem.W.Frag) (d : Df) : He.FnW := match K.lookup (d.ad K) with
  | some ⟨_, _, .func fd, _⟩ => some (fd.name, fd.qualname, fd.params, fd.body, fd.scope, fd.globals, fd.closure, fd.builtins)
  | _ => none
def Df.val (d : Df) : He.FnW := some (d.name, d.qual, d.params, .stmts d.body, d.scope, mainGlobals, [], builtinsNs)
def Df.ok (K : PySem.W.Frag) (d : Df) : Bool := PySem.W.keepIn K (.ref (d.ad K)) && (match K.lookup (d.ad K) with
  | some ⟨_, _, .func fd, _⟩ => PySem.W.codeIn K fd.code d.qual && (He.dflB K fd.defaults [] && He.kwdB K fd.kwdefaults [])
  | _ => false)
abbrev Df.FunD (K : PySem.W.Frag) (d : Df) (fd : FuncData) : Prop := L2.FunD K d.name d.qual d.params d.body d.scope [] [] (d.ad K) fd
theorem Df.funD {K : PySem.W.Frag} {d : Df} (e : d.obs K = d.val) (c : d.ok K = true) : ∃ fd, d.FunD K fd := by
  obtain ⟨kp, c2⟩ := He.ba c
  unfold Df.obs at e
  cases q : K.lookup (d.ad K) with
  | none =>
    rw [q] at c2
    cases c2
  | some o =>
    obtain ⟨oc, od, dt, osl⟩ := o
    rw [q] at c2 e
    cases dt with
    | func fd =>
      obtain ⟨n1, n2, n3, n4, n5, n6, n7, n8, n9, n10, n11, n12, n13, n14, n15⟩ := fd
      have e2 : (some (n1, n2, n3, n4, n5, n6, n7, n15) : He.FnW) = some (d.name, d.qual, d.params, .stmts d.body, d.scope, mainGlobals, [], builtinsNs) := e
      simp only [Option.some.injEq, Prod.mk.injEq] at e2
      obtain ⟨h1, h2, h3, h4, h5, h6, h7, h8⟩ := e2
      subst h1 h2 h3 h4 h5 h6 h7 h8
      have c3 : (PySem.W.codeIn K n13 d.qual && (He.dflB K n8 [] && He.kwdB K n9 [])) = true := c2
      obtain ⟨k1, k2⟩ := He.ba c3
      obtain ⟨k3, k4⟩ := He.ba k2
      exact ⟨_, ⟨oc, od, n8, n9, n10, n11, n12, n13, n14, osl, rfl, q, k1, He.dflB_ok k3, He.kwdB_ok k4⟩, kp⟩
    | _ => cases c2
/-- a def that is compiled -/
structure Fe where
  d : Df
  nm : Str
  ps : List Str
  N : List Str
  mu : List Str
  b : Sms
def Fe.fn (e : Fe) : Fn := ⟨e.ps.length, e.N.length, e.b⟩
structure FeOk (G : Cfg) (g : Gi) (e : Fe) (fd : FuncData) : Prop where
  F : e.d.FunD G.K fd
  S : FnScope e.N e.ps e.d.scope
  c : compSs g e.N e.mu 60 e.d.scope e.d.body = some e.b
section
variable {p : Pg} {G : Cfg} {g : Gi} {fs : List (Str × Fn)} {prim : Call → Call}
theorem callW_prim {k : Nat} {f : Str} {ds : List D} {Q : Rv → Prop} {E : XP} (hf : fs.lookup f = none) (z : callW G.B fs prim k f ds Q E) : ∃ j, k = j + 1 ∧ prim (callW G.B fs prim j) f ds Q E := by
  cases k with
  | zero => exact z.elim
  | succ j =>
    unfold callW at z
    rw [hf] at z
    exact ⟨j, rfl, z⟩
theorem callW_len {k : Nat} {f : Str} {F : Fn} {ds : List D} {Q : Rv → Prop} {E : XP} (hf : fs.lookup f = some F) (z : callW G.B fs prim k f ds Q E) : ds.length = F.ps := by
  cases k with
  | zero => exact z.elim
  | succ j =>
    unfold callW at z
    rw [hf] at z
    exact z.1
/-! ### global names -/
def conOk (p : Pg) (G : Cfg) (x : Str) : D → Prop
  | .int i => ∃ t, p.mg x = some (.int i t)
  | .str z => ∃ t, p.mg x = some (.str z t)
  | .cls c => p.mg x = some (.ref (He.ga G.K c))
  | .ty n => p.mg x = none ∧ bootBuiltins x = some (.type n.nm)
  | _ => False
theorem con_ok {C : Call} {k : Nat} {X : Cx} {W : WX} (ok : OkX p G k X W) {x : Str} {d : D} {pos : Pos} (h : conOk p G x d) (hg : Gl X x) (ho : odd x = false) : PE X (.Name x pos) (rdR G C W (.glo d)) := by
  obtain ⟨o1, o2, o3⟩ := odd_cases ho
  cases d <;> first
    | exact h.elim
    | skip
  · obtain ⟨t, h⟩ := h
    exact p_glo (pe_glob (v := .int _) hg (by rw [ok.mg]; exact h) ⟨t, rfl⟩ o1) fun H => .int _
  · obtain ⟨t, h⟩ := h
    exact p_glo (pe_glob (v := .str _) hg (by rw [ok.mg]; exact h) ⟨t, rfl⟩ o1) fun H => .str _
  · exact p_glo (pe_glob (v := .ref _) hg (by rw [ok.mg]; exact h) rfl o1) fun H => .cls _
  · exact p_glo (pe_bltn (v := .ty _) hg (by rw [ok.mg]; exact h.1) h.2 rfl o3 o1) fun H => .ty _
/-- errors that a call may let out are taken -/
theorem OkX.passes {k : Nat} {X : Cx} {W : WX} (ok : OkX p G k X W) (σ : St) : Passes (L2.CX p.P p.w) X fun cls d H => W cls d σ H := by
  have e := passes_call (E := fun cls d H => W cls d σ H) ok.tk fun cls d σ' H h => ok.ind cls d σ σ' H h
  intro pins σ' H s u s' I c
  refine e pins σ' H s u s' I ?_
  rw [ok.P, ok.w]
  exact c
/-! ### own objects: slots, properties -/
/-- the slots of a class: their names, in their order -/
structure SlotsOf (G : Cfg) (c : Str) (sl : List Str) : Prop where
  cls : SlX.SCls G.K (He.ga G.K c)
  at_ : ∀ (i : Nat) (f : Str), sl[i]? = some f → ∃ q, SlX.Slot1 G.K (He.ga G.K c) f q i
theorem att_slot {C : Call} (hB : G.B.Mono) (hC : MonoC C) {k : Nat} {X : Cx} {W : WX} (ok : OkX p G k X W) {c : Str} {sl : List Str} (S : SlotsOf G c sl) {o : Expr} {io : Ex} {f key : Str} {pos : Pos}
    (hk : ∀ d Q E, C key [d] Q E → ∃ (fs : List D) (i : Nat) (x : D), d = .obj c fs ∧ sl[i]? = some f ∧ fs[i]? = some x ∧ Q (.v x)) (ho : PE X o (rdV G C W io)) (hs : isSup o = false) : PE X (.Attribute o f pos) (rdR G C W (.att io key)) := by
  refine PE.imp (SlX.pe_sl ho (attrBase_ok hs)) fun σ H Q ⟨r, re, tb, z⟩ => ?_
  refine v_bind hB hC re tb (LamX.ExtN.refl H) z fun d v H1 rd x1 t1 z1 => ?_
  obtain ⟨fs, i, x, e, h1, h2, q⟩ := hk _ _ _ z1
  rw [e] at rd
  cases rd with
  | @obj _ a dx vs _ hsl rs =>
    obtain ⟨v, e3, rv⟩ := rs.get h2
    obtain ⟨q', s1⟩ := S.at_ i f h1
    exact ⟨a, _, dx, q', vs.map some, i, v, rfl, hsl, by rw [ok.bs.K]; exact S.cls, by rw [ok.bs.K]; exact s1, by rw [List.getElem?_map, e3]; rfl, q v H1 rv x1 t1⟩
/-- a property of a class, its getter at g -/
structure PropF (G : Cfg) (c f : Str) (q g : Addr) : Prop where
  at_ : PySem.W.findIn G.K (.ref (He.ga G.K c)) f = some (some (.ref q))
  get : PySem.W.specialIn G.K (.ref q) "__get__" = some (some (.builtin "property.__get__"))
  tk : PySem.W.takesIn G.K (.ref q) = some true
  rc : ∃ rest, PySem.W.recIn G.K q "property" = some (.ref g :: rest)
theorem att_prop {C C' : Call} (hB : G.B.Mono) (hC : MonoC C) {k : Nat} {X : Cx} {W : WX} (ok : OkX p G (k + 1) X W) {c : Str} (S : SlX.SCls G.K (He.ga G.K c)) {f key nm : Str} {q gt : Addr} (P : PropF G c f q gt) {fd : FuncData} {ps : List Str} (hf : p.fl = false) (hps : ps.length = 1) (F : FnG p G C' k gt fd ps nm) (hb : Binds G.K fd ps [])
    {o : Expr} {io : Ex} {pos : Pos} (hk : ∀ d Q E, C key [d] Q E → ∃ fs, d = .obj c fs ∧ C' nm [d] Q E0) (hC' : MonoC C') (ho : PE X o (rdV G C W io)) (hs : isSup o = false) : PE X (.Attribute o f pos) (rdR G C W (.att io key)) := by
  have FR := F.run hf hb
  rw [← ok.P, ← ok.w, ← ok.bs.K, ← ok.mg, ← ok.base] at FR
  have hK := ok.bs.K
  refine PE.imp (SlX.pe_propSl (C := He.ga G.K c) (E := fun _ _ _ => False) ho (by rw [hK]; exact S) (by rw [hK]; exact P.at_) (by rw [hK]; exact P.get) (by rw [hK]; exact P.tk) (by rw [hK]; exact P.rc) FR ok.room ?_ (attrBase_ok hs)) fun σ H Q ⟨r, re, tb, z⟩ => ?_
  · intro H s e s' ⟨_, _, _, _, _, _, _, _, _, _, _, _, z⟩
    exact z
  · refine v_bind hB hC re tb (LamX.ExtN.refl H) z fun d v H1 rd x1 t1 z1 => ?_
    obtain ⟨fs, e, q⟩ := hk _ _ _ z1
    have rd' := rd
    rw [e] at rd
    cases rd with
    | @obj _ a dx vs _ hsl rs =>
      refine ⟨a, dx, vs.map some, rfl, hsl, [d.d], .cons rd' .nil, t1, by simp [hps], ?_⟩
      exact hC' _ _ _ _ _ _ (fun x z v H' rr x2 t2 => z v H' (rr.back x1) (x1.trans x2) t2) (fun _ _ z => z.elim) q
end
end En
/-! En21: a class with slots: its __init__, its call. -/
namespace En
open PySem L2 PyProof.Rows
/-! ### statements, a part of them by hand -/
section
variable {g : Gi} {G : Cfg} {C : Call} {Ok : Cx → WX → Prop} {X : Cx} {E : XK} {N mu : List Str} {H0 : Hp}
theorem seq_frzs {t : TS} {mx : List Nat} {q : Sms} {rest : List Stmt} (h : PSs X rest (tSeq (rdMs G C H0 E q) t)) : ∀ l, PSs X rest (tSeq (rdMs G C H0 E (frzs mx l q)) t)
  | [] => h
  | i :: r => by
    unfold frzs
    split
    · refine PSs.imp (pss_fz (seq_frzs (mx := mx) h r)) fun D σ H ⟨r', N, si, no, z⟩ => ?_
      unfold exSs exS at z
      have z : exSs G.B C (frzs mx r q) N (fzV i r') (eS G E H0) := z
      unfold fzV at z
      split at z
      · rename_i xs t hi
        obtain ⟨p, us, e1, e2, e3⟩ := si.own_at hi
        exact .inr ⟨p, us, e2, fun o => ⟨_, N, si.frz hi e1 e2 e3, no.back (Stb.frz e2), z⟩⟩
      · exact .inl ⟨r', N, si, no, z⟩
    · exact seq_frzs h r
theorem compSs_app (k : Kn g G C Ok) (hN : N.Nodup) (ks : Ks g G C Ok X E) {sc : Scope} (hs : X.env.scope = sc) (hn : X.N = N) {suf : List Stmt} {t : TS} (hsuf : PSs X suf t) : ∀ (n : Nat) (pre : List Stmt) (b : Sms), compSs g N mu n sc pre = some b → PSs X (pre ++ suf) (tSeq (rdMs G C H0 E b) t)
  | n, [], b, h => by
    have e : b = .nil := by cases n <;> simp [compSs] at h <;> exact h.symm
    subst e
    refine PSs.imp hsuf fun D σ H ⟨r, N, si, no, z⟩ => ?_
    unfold exSs at z
    exact no.nx r σ H si (Stb.refl H) z
  | 0, st :: r, b, h => by simp [compSs] at h
  | n + 1, st :: r, b, h => by
    simp only [compSs, Option.map_eq_some_iff, Option.bind_eq_some_iff] at h
    obtain ⟨s1, h1, q, h2, h3⟩ := h
    subst h3
    refine seq_frzs (PSs.imp (pss_cons (compS_ok (H0 := H0) k hN ks hs hn n st s1 h1) (compSs_app k hN ks hs hn hsuf n r q h2)) fun D σ H ⟨r, N, si, no, z⟩ => ?_) _
    unfold exSs at z
    exact ⟨r, { N with nx := fun r' => exSs G.B C q N r' (eS G E H0) }, si, ⟨fun r' σ' H' si' st z => ⟨r', N, si', no.back st, z⟩, no.rt, no.bk, no.ct⟩, z⟩
end
/-! ### an object whose slots are filled -/
mutual
def noE : D → Bool
  | .tup xs => noEs xs
  | .lst xs => noEs xs
  | .dic kvs => noEk kvs
  | .obj _ fs => !fs.isEmpty && noEs fs
  | .exc _ _ _ _ => false
  | _ => true
def noEs : List D → Bool
  | [] => true
  | x :: r => noE x && noEs r
def noEk : List (Key × D) → Bool
  | [] => true
  | (_, x) :: r => noE x && noEk r
end
theorem noEk_map : ∀ (kvs : List (Key × D)), noEk kvs = true → noEs (kvs.map (·.2)) = true
  | [], _ => rfl
  | (k, x) :: r, h => by
    simp only [noEk, Bool.and_eq_true] at h
    simp only [List.map_cons, noEs, Bool.and_eq_true]
    exact ⟨h.1, noEk_map r h.2⟩
section
variable {K : PySem.W.Frag} {H : Hp} {a dx Ca : Addr} {ws : List (Option V)} (ha : H a = some (.ins Ca dx [])) (hd : H dx = some (.own a))
include ha hd
theorem slH_at {b : Addr} {o : HO} (e : H b = some o) (n1 : o ≠ .ins Ca dx []) (n2 : o ≠ .own a) : SlX.slH H a Ca dx ws b = some o := by
  have h1 : b ≠ a := fun z => by rw [z, ha] at e; exact n1 (Option.some.inj e).symm
  have h2 : b ≠ dx := fun z => by rw [z, hd] at e; exact n2 (Option.some.inj e).symm
  rw [SlX.slH_ne h1 h2]
  exact e
mutual
theorem RD.slot : ∀ {d : D} {v : V}, RD K H d v → noE d = true → RD K (SlX.slH H a Ca dx ws) d v
  | _, _, .non, _ => .non
  | _, _, .bl b, _ => .bl b
  | _, _, .int i, _ => .int i
  | _, _, .str x, _ => .str x
  | _, _, .cls x, _ => .cls x
  | _, _, .adr x, _ => .adr x
  | _, _, .ty n, _ => .ty n
  | _, _, .tup h r, e => by
    refine .tup ?_ (RDs.slot r (by simpa [noE] using e))
    rcases h with (h | ⟨o, h⟩) | h
    · exact .inl (.inl (slH_at ha hd h (fun z => nomatch z) (fun z => nomatch z)))
    · exact .inl (.inr ⟨o, slH_at ha hd h (fun z => nomatch z) (fun z => nomatch z)⟩)
    · exact .inr h
  | _, _, .lst h r, e => by
    refine .lst ?_ (RDs.slot r (by simpa [noE] using e))
    rcases h with ⟨o, h⟩ | h
    · exact .inl ⟨o, slH_at ha hd h (fun z => nomatch z) (fun z => nomatch z)⟩
    · exact .inr h
  | _, _, .dic h l r, e => .dic (slH_at ha hd h (fun z => nomatch z) (fun z => nomatch z)) l (RDs.slot r (noEk_map _ (by simpa [noE] using e)))
  | _, _, .obj (dx := dy) (vs := vs) h r, e => by
    simp only [noE, Bool.and_eq_true, Bool.not_eq_true'] at e
    refine .obj (dx := dy) ?_ (RDs.slot r e.2)
    rcases h with ⟨h, hv⟩ | ⟨h, hv⟩
    · have : vs = [] := by simpa using hv
      subst this
      cases r
      simp at e
    · exact .inr ⟨slH_at ha hd h (fun z => by unfold SlX.SlO at z; cases z) (fun z => by unfold SlX.SlO at z; cases z), slH_at ha hd hv (fun z => nomatch z) (fun z => nomatch z)⟩
  | _, _, .pail h, _ => .pail (slH_at ha hd h (fun z => by unfold PailO at z; cases z) (fun z => by unfold PailO at z; cases z))
theorem RDs.slot : ∀ {ds : List D} {vs : List V}, RDs K H ds vs → noEs ds = true → RDs K (SlX.slH H a Ca dx ws) ds vs
  | _, _, .nil, _ => .nil
  | _, _, .cons r q, e => by
    simp only [noEs, Bool.and_eq_true] at e
    exact .cons (RD.slot r e.1) (RDs.slot q e.2)
end
theorem Tabs.slot {T : List (Addr × Str)} (t : LamX.Tabs T H) : LamX.Tabs T (SlX.slH H a Ca dx ws) := fun q hq => by
  obtain ⟨ps, h1, h2, h3⟩ := t q hq
  refine ⟨ps, slH_at ha hd h1 (fun z => nomatch z) (fun z => nomatch z), h2, fun pos cv hc => ?_⟩
  obtain ⟨c, e1, e2⟩ := h3 pos cv hc
  exact ⟨c, e1, slH_at ha hd e2 (fun z => by unfold LamX.CodeO at z; cases z) (fun z => by unfold LamX.CodeO at z; cases z)⟩
end
theorem ExN.slot {H1 H : Hp} {a dx Ca : Addr} {ws : List (Option V)} (x : ExN H1 H) (h1 : H1 a = none) (h2 : H1 dx = none) : ExN H1 (SlX.slH H a Ca dx ws) := by
  unfold SlX.slH
  exact ExN.frz (ExN.frz x (Fr.of h2)) (Fr.of h1)
/-! ### __init__ of a class with three slots -/
def startI (x : Addr) (n : Nat) (ds : List D) : Env := some (.val (.adr x)) :: (ds.map (fun d => some (Slot.val d)) ++ List.replicate (n - (ds.length + 1)) none)
/-- the slots stand by their names: the last one ahead -/
def rot3 (ds : List D) : List D := [ds.getD 2 .non, ds.getD 0 .non, ds.getD 1 .non]
/-- the meaning of the class called with three values -/
def initW (B : Lib) (C : Call) (c : Str) (n : Nat) (b : Sms) (ds : List D) (Q : Rv → Prop) (E : XP) : Prop :=
  ds.length = 3 ∧ noEs ds = true ∧ ∀ x : Addr, exSs B C b { nx := fun r => r[0]? = some (some (.val (.adr x))) ∧ r[1]? = some (some (.val (ds.getD 0 .non))) ∧ r[2]? = some (some (.val (ds.getD 1 .non))) ∧ r[3]? = some (some (.val (ds.getD 2 .non))) ∧ Q (.v (.obj c (rot3 ds))), rt := fun _ _ => False } (startI x n ds) E
/-- the promise of __init__ -/
def spI (G : Cfg) (C : Call) (c : Str) (n : Nat) (b : Sms) : Sp := fun vs H Q E => ∃ x dx ws ds H1 Qv, vs = V.ref x :: ws ∧ H = upd (upd H1 dx (.own x)) x (.ins (He.ga G.K c) dx []) ∧ H1 x = none ∧ H1 dx = none ∧ dx ≠ x ∧ RDs G.K H1 ds ws ∧ Tb G H1 ∧
  (∀ H', Qv (V.ref x) H' → Q .non H') ∧ initW G.B C c n b ds (qS G Qv H1) (eS G E H1)
section
variable {p : Pg} {G : Cfg} {g : Gi} {C : Call}
theorem RE.startI {K : PySem.W.Frag} {H : Hp} {N : List Str} {ds : List D} {vs : List V} {x : Addr} (r : RDs K H ds vs) : RE K H (startI x N.length ds) (L2.start N (.ref x :: vs)) := by
  have e : En.startI x N.length ds = startD N.length (.adr x :: ds) := by
    unfold En.startI startD
    simp
  rw [e]
  exact RE.start (.cons (.adr x) r)
/-- the three stores -/
theorem stores3 {D : Ends} {c : Str} {sl : List Str} (S : SlotsOf G c sl) {f0 f1 f2 : Str} (h0 : sl[1]? = some f0) (h1 : sl[2]? = some f1) (h2 : sl[0]? = some f2) {a dx : Addr} {σ : L2.St} {H : Hp} {y0 y1 y2 : V}
    (ea : σ[0]? = some (some (.ref a))) (e0 : σ[1]? = some (some y0)) (e1 : σ[2]? = some (some y1)) (e2 : σ[3]? = some (some y2)) (hs : SlX.Slt H a (He.ga G.K c) dx []) (hne : dx ≠ a)
    (q : D.nx σ (SlX.slH H a (He.ga G.K c) dx ([y2, y0, y1].map some))) :
    tSeq (SlX.sSl G.K (tVar 0) (tVar 1) f0) (tSeq (SlX.sSl G.K (tVar 0) (tVar 2) f1) (SlX.sSl G.K (tVar 0) (tVar 3) f2)) D σ H := by
  obtain ⟨q0, s0⟩ := S.at_ 1 f0 h0
  obtain ⟨q1, s1⟩ := S.at_ 2 f1 h1
  obtain ⟨q2, s2⟩ := S.at_ 0 f2 h2
  have cl := S.cls
  refine ⟨y0, e0, .ref a, ea, a, _, dx, q0, [], 1, rfl, hs, cl, s0, ?_⟩
  refine ⟨y1, e1, .ref a, ea, a, _, dx, q1, _, 2, rfl, SlX.slH_slt hne, cl, s1, ?_⟩
  refine ⟨y2, e2, .ref a, ea, a, _, dx, q2, _, 0, rfl, SlX.slH_slt hne, cl, s2, ?_⟩
  rw [SlX.slH_twice hne, SlX.slH_twice hne]
  exact q
/-- __init__ -/
theorem fn_init {k : Nat} (kn : Kn g G C (OkX p G k)) (er : ErrOk p G g C k) {nm qual : Str} {params : Arguments} {body pre suf : List Stmt} {scope : Scope} {dvs : List V} {kws : List (Str × V)} {f : Addr} {fd : FuncData} {N mu : List Str} {n : Nat} {b : Sms} {self x0 x1 x2 f0 f1 f2 c : Str} {sl : List Str}
    {q0 q1 q2 q3 q4 q5 q6 q7 q8 q9 qa qb : Pos} (hfl : p.fl = false) (hlq : p.lq = false)
    (F : FunD G.K nm qual params body scope dvs kws f fd) (S : FnScope N [self, x0, x1, x2] scope) (hb : body = pre ++ suf) (hc : compSs g N mu n scope pre = some b)
    (hsuf : suf = [.Assign [.Attribute (.Name self q0) f0 q1] (.Name x0 q2) q3, .Assign [.Attribute (.Name self q4) f1 q5] (.Name x1 q6) q7, .Assign [.Attribute (.Name self q8) f2 q9] (.Name x2 qa) qb])
    (hod : odd self = false ∧ odd x0 = false ∧ odd x1 = false ∧ odd x2 = false) (SL : SlotsOf G c sl) (h0 : sl[1]? = some f0) (h1 : sl[2]? = some f1) (h2 : sl[0]? = some f2) :
    FnOk p.P p.w G.K p.mg p.base (L2.CX p.P p.w) (k + 1) f fd [self, x0, x1, x2] (spI G C c N.length b) := by
  obtain ⟨oc, od, dV, kV, doc, pm, an, cdv, ct, osl, rfl, lk, hcd, _, _⟩ := F.ex
  refine ⟨fun vs H Q E ⟨x, dx, ws, ds, H1, Qv, e, _, _, _, _, rd, _, _, hw⟩ => by rw [e, List.length_cons, ← rd.length, hw.1]; rfl, fun A outer s H args us vs Q E hr e0 hbi r ⟨x, dx, ws, ds, H1, Qv, e, eH, hx, hdx, hne, rd, tb, hq, hl, hno, hw⟩ => ?_⟩
  subst e
  have hlen : (V.ref x :: ws).length = [self, x0, x1, x2].length := by rw [List.length_cons, ← rd.length, hl]; rfl
  refine LamX.run_ofS (N := N) lk hcd S hr e0 hbi r hlen fun hr2 => ⟨tSeq (rdMs G C H1 E b) (tSeq (SlX.sSl G.K (tVar 0) (tVar 1) f0) (tSeq (SlX.sSl G.K (tVar 0) (tVar 2) f1) (SlX.sSl G.K (tVar 0) (tVar 3) f2))), ?_, ?_⟩
  · have ok : OkX p G k (cxOf (L2.CX p.P p.w) p.P p.w G.K p.mg p.base N qual scope f cdv A outer s H E) (wE E) :=
      ⟨rfl, rfl, rfl, rfl, ⟨rfl, hr2.units, rfl, S.nd⟩, hr2, (fun z => by rw [hfl] at z; cases z), takes_of rfl rfl rfl rfl, LmV.nil hlq, fun _ _ _ _ _ z => z⟩
    have ks : Ks g G C (OkX p G k) (cxOf (L2.CX p.P p.w) p.P p.w G.K p.mg p.base N qual scope f cdv A outer s H E) E :=
      ⟨ok, passes_of rfl, takes_of rfl rfl rfl rfl, fun _ => rfl, by show Env.blockKind _ = _; unfold Env.blockKind; rw [show (cxOf (L2.CX p.P p.w) p.P p.w G.K p.mg p.base N qual scope f cdv A outer s H E).env.scope.kind = .function from S.kind]; rfl, S.kind, er _ E ok⟩
    have hpre : ∀ i y, [self, x0, x1, x2][i]? = some y → N[i]? = some y := fun i y e => by
      have := S.pre
      have hi : i < 4 := by
        rcases Nat.lt_or_ge i 4 with z | z
        · exact z
        · rw [List.getElem?_eq_none (by simpa using z)] at e; cases e
      rw [← this, List.getElem?_take, if_pos (by simpa using hi)] at e
      exact e
    have vis : ∀ i y {pp : Pos}, [self, x0, x1, x2][i]? = some y → odd y = false → PE (cxOf (L2.CX p.P p.w) p.P p.w G.K p.mg p.base N qual scope f cdv A outer s H E) (.Name y pp) (tVar i) := fun i y pp e ho => by
      obtain ⟨o1, o2, _⟩ := odd_cases ho
      refine pe_var (hpre i y e) ?_ o1 o2
      rcases S.par y (List.mem_of_getElem? e) with z | z
      · exact .inl z
      · exact .inr (.inl z)
    rw [hb]
    refine compSs_app kn S.nd ks rfl rfl ?_ n pre b hc
    rw [hsuf]
    exact pss_cons (SlX.ps_sl (vis 0 self rfl hod.1) (vis 1 x0 rfl hod.2.1)) (pss_cons (SlX.ps_sl (vis 0 self rfl hod.1) (vis 2 x1 rfl hod.2.2.1)) (pss_one (SlX.ps_sl (vis 0 self rfl hod.1) (vis 3 x2 rfl hod.2.2.2))))
  · have xH : ExN H1 H := by
      rw [eH]
      have n1 : (upd H1 dx (.own x)) x = none := by rw [upd_ne (Ne.symm hne)]; exact hx
      exact (ExN.new hdx).trans (ExN.new n1)
    have tH : Tb G H := by
      rw [eH]
      have n1 : (upd H1 dx (.own x)) x = none := by rw [upd_ne (Ne.symm hne)]; exact hx
      exact Tabs.new (Tabs.new tb hdx) n1
    have hax : H x = some (.ins (He.ga G.K c) dx []) := by rw [eH]; exact upd_same
    have hdd : H dx = some (.own x) := by rw [eH, upd_ne hne, upd_same]
    refine ⟨startI x N.length ds, { nx := fun r => r[0]? = some (some (.val (.adr x))) ∧ r[1]? = some (some (.val (ds.getD 0 .non))) ∧ r[2]? = some (some (.val (ds.getD 1 .non))) ∧ r[3]? = some (some (.val (ds.getD 2 .non))) ∧ qS G Qv H1 (.v (.obj c (rot3 ds))), rt := fun _ _ => False }, ⟨(RE.startI rd).ext xH, fun i xs t q e _ => ?_, xH, tH⟩, ⟨fun r' σ' H' si st z => ?_, fun _ _ _ _ _ _ _ z => z.elim, fun _ _ _ _ _ z => z.elim, fun _ _ _ _ _ z => z.elim⟩, hw x⟩
    · have ee : startI x N.length ds = startD N.length (.adr x :: ds) := by
        unfold startI startD
        simp
      rw [ee] at e
      obtain ⟨_, _, e2⟩ := startD_get e
      cases e2
    · obtain ⟨z0, z1, z2, z3, z⟩ := z
      obtain ⟨v0, w0, u0⟩ := si.re.at_ 0 _ z0
      obtain ⟨v1, w1, u1⟩ := si.re.at_ 1 _ z1
      obtain ⟨v2, w2, u2⟩ := si.re.at_ 2 _ z2
      obtain ⟨v3, w3, u3⟩ := si.re.at_ 3 _ z3
      cases u0
      have hax' := st _ _ hax (fun _ z => nomatch z) (fun _ z => nomatch z)
      have hdd' := st _ _ hdd (fun _ z => nomatch z) (fun _ z => nomatch z)
      refine stores3 SL h0 h1 h2 w0 w1 w2 w3 (.inl ⟨hax', rfl⟩) hne ?_
      refine hq _ (z _ _ ?_ (ExN.slot si.ex hx hdx) (Tabs.slot hax' hdd' si.tb))
      match ds, hl with
      | [d0, d1, d2], _ =>
        simp only [noEs, Bool.and_eq_true] at hno
        exact .obj (dx := dx) (vs := [v3, v1, v2]) (SlX.slH_slt hne) (.cons (RD.slot hax' hdd' u3 hno.2.2.1) (.cons (RD.slot hax' hdd' u1 hno.1) (.cons (RD.slot hax' hdd' u2 hno.2.1) .nil)))
end
end En
/-! En22: what is called: defs, classes, methods; by position and by name. -/
namespace En
open PySem L2 PyProof.Rows
theorem evAs_nilR {B : Lib} {C : Call} {r : Env} {Q : List D → Prop} {E : XP} : (evAs B C .nil r).R Q E = Q [] := by
  unfold evAs
  rfl
/-- a value that is called with values -/
def CalP (p : Pg) (G : Cfg) (C : Call) (k : Nat) (u : Value) (nm : Str) : Prop :=
  ∀ (X : Cx) (W : WX) (pins : List (Addr × Obj)) (σ : L2.St) (H : Hp) (s : Shared) (Q : VK) (us : List Value) (vs : List V) (ds : List D), OkX p G k X W → Inv X pins σ H s → Vals vs us → RDs G.K H ds vs → Tb G H → C nm ds (qS G Q H) (exq G W σ H) →
    wpAny (model X.prog X.w) X.A (call u us) (EP X pins σ Q) X.xe s
/-- .. with n values and the keywords ks; pm: where the parameters' values stand -/
def CalK (p : Pg) (G : Cfg) (C : Call) (k : Nat) (u : Value) (nm : Str) (ks : List Str) (n : Nat) (pm : List Nat) : Prop :=
  ∀ (X : Cx) (W : WX) (pins : List (Addr × Obj)) (σ : L2.St) (H : Hp) (s : Shared) (Q : VK) (us ws : List Value) (vs zs : List V) (ds es : List D), OkX p G k X W → Inv X pins σ H s → Vals vs us → Vals zs ws → us.length = n → ws.length = ks.length → RDs G.K H ds vs → RDs G.K H es zs → Tb G H →
    C nm (pm.map fun j => (ds ++ es).getD j .non) (qS G Q H) (exq G W σ H) → wpAny (model X.prog X.w) X.A (call u us (ks.zip ws)) (EP X pins σ Q) X.xe s
/-- how a def's parameters are bound: m values ahead, n values, the keywords ks -/
def KBs (K : PySem.W.Frag) (fd : FuncData) (ps : List Str) (m : Nat) (ks : List Str) (n : Nat) (pm : List Nat) : Prop :=
  ∀ (s : Shared) (first us ws : List Value), K.In s.heap → first.length = m → us.length = n → ws.length = ks.length → BindsTo s fd ⟨first ++ us, ks.zip ws⟩ (ps.zip (first ++ pm.map fun j => (us ++ ws).getD j .none))
theorem FunD.kb {K : PySem.W.Frag} {x qual : Str} {params : Arguments} {body : List Stmt} {scope : Scope} {kws : List (Str × V)} {f : Addr} {fd : FuncData} {ps : List Str} {m n : Nat} {ks : List Str} {pm : List Nat} (F : FunD K x qual params body scope [] kws f fd)
    (h : ∀ (kV doc pm' : Value) (an : Option Addr) (cdv ct : Value) (first us ws : List Value), first.length = m → us.length = n → ws.length = ks.length → bindArgs (PySem.W.fnOf x qual params body scope .none kV doc pm' an cdv ct) ⟨first ++ us, ks.zip ws⟩ = pure (ps.zip (first ++ pm.map fun j => (us ++ ws).getD j .none))) : KBs K fd ps m ks n pm := by
  obtain ⟨oc, od, dV, kV, doc, pm', an, cdv, ct, osl, rfl, lk, hcd, hD, hK⟩ := F.ex
  rcases hD with ⟨_, rfl⟩ | ⟨e, _⟩
  · exact fun s first us ws _ h1 h2 h3 => .of_eq (h kV doc pm' an cdv ct first us ws h1 h2 h3)
  · exact absurd rfl e
theorem RDs.perm {K : PySem.W.Frag} {H : Hp} {ds : List D} {vs : List V} (r : RDs K H ds vs) : ∀ pm : List Nat, RDs K H (pm.map fun j => ds.getD j .non) (pm.map fun j => vs.getD j .non)
  | [] => .nil
  | j :: pm => by
    refine .cons ?_ (RDs.perm r pm)
    show RD K H (ds.getD j D.non) (vs.getD j V.non)
    rcases Nat.lt_or_ge j ds.length with h | h
    · obtain ⟨v, e1, e2⟩ := r.get (List.getElem?_eq_getElem h)
      rw [List.getD_eq_getElem?_getD, List.getD_eq_getElem?_getD, List.getElem?_eq_getElem h, e1]
      exact e2
    · rw [List.getD_eq_getElem?_getD, List.getD_eq_getElem?_getD, List.getElem?_eq_none h, List.getElem?_eq_none (by rw [← r.length]; exact h)]
      exact .non
theorem Vals.get : ∀ {vs : List V} {us : List Value} {j : Nat}, Vals vs us → j < vs.length → ∃ v u, vs[j]? = some v ∧ us[j]? = some u ∧ RelV v u
  | _, _, _, .nil, h => by simp at h
  | _, _, 0, .cons r _, _ => ⟨_, _, rfl, rfl, r⟩
  | _, _, j + 1, .cons _ q, h => by
    obtain ⟨v, u, e1, e2, r⟩ := Vals.get (j := j) q (by simpa using h)
    exact ⟨v, u, by simpa using e1, by simpa using e2, r⟩
theorem Vals.perm {vs : List V} {us : List Value} (r : Vals vs us) : ∀ pm : List Nat, Vals (pm.map fun j => vs.getD j .non) (pm.map fun j => us.getD j .none)
  | [] => .nil
  | j :: pm => by
    refine .cons ?_ (Vals.perm r pm)
    show L2.RelV (vs.getD j V.non) (us.getD j Value.none)
    rcases Nat.lt_or_ge j vs.length with h | h
    · obtain ⟨v, u, e1, e2, e3⟩ := Vals.get r h
      rw [List.getD_eq_getElem?_getD, List.getD_eq_getElem?_getD, e1, e2]
      exact e3
    · rw [List.getD_eq_getElem?_getD, List.getD_eq_getElem?_getD, List.getElem?_eq_none h, List.getElem?_eq_none (by rw [← r.length]; exact h)]
      exact rfl
section
variable {p : Pg} {G : Cfg} {g : Gi} {C : Call} {k : Nat}
/-! ### defs -/
theorem cal_def {f : Addr} {fd : FuncData} {ps : List Str} {nm : Str} (F : FnG p G C k f fd ps nm) (hlen : ∀ ds Q E, C nm ds Q E → ds.length = ps.length) (hb : Binds G.K fd ps []) : CalP p G C k (.ref f) nm := by
  intro X W pins σ H s Q us vs ds ok I r rd tb h
  have hl := hlen _ _ _ h
  have e : us.length = ps.length := by rw [← r.length, ← rd.length]; exact hl
  have kin : G.K.In s.heap := by rw [← ok.bs.K]; exact I.kIn
  have b := hb s us kin (by rw [List.append_nil]; exact e)
  rw [List.append_nil] at b
  exact run_G (args := ⟨us, []⟩) ok F b I r rd tb hl h
theorem cal_defK {f : Addr} {fd : FuncData} {ps : List Str} {nm : Str} {ks : List Str} {n : Nat} {pm : List Nat} (F : FnG p G C k f fd ps nm) (hlen : ∀ ds Q E, C nm ds Q E → ds.length = ps.length) (hb : KBs G.K fd ps 0 ks n pm) : CalK p G C k (.ref f) nm ks n pm := by
  intro X W pins σ H s Q us ws vs zs ds es ok I r rz l1 l2 rd re tb h
  have kin : G.K.In s.heap := by rw [← ok.bs.K]; exact I.kIn
  have b := hb s [] us ws kin rfl l1 l2
  exact run_G (args := ⟨us, ks.zip ws⟩) ok F b I (Vals.perm (r.append rz) pm) ((rd.append re).perm pm) tb (hlen _ _ _ h) h
/-! ### the same of the call's code -/
def CO (X : Cx) (pins : List (Addr × Obj)) (σ : L2.St) (Q : VK) : Result → Shared → Prop := fun r s' => match r with
  | .ok (.ret v) => EP X pins σ Q v s'
  | .ok _ => False
  | .error e => X.xe e s'
theorem run_Gc {X : Cx} {W : WX} (ok : OkX p G k X W) {f : Addr} {fd : FuncData} {ps : List Str} {nm : Str} (F : FnG p G C k f fd ps nm) {pins : List (Addr × Obj)} {σ : L2.St} {H : Hp} {s : Shared} {Q : VK} {args : Args} {us : List Value} {vs : List V} {ds : List D}
    (hb : BindsTo s fd args (ps.zip us)) (I : Inv X pins σ H s) (r : Vals vs us) (rd : RDs G.K H ds vs) (tb : Tb G H) (hl : ds.length = ps.length) (h : C nm ds (qS G Q H) (exq G W σ H)) :
    codeAny (model X.prog X.w) X.A (.call (.ref f) args) (CO X pins σ Q) s := by
  obtain ⟨e1, e2, e3, e4, bs, room, gd, tk, _⟩ := ok
  have e0 := I.env0
  rw [e1, e2, bs.K, e3, e4] at e0
  rw [e1, e2]
  refine codeAny_mono (F X.A X.stack s H args us vs ds Q (fun cls d H' => W cls d σ H') room gd e0 hb r rd tb hl h) fun r s' hq => ?_
  rw [← e1, ← e2] at hq
  cases r with
  | error e => exact tk e s' (XE.of_call I (fun cls d H' h => h) hq)
  | ok fl =>
    cases fl with
    | ret u => exact I.after hq
    | next => exact False.elim hq
    | brk => exact False.elim hq
    | cont => exact False.elim hq
def CalC (p : Pg) (G : Cfg) (C : Call) (k : Nat) (f : Addr) (nm : Str) : Prop :=
  ∀ (X : Cx) (W : WX) (pins : List (Addr × Obj)) (σ : L2.St) (H : Hp) (s : Shared) (Q : VK) (us : List Value) (vs : List V) (ds : List D), OkX p G k X W → Inv X pins σ H s → Vals vs us → RDs G.K H ds vs → Tb G H → C nm ds (qS G Q H) (exq G W σ H) →
    codeAny (model X.prog X.w) X.A (.call (.ref f) ⟨us, []⟩) (CO X pins σ Q) s
/-- a method with keywords: the receiver ahead -/
def CalCK (p : Pg) (G : Cfg) (C : Call) (k : Nat) (f : Addr) (nm : Str) (ks : List Str) (n : Nat) (pm : List Nat) : Prop :=
  ∀ (X : Cx) (W : WX) (pins : List (Addr × Obj)) (σ : L2.St) (H : Hp) (s : Shared) (Q : VK) (u : Value) (us ws : List Value) (v : V) (vs zs : List V) (d : D) (ds es : List D), OkX p G k X W → Inv X pins σ H s → RelV v u → Vals vs us → Vals zs ws → us.length = n → ws.length = ks.length → RD G.K H d v → RDs G.K H ds vs → RDs G.K H es zs → Tb G H →
    C nm (d :: pm.map fun j => (ds ++ es).getD j .non) (qS G Q H) (exq G W σ H) → codeAny (model X.prog X.w) X.A (.call (.ref f) ⟨u :: us, ks.zip ws⟩) (CO X pins σ Q) s
theorem cal_defc {f : Addr} {fd : FuncData} {ps : List Str} {nm : Str} (F : FnG p G C k f fd ps nm) (hlen : ∀ ds Q E, C nm ds Q E → ds.length = ps.length) (hb : Binds G.K fd ps []) : CalC p G C k f nm := by
  intro X W pins σ H s Q us vs ds ok I r rd tb h
  have hl := hlen _ _ _ h
  have e : us.length = ps.length := by rw [← r.length, ← rd.length]; exact hl
  have kin : G.K.In s.heap := by rw [← ok.bs.K]; exact I.kIn
  have b := hb s us kin (by rw [List.append_nil]; exact e)
  rw [List.append_nil] at b
  exact run_Gc (args := ⟨us, []⟩) ok F b I r rd tb hl h
theorem cal_defKc {f : Addr} {fd : FuncData} {ps : List Str} {nm : Str} {ks : List Str} {n : Nat} {pm : List Nat} (F : FnG p G C k f fd ps nm) (hlen : ∀ ds Q E, C nm ds Q E → ds.length = ps.length) (hb : KBs G.K fd ps 1 ks n pm) : CalCK p G C k f nm ks n pm := by
  intro X W pins σ H s Q u us ws v vs zs d ds es ok I ru r rz l1 l2 rd rds re tb h
  have kin : G.K.In s.heap := by rw [← ok.bs.K]; exact I.kIn
  have b := hb s [u] us ws kin rfl l1 l2
  exact run_Gc (args := ⟨u :: us, ks.zip ws⟩) ok F b I (.cons ru (Vals.perm (r.append rz) pm)) (.cons rd ((rds.append re).perm pm)) tb (hlen _ _ _ h) h
/-! ### a class with slots -/
theorem cal_clsK {j : Nat} {f : Addr} {fd : FuncData} {self x0 x1 x2 c nm : Str} {C0 : Call} {nN : Nat} {b : Sms} {ks : List Str} {n : Nat} {pm : List Nat} (M : Mk G.K (He.ga G.K c) f) (F : FnOk p.P p.w G.K p.mg p.base (L2.CX p.P p.w) j f fd [self, x0, x1, x2] (spI G C0 c nN b)) (hk : k = j + 1)
    (hC : ∀ ds Q E, C nm ds Q E → initW G.B C0 c nN b ds Q E) (hb : KBs G.K fd [self, x0, x1, x2] 1 ks n pm) : CalK p G C k (.ref (He.ga G.K c)) nm ks n pm := by
  intro X W pins σ H s Q us ws vs zs ds es ok I r rz l1 l2 rd re tb h
  subst hk
  have hK := ok.bs.K
  have F' : FnOk X.prog X.w X.K X.mg X.base (L2.CX p.P p.w) j f fd [self, x0, x1, x2] (spI G C0 c nN b) := by
    rw [ok.P, ok.w, hK, ok.mg, ok.base]
    exact F
  have kb : KBn X.K fd [self, x0, x1, x2] (n + 1) ks (fun us ws => us.take 1 ++ pm.map fun j => (us.drop 1 ++ ws).getD j .none) (fun vs zs => vs.take 1 ++ pm.map fun j => (vs.drop 1 ++ zs).getD j .non) := by
    refine ⟨fun s us ws kin e1 e2 => ?_, fun {vs us zs ws} r1 r2 => ?_⟩
    · rw [hK] at kin
      match us, e1 with
      | u :: us, e1 =>
        have := hb s [u] us ws kin rfl (by simpa using e1) e2
        simpa using this
    · cases r1 with
      | nil => exact .append .nil (Vals.perm (.append .nil r2) pm)
      | cons a b => exact .append (.cons a .nil) (Vals.perm (Vals.append b r2) pm)
  refine run_makeN (n := n) (by rw [hK]; exact M) F' ok.room kb (ok.passes σ) I r rz (by rw [r.length]; exact l1) (by rw [rz.length]; exact l2) fun x dx h1 h2 hne => ?_
  refine ⟨x, dx, _, _, H, Q, rfl, rfl, h1, h2, hne, (rd.append re).perm pm, tb, fun H' q => ⟨rfl, q⟩, ?_⟩
  exact hC _ _ _ h
/-- positions alone -/
theorem CalK.pos {u : Value} {nm : Str} {n : Nat} (F : CalK p G C k u nm [] n (List.range n)) (hlen : ∀ ds Q E, C nm ds Q E → ds.length = n) : CalP p G C k u nm := by
  intro X W pins σ H s Q us vs ds ok I r rd tb h
  have hl := hlen _ _ _ h
  refine F X W pins σ H s Q us [] vs [] ds [] ok I r .nil (by rw [← r.length, ← rd.length]; exact hl) rfl rd .nil tb ?_
  have e : ((List.range n).map fun j => (ds ++ []).getD j .non) = ds := by
    rw [List.append_nil]
    refine List.ext_getElem (by simp [hl]) fun i h1 h2 => ?_
    simp only [List.getElem_map, List.getElem_range]
    rw [List.getD_eq_getElem?_getD, List.getElem?_eq_getElem h2]
    rfl
  rw [e]
  exact h
/-! ### by name -/
theorem kwNames {kws : List Keyword} {ks : List Str} {pos : Pos} {env : PySem.Env} (h : kws.map (fun (k : Keyword) => k.arg) = ks.map some) :
    (backToKw pos (keywordEach kws env)).all (·.1.isSome) = true ∧ (backToKw pos (keywordEach kws env)).filterMap (·.1) = ks ∧ (backToKw pos (keywordEach kws env)).any (·.1.isNone) = false := by
  induction kws generalizing ks with
  | nil =>
    cases ks with
    | nil => exact ⟨rfl, rfl, rfl⟩
    | cons a b => cases h
  | cons x xs ih =>
    obtain ⟨nm, v, pp⟩ := x
    cases ks with
    | nil => cases h
    | cons a b =>
      simp only [List.map_cons, List.cons.injEq] at h
      obtain ⟨h1, h2, h3⟩ := ih (ks := b) h.2
      have e : nm = some a := h.1
      subst e
      refine ⟨?_, ?_, ?_⟩
      · show (true && (backToKw pos (keywordEach xs env)).all (·.1.isSome)) = true
        rw [h1]
        rfl
      · show a :: (backToKw pos (keywordEach xs env)).filterMap (·.1) = a :: b
        rw [h2]
      · show (false || (backToKw pos (keywordEach xs env)).any (·.1.isNone)) = false
        rw [h3]
        rfl
section
variable {X : Cx} {W : WX} (hB : G.B.Mono) (hC : MonoC C) (ok : OkX p G k X W)
include hB hC ok
theorem fn_call {u : Value} {nm f : Str} (F : CalP p G C k u nm) (hm : p.mg f = some u) (hk : PySem.W.keepIn G.K u = true) {args : List Expr} {is : Exs} {pp pos : Pos} (hg : Gl X f) (ho : odd f = false) (hst : ∀ e ∈ args, isStar e = false) (hnil : args = [] → is = .nil)
    (ha : PA X args (rdA G C W is)) (i : Ex) (hi : ∀ r Q E, evR G.B C i r Q E → (evAs G.B C is r).R (fun xs => C nm xs Q E) E) : PE X (.Call (.Name f pp) args [] pos) (rdR G C W i) := by
  obtain ⟨o1, o2, o3⟩ := odd_cases ho
  refine ⟨fun pins s σ H Q I ⟨r, re, tb, z⟩ => ?_⟩
  have z := hi _ _ _ z
  have hA : rdA G C W is σ H (fun vs H1 => ∃ ds, RDs G.K H1 ds vs ∧ Tb G H1 ∧ C nm ds (qS G Q H1) (exq G W σ H1)) :=
    a_bind hB hC re tb (LamX.ExtN.refl H) z fun ds vs H1 rs x1 t1 f => ⟨ds, rs, t1, hC _ _ _ _ _ _ (fun x z v H' rr x2 t => z v H' (rr.back x1) (x1.trans x2) t) (fun c ds z => exq.ext x1 c ds z) f⟩
  refine wpAny_Call_Name_kw (ld_glob I hg (by rw [ok.mg]; exact hm) ?_ o1)
  cases args with
  | nil =>
    have kin : G.K.In s.heap := by rw [← ok.bs.K]; exact I.kIn
    refine PySem.W.callWith_K0 kin hk ?_
    have e := hnil rfl
    subst e
    unfold evAs at z
    exact F X W pins σ H s Q [] [] [] ok I .nil .nil tb z
  | cons e es =>
    refine PySem.W.callWith_K (K := G.K) (h₀ := X.base) (by rw [← ok.bs.K]; exact I.ok.mod.kin) hk (thn (ha.run pos pins s σ H _ I hA) fun us s1 ⟨vs, H1, I1, rv, ds, rd, t1, hc⟩ => ⟨by rw [← ok.bs.K]; exact I1.kIn, ?_⟩) (starEach_cons (hst e List.mem_cons_self)) (noStars fun x hx => hst x (List.mem_cons_of_mem _ hx))
    exact F X W pins σ H1 s1 Q us vs ds ok I1 rv rd t1 hc
theorem kw_call {u : Value} {nm : Str} {first : List Value} {ks : List Str} {n : Nat} {pm : List Nat} {args : List Expr} {kws : List Keyword} {is js : Exs} {pos : Pos} {P : Heap → Prop} (hP : ∀ pins σ H s, Inv X pins σ H s → P s.heap → True)
    (hkeep : ∀ h, P h → ∃ k, (k = Keeper.frame ∨ k = Keeper.machine ∨ k = Keeper.boundFrame) ∧ PySem.W.Looks (model X.prog X.w) h (keeperOf u) k)
    (hst : ∀ e ∈ args, isStar e = false) (hks : kws.map (fun (k : Keyword) => k.arg) = ks.map some) (hnil : args = [] → is = .nil) (hlen : args.length = n) (hne : kws ≠ [])
    (ha : PA X args (rdA G C W is)) (hkw : PK X kws (rdA G C W js)) {pins : List (Addr × Obj)} {σ : L2.St} {H : Hp} {s : Shared} {Q : Value → Shared → Prop} {r : Env} {F : List D → List D → Prop} (I : Inv X pins σ H s) (re : RE G.K H r σ) (tb : Tb G H)
    (z : (evAs G.B C is r).R (fun xs => (evAs G.B C js r).R (fun ys => F xs ys) (exq G W σ H)) (exq G W σ H))
    (cont : ∀ us ws vs zs ds es H2 s2, Inv X pins σ H2 s2 → Vals vs us → Vals zs ws → RDs G.K H2 ds vs → RDs G.K H2 es zs → Tb G H2 → ExN H H2 → F ds es → P s2.heap ∧ wpAny (model X.prog X.w) X.A (call u (first ++ us) (ks.zip ws)) Q X.xe s2) :
    wpAny (model X.prog X.w) X.A (callWith pos u first (backTo pos (starEach args X.env)) (backToKw pos (keywordEach kws X.env))) Q X.xe s := by
  obtain ⟨n1, n2, n3⟩ := kwNames (pos := pos) (env := X.env) hks
  have kwrun : ∀ {us : List Value} {vs : List V} {ds : List D} {H1 : Hp} {s1 : Shared}, Inv X pins σ H1 s1 → Vals vs us → RDs G.K H1 ds vs → Tb G H1 → ExN H H1 → (evAs G.B C js r).R (fun ys => F ds ys) (exq G W σ H) →
      wpAny (model X.prog X.w) X.A (evalAll ((backToKw pos (keywordEach kws X.env)).map (·.2))) (fun ws s2 => P s2.heap ∧ wpAny (model X.prog X.w) X.A (call u (first ++ us) (((backToKw pos (keywordEach kws X.env)).filterMap (·.1)).zip ws)) Q X.xe s2) X.xe s1 := fun {us vs ds H1 s1} I1 rv rd t1 x1 z1 => by
    have hA : rdA G C W js σ H1 (fun zs H2 => ∃ es, RDs G.K H2 es zs ∧ Tb G H2 ∧ ExN H1 H2 ∧ F ds es) := a_bind hB hC (re.ext x1) t1 x1 z1 fun es zs H2 rs x2 t2 f => ⟨es, rs, t2, x2, f⟩
    refine thn (hkw.run pos pins s1 σ H1 _ I1 hA) fun ws s2 ⟨zs, H2, I2, rz, es, res, t2, x2, f⟩ => ?_
    rw [n2]
    exact cont us ws vs zs ds es H2 s2 I2 rv rz (rd.stb (ExN.stb x2)) res t2 (x1.trans x2) f
  cases args with
  | nil =>
    have e := hnil rfl
    subst e
    rw [evAs_nilR] at z
    refine PySem.W.callWith_of (P := P) (by rw [n3]; rfl) hkeep (evalArgs_kw2_nil n1 ?_)
    exact kwrun I .nil .nil tb (LamX.ExtN.refl H) z
  | cons e es =>
    have h1 := starEach_cons (env := X.env) (es := es) (hst e List.mem_cons_self)
    have h2 := noStars (env := X.env) (pos := pos) hst
    refine PySem.W.callWith_of (P := P) (by rw [n3, h2]; rfl) hkeep (evalArgs_kw2 n1 ?_ h1)
    have hA : rdA G C W is σ H (fun vs H1 => ∃ ds, RDs G.K H1 ds vs ∧ Tb G H1 ∧ ExN H H1 ∧ (evAs G.B C js r).R (fun ys => F ds ys) (exq G W σ H)) :=
      a_bind hB hC re tb (LamX.ExtN.refl H) z fun ds vs H1 rs x1 t1 f => ⟨ds, rs, t1, x1, f⟩
    exact thn (ha.run pos pins s σ H _ I hA) fun us s1 ⟨vs, H1, I1, rv, ds, rd, t1, x1, f⟩ => kwrun I1 rv rd t1 x1 f
theorem fnk_call {u : Value} {f : Str} {ks : List Str} {n : Nat} {pm : List Nat} (F : CalK p G C k u f ks n pm) (hm : p.mg f = some u) (hk : PySem.W.keepIn G.K u = true) {args : List Expr} {kws : List Keyword} {is js : Exs} {pp pos : Pos} (hg : Gl X f) (ho : odd f = false)
    (hst : ∀ e ∈ args, isStar e = false) (hks : kws.map (fun (k : Keyword) => k.arg) = ks.map some) (hnil : args = [] → is = .nil) (hlen : args.length = n) (hne : kws ≠ []) (hla : exsN is = some n) (hlk : exsN js = some ks.length)
    (ha : PA X args (rdA G C W is)) (hkw : PK X kws (rdA G C W js)) : PE X (.Call (.Name f pp) args kws pos) (rdR G C W (.fnk f pm is js)) := by
  obtain ⟨o1, o2, o3⟩ := odd_cases ho
  refine ⟨fun pins s σ H Q I ⟨r, re, tb, z⟩ => ?_⟩
  refine wpAny_Call_Name_kw (ld_glob I hg (by rw [ok.mg]; exact hm) ?_ o1)
  have z : (evAs G.B C is r).R (fun xs => (evAs G.B C js r).R (fun ys => C f (pm.map fun j => (xs ++ ys).getD j .non) (fun x => ∀ v H', RR G.K H H' x v → ExN H H' → Tb G H' → Q v H') (exq G W σ H)) (exq G W σ H)) (exq G W σ H) := z
  have z2 := evAs_len hB hC hla ((evAs_mono hB hC is r).R _ _ _ _ (fun xs z => evAs_len hB hC hlk z) (fun _ _ z => z) z)
  have z3 : (evAs G.B C is r).R (fun xs => (evAs G.B C js r).R (fun ys => xs.length = n ∧ ys.length = ks.length ∧ C f (pm.map fun j => (xs ++ ys).getD j .non) (fun x => ∀ v H', RR G.K H H' x v → ExN H H' → Tb G H' → Q v H') (exq G W σ H)) (exq G W σ H)) (exq G W σ H) :=
    (evAs_mono hB hC is r).R _ _ _ _ (fun xs ⟨e, z⟩ => (evAs_mono hB hC js r).R _ _ _ _ (fun ys z => ⟨e, z⟩) (fun _ _ z => z) z) (fun _ _ z => z) z2
  refine kw_call hB hC ok (nm := f) (pm := pm) (P := G.K.In) (fun _ _ _ _ _ _ => trivial) (PySem.W.keeps_K hk) hst hks hnil hlen hne ha hkw I re tb z3 fun us ws vs zs ds es H2 s2 I2 rv rz rd rs t2 x2 ⟨l1, l2, hc⟩ => ⟨by rw [← ok.bs.K]; exact I2.kIn, ?_⟩
  refine F X W pins σ H2 s2 Q us ws vs zs ds es ok I2 rv rz (by rw [← rv.length, ← rd.length]; exact l1) (by rw [← rz.length, ← rs.length]; exact l2) rd rs t2 ?_
  exact hC _ _ _ _ _ _ (fun x z v H' rr x3 t => z v H' (rr.back x2) (x2.trans x3) t) (fun c ds z => exq.ext x2 c ds z) hc
end
end
end En
/-! En23: methods of own classes, of objects with slots; class methods. -/
namespace En
open PySem L2 PyProof.Rows
section
variable {p : Pg} {G : Cfg} {g : Gi} {C : Call} {k : Nat} {X : Cx} {W : WX}
/-- the node of a method's call -/
theorem mnode {M : Model} {A : Around} {E : Value → Shared → Prop} {s : Shared} {o : Expr} {m : Str} {ap cp : Pos} {args : List Expr} {kws : List Keyword} {env : PySem.Env} {Q : Value → Shared → Prop} (hsup : isSup o = false) (hl : (ap.endLine == cp.line) = true)
    (hst : ∀ e ∈ args, isStar e = false) (hkw : (backToKw cp (keywordEach kws env)).all (·.1.isSome) = true) (hlen : args.length + kws.length < 20)
    (h : wpAny M A (eval o env) (fun ov s1 => wpAny M A (getMethod ov m (plainOf o env)) (fun fx s2 => wpAny M A (callWith cp fx.1 fx.2 (backTo cp (starEach args env)) (backToKw cp (keywordEach kws env))) Q E s2) E s1) E s) :
    wpAny M A (eval (.Call (.Attribute o m ap) args kws cp) env) Q E s := by
  have few : methodCallForm (args.length + kws.length) (backTo cp (starEach args env)) (backToKw cp (keywordEach kws env)) = true := by
    unfold methodCallForm
    have h3 := noStars (env := env) (pos := cp) hst
    have h4 : (backTo cp (starEach args env)).all (fun x => !x.1) = true := by
      rw [List.all_eq_true]
      intro x hx
      have := List.any_eq_false.mp h3 x hx
      simpa using this
    have h5 : decide (args.length + kws.length + (if (backToKw cp (keywordEach kws env)).isEmpty then 0 else 1) < 30) = true := by
      refine decide_eq_true ?_
      split <;> omega
    rw [h4, hkw, h5]
    rfl
  refine PySem.W.methodCall_KW (pl := plainOf o env) h ?_
  show (do
    let ov ← attributeBase o m env (eval o env)
    standAt ap.atName
    methodCall o m ap cp env ov (args.length + kws.length) (backTo cp (starEach args env)) (backToKw cp (keywordEach kws env))) = _
  rw [attrBase_ok hsup]
  simp only [mcall_line few hl]
variable (hB : G.B.Mono) (hC : MonoC C) (ok : OkX p G k X W)
include hB hC ok
/-- values alone -/
theorem pos_call {u : Value} {first : List Value} {args : List Expr} {is : Exs} {pos : Pos} {P : Heap → Prop}
    (hkeep : ∀ h, P h → ∃ k, (k = Keeper.frame ∨ k = Keeper.machine ∨ k = Keeper.boundFrame) ∧ PySem.W.Looks (model X.prog X.w) h (keeperOf u) k)
    (hst : ∀ e ∈ args, isStar e = false) (hnil : args = [] → is = .nil)
    (ha : PA X args (rdA G C W is)) {pins : List (Addr × Obj)} {σ : L2.St} {H : Hp} {s : Shared} {Q : Value → Shared → Prop} {r : Env} {F : List D → Prop} {H0 : Hp} (I : Inv X pins σ H s) (re : RE G.K H r σ) (tb : Tb G H) (x0 : ExN H0 H)
    (z : (evAs G.B C is r).R (fun xs => F xs) (exq G W σ H0))
    (cont : ∀ us vs ds H2 s2, Inv X pins σ H2 s2 → Vals vs us → RDs G.K H2 ds vs → Tb G H2 → ExN H H2 → F ds → P s2.heap ∧ wpAny (model X.prog X.w) X.A (call u (first ++ us)) Q X.xe s2) :
    wpAny (model X.prog X.w) X.A (callWith pos u first (backTo pos (starEach args X.env)) []) Q X.xe s := by
  cases args with
  | nil =>
    have e := hnil rfl
    subst e
    rw [evAs_nilR] at z
    refine PySem.W.callWith_of (P := P) rfl hkeep (evalArgs_nil3 ?_)
    exact cont [] [] [] H s I .nil .nil tb (LamX.ExtN.refl H) z
  | cons e es =>
    have h1 := starEach_cons (env := X.env) (es := es) (hst e List.mem_cons_self)
    have h2 := noStars (env := X.env) (pos := pos) hst
    have hA : rdA G C W is σ H (fun vs H1 => ∃ ds, RDs G.K H1 ds vs ∧ Tb G H1 ∧ ExN H H1 ∧ F ds) :=
      a_bind hB hC re tb x0 z fun ds vs H1 rs x1 t1 f => ⟨ds, rs, t1, x1, f⟩
    have run := ha.run pos pins s σ H _ I hA
    rw [h1] at run h2 ⊢
    refine PySem.W.callWith_of (P := P) (by rw [h2]; rfl) hkeep (Calls.evalArgs_plain ?_)
    exact thn run fun us s1 ⟨vs, H1, I1, rv, ds, rd, t1, x1, f⟩ => cont us vs ds H1 s1 I1 rv rd t1 x1 f
/-- values and keywords, behind a receiver -/
theorem kw_call2 {u : Value} {first : List Value} {ks : List Str} {args : List Expr} {kws : List Keyword} {is js : Exs} {pos : Pos} {P : Heap → Prop}
    (hkeep : ∀ h, P h → ∃ k, (k = Keeper.frame ∨ k = Keeper.machine ∨ k = Keeper.boundFrame) ∧ PySem.W.Looks (model X.prog X.w) h (keeperOf u) k)
    (hst : ∀ e ∈ args, isStar e = false) (hks : kws.map (fun (k : Keyword) => k.arg) = ks.map some) (hnil : args = [] → is = .nil)
    (ha : PA X args (rdA G C W is)) (hkw : PK X kws (rdA G C W js)) {pins : List (Addr × Obj)} {σ : L2.St} {H0 H : Hp} {s : Shared} {Q : Value → Shared → Prop} {r : Env} {F : List D → List D → Prop} (I : Inv X pins σ H s) (re : RE G.K H r σ) (tb : Tb G H) (x0 : ExN H0 H)
    (z : (evAs G.B C is r).R (fun xs => (evAs G.B C js r).R (fun ys => F xs ys) (exq G W σ H0)) (exq G W σ H0))
    (cont : ∀ us ws vs zs ds es H2 s2, Inv X pins σ H2 s2 → Vals vs us → Vals zs ws → RDs G.K H2 ds vs → RDs G.K H2 es zs → Tb G H2 → ExN H H2 → F ds es → P s2.heap ∧ wpAny (model X.prog X.w) X.A (call u (first ++ us) (ks.zip ws)) Q X.xe s2) :
    wpAny (model X.prog X.w) X.A (callWith pos u first (backTo pos (starEach args X.env)) (backToKw pos (keywordEach kws X.env))) Q X.xe s := by
  obtain ⟨n1, n2, n3⟩ := kwNames (pos := pos) (env := X.env) hks
  have kwrun : ∀ {us : List Value} {vs : List V} {ds : List D} {H1 : Hp} {s1 : Shared}, Inv X pins σ H1 s1 → Vals vs us → RDs G.K H1 ds vs → Tb G H1 → ExN H H1 → (evAs G.B C js r).R (fun ys => F ds ys) (exq G W σ H0) →
      wpAny (model X.prog X.w) X.A (evalAll ((backToKw pos (keywordEach kws X.env)).map (·.2))) (fun ws s2 => P s2.heap ∧ wpAny (model X.prog X.w) X.A (call u (first ++ us) (((backToKw pos (keywordEach kws X.env)).filterMap (·.1)).zip ws)) Q X.xe s2) X.xe s1 := fun {us vs ds H1 s1} I1 rv rd t1 x1 z1 => by
    have hA : rdA G C W js σ H1 (fun zs H2 => ∃ es, RDs G.K H2 es zs ∧ Tb G H2 ∧ ExN H1 H2 ∧ F ds es) := a_bind hB hC (re.ext x1) t1 (x0.trans x1) z1 fun es zs H2 rs x2 t2 f => ⟨es, rs, t2, x2, f⟩
    refine thn (hkw.run pos pins s1 σ H1 _ I1 hA) fun ws s2 ⟨zs, H2, I2, rz, es, res, t2, x2, f⟩ => ?_
    rw [n2]
    exact cont us ws vs zs ds es H2 s2 I2 rv rz (rd.stb (ExN.stb x2)) res t2 (x1.trans x2) f
  cases args with
  | nil =>
    have e := hnil rfl
    subst e
    rw [evAs_nilR] at z
    refine PySem.W.callWith_of (P := P) (by rw [n3]; rfl) hkeep (evalArgs_kw2_nil n1 ?_)
    exact kwrun I .nil .nil tb (LamX.ExtN.refl H) z
  | cons e es =>
    have h1 := starEach_cons (env := X.env) (es := es) (hst e List.mem_cons_self)
    have h2 := noStars (env := X.env) (pos := pos) hst
    refine PySem.W.callWith_of (P := P) (by rw [n3, h2]; rfl) hkeep (evalArgs_kw2 n1 ?_ h1)
    have hA : rdA G C W is σ H (fun vs H1 => ∃ ds, RDs G.K H1 ds vs ∧ Tb G H1 ∧ ExN H H1 ∧ (evAs G.B C js r).R (fun ys => F ds ys) (exq G W σ H0)) :=
      a_bind hB hC re tb x0 z fun ds vs H1 rs x1 t1 f => ⟨ds, rs, t1, x1, f⟩
    exact thn (ha.run pos pins s σ H _ I hA) fun us s1 ⟨vs, H1, I1, rv, ds, rd, t1, x1, f⟩ => kwrun I1 rv rd t1 x1 f
end
/-- a method: of objects of the class c, or of the class itself -/
inductive MthOk (G : Cfg) (m : Str) (gt : Addr) : D → Prop
  | obj {c : Str} (fs : List D) (sc : SlX.SCls G.K (He.ga G.K c)) (me : Meth G.K (He.ga G.K c) m gt) : MthOk G m gt (.obj c fs)
  | cls {c : Str} {q : Addr} {mc : Value} (r : ClX.CRead G.K (He.ga G.K c) mc) (me : ClX.CMet G.K (He.ga G.K c) mc m q gt) : MthOk G m gt (.cls c)
section
variable {p : Pg} {G : Cfg} {g : Gi} {C : Call} {k : Nat} {X : Cx} {W : WX} (hB : G.B.Mono) (hC : MonoC C) (ok : OkX p G k X W)
include hB hC ok
theorem mcl_call {m key : Str} {gt : Addr} (hmo : ∀ d, G.B.mok key d = true → MthOk G m gt d) (F : CalC p G C k gt key) {o : Expr} {io : Ex} {args : List Expr} {is : Exs} {ap cp : Pos} (hl : (ap.endLine == cp.line) = true) (hlen : args.length < 20) (hst : ∀ e ∈ args, isStar e = false) (hnil : args = [] → is = .nil)
    (ho : PE X o (rdV G C W io)) (ha : PA X args (rdA G C W is)) (hsup : isSup o = false) : PE X (.Call (.Attribute o m ap) args [] cp) (rdR G C W (.mcl key io is)) := by
  refine ⟨fun pins s σ H Q I ⟨r, re, tb, z⟩ => mnode hsup hl hst rfl (by simpa using hlen) ?_⟩
  have z : evR G.B C io r (fun x => G.B.mok key x.d = true ∧ (evAs G.B C is r).R (fun xs => C key (x.d :: xs) (fun x => ∀ v H', RR G.K H H' x v → ExN H H' → Tb G H' → Q v H') (exq G W σ H)) (exq G W σ H)) (exq G W σ H) := z
  have hO : rdV G C W io σ H (fun v H1 => ∃ d, RD G.K H1 d v ∧ Tb G H1 ∧ ExN H H1 ∧ G.B.mok key d = true ∧ (evAs G.B C is r).R (fun xs => C key (d :: xs) (fun x => ∀ v H', RR G.K H H' x v → ExN H H' → Tb G H' → Q v H') (exq G W σ H)) (exq G W σ H)) :=
    v_bind hB hC re tb (LamX.ExtN.refl H) z fun x v H1 rd x1 t1 f => ⟨x.d, rd, t1, x1, f.1, f.2⟩
  refine thn (ho.run pins s σ H _ I hO) fun u s1 ⟨v, H1, I1, rv, d, rd, t1, x1, hm, hz⟩ => ?_
  have hmk := hmo d hm
  cases hmk with
  | obj fs sc me =>
    have rd' := rd
    cases rd with
    | @obj _ a dx vs _ hsl rs =>
      obtain rfl : u = Value.ref a := rv
      refine SlX.getmethsl_ok I1 hsl (by rw [ok.bs.K]; exact sc) (by rw [ok.bs.K]; exact me) ?_
      refine pos_call hB hC ok (P := G.K.In) (PySem.W.keeps_K me.kp) hst hnil ha I1 (re.ext x1) t1 x1 hz fun us vs ds H2 s2 I2 rv2 rd2 t2 x2 f => ⟨by rw [← ok.bs.K]; exact I2.kIn, ?_⟩
      exact wpAny_call (F X W pins σ H2 s2 Q (.ref a :: us) (.ref a :: vs) (_ :: ds) ok I2 (.cons rfl rv2) (.cons (rd'.stb (ExN.stb x2)) rd2) t2 (hC _ _ _ _ _ _ (fun x z v H' rr x3 t => z v H' (rr.back (x1.trans x2)) ((x1.trans x2).trans x3) t) (fun c ds z => exq.ext (x1.trans x2) c ds z) f))
  | @cls c q mc r' me =>
    have rd' := rd
    cases rd with
    | cls =>
      obtain rfl : u = Value.ref (He.ga G.K c) := rv
      refine ClX.getmethcm_ok I1 (by rw [ok.bs.K]; exact r') (by rw [ok.bs.K]; exact me) fun s2 I2 => ?_
      refine thn (pos_call hB hC ok (Q := EP X ((s1.heap.objs.size, PySem.W.methodObj (.ref gt) (.ref (He.ga G.K c))) :: pins) σ Q) (P := PySem.W.MethP G.K s1.heap.objs.size gt (.ref (He.ga G.K c))) (PySem.W.keeps_M me.fi) hst hnil ha I2 (re.ext x1) t1 x1 hz fun us vs ds H2 s3 I3 rv2 rd2 t2 x2 f => ⟨⟨ClX.pin_at I3, by rw [← ok.bs.K]; exact I3.kIn⟩, ?_⟩) fun _ _ y => ClX.unpinE y
      refine wpAny_call (PySem.W.method_call (ClX.pin_at I3) ?_)
      exact F X W _ σ H2 s3 Q (.ref (He.ga G.K c) :: us) (.ref (He.ga G.K c) :: vs) (_ :: ds) ok I3 (.cons rfl rv2) (.cons (rd'.stb (ExN.stb x2)) rd2) t2 (hC _ _ _ _ _ _ (fun x z v H' rr x3 t => z v H' (rr.back (x1.trans x2)) ((x1.trans x2).trans x3) t) (fun c ds z => exq.ext (x1.trans x2) c ds z) f)
theorem mck_call {m key : Str} {gt : Addr} {ks : List Str} {n : Nat} {pm : List Nat} (hmo : ∀ d, G.B.mok key d = true → MthOk G m gt d) (F : CalCK p G C k gt key ks n pm) {o : Expr} {io : Ex} {args : List Expr} {kws : List Keyword} {is js : Exs} {ap cp : Pos} (hl : (ap.endLine == cp.line) = true) (hlen : args.length + kws.length < 20) (hst : ∀ e ∈ args, isStar e = false) (hnil : args = [] → is = .nil)
    (hks : kws.map (fun (k : Keyword) => k.arg) = ks.map some) (hla : exsN is = some n) (hlk : exsN js = some ks.length)
    (ho : PE X o (rdV G C W io)) (ha : PA X args (rdA G C W is)) (hkw : PK X kws (rdA G C W js)) (hsup : isSup o = false) : PE X (.Call (.Attribute o m ap) args kws cp) (rdR G C W (.mck key pm io is js)) := by
  refine ⟨fun pins s σ H Q I ⟨r, re, tb, z⟩ => mnode hsup hl hst (kwNames hks).1 hlen ?_⟩
  have z : evR G.B C io r (fun x => G.B.mok key x.d = true ∧ (evAs G.B C is r).R (fun xs => (evAs G.B C js r).R (fun ys => C key (x.d :: pm.map fun j => (xs ++ ys).getD j .non) (fun x => ∀ v H', RR G.K H H' x v → ExN H H' → Tb G H' → Q v H') (exq G W σ H)) (exq G W σ H)) (exq G W σ H)) (exq G W σ H) := z
  have hO : rdV G C W io σ H (fun v H1 => ∃ d, RD G.K H1 d v ∧ Tb G H1 ∧ ExN H H1 ∧ G.B.mok key d = true ∧ (evAs G.B C is r).R (fun xs => (evAs G.B C js r).R (fun ys => xs.length = n ∧ ys.length = ks.length ∧ C key (d :: pm.map fun j => (xs ++ ys).getD j .non) (fun x => ∀ v H', RR G.K H H' x v → ExN H H' → Tb G H' → Q v H') (exq G W σ H)) (exq G W σ H)) (exq G W σ H)) :=
    v_bind hB hC re tb (LamX.ExtN.refl H) z fun x v H1 rd x1 t1 f => ⟨x.d, rd, t1, x1, f.1, by
      have z2 := evAs_len hB hC hla ((evAs_mono hB hC is r).R _ _ _ _ (fun xs z => evAs_len hB hC hlk z) (fun _ _ z => z) f.2)
      exact (evAs_mono hB hC is r).R _ _ _ _ (fun xs ⟨e, z⟩ => (evAs_mono hB hC js r).R _ _ _ _ (fun ys z => ⟨e, z⟩) (fun _ _ z => z) z) (fun _ _ z => z) z2⟩
  refine thn (ho.run pins s σ H _ I hO) fun u s1 ⟨v, H1, I1, rv, d, rd, t1, x1, hm, hz⟩ => ?_
  have hmk := hmo d hm
  cases hmk with
  | obj fs sc me =>
    have rd' := rd
    cases rd with
    | @obj _ a dx vs _ hsl rs =>
      obtain rfl : u = Value.ref a := rv
      refine SlX.getmethsl_ok I1 hsl (by rw [ok.bs.K]; exact sc) (by rw [ok.bs.K]; exact me) ?_
      refine kw_call2 hB hC ok (P := G.K.In) (PySem.W.keeps_K me.kp) hst hks hnil ha hkw I1 (re.ext x1) t1 x1 hz fun us ws vs zs ds es H2 s2 I2 rv2 rz rd2 re2 t2 x2 ⟨l1, l2, f⟩ => ⟨by rw [← ok.bs.K]; exact I2.kIn, ?_⟩
      exact wpAny_call (F X W pins σ H2 s2 Q (.ref a) us ws (.ref a) vs zs _ ds es ok I2 rfl rv2 rz (by rw [← rv2.length, ← rd2.length]; exact l1) (by rw [← rz.length, ← re2.length]; exact l2) (rd'.stb (ExN.stb x2)) rd2 re2 t2 (hC _ _ _ _ _ _ (fun x z v H' rr x3 t => z v H' (rr.back (x1.trans x2)) ((x1.trans x2).trans x3) t) (fun c ds z => exq.ext (x1.trans x2) c ds z) f))
  | @cls c q mc r' me =>
    have rd' := rd
    cases rd with
    | cls =>
      obtain rfl : u = Value.ref (He.ga G.K c) := rv
      refine ClX.getmethcm_ok I1 (by rw [ok.bs.K]; exact r') (by rw [ok.bs.K]; exact me) fun s2 I2 => ?_
      refine thn (kw_call2 hB hC ok (Q := EP X ((s1.heap.objs.size, PySem.W.methodObj (.ref gt) (.ref (He.ga G.K c))) :: pins) σ Q) (P := PySem.W.MethP G.K s1.heap.objs.size gt (.ref (He.ga G.K c))) (PySem.W.keeps_M me.fi) hst hks hnil ha hkw I2 (re.ext x1) t1 x1 hz fun us ws vs zs ds es H2 s3 I3 rv2 rz rd2 re2 t2 x2 ⟨l1, l2, f⟩ => ⟨⟨ClX.pin_at I3, by rw [← ok.bs.K]; exact I3.kIn⟩, ?_⟩) fun _ _ y => ClX.unpinE y
      refine wpAny_call (PySem.W.method_call (ClX.pin_at I3) ?_)
      exact F X W _ σ H2 s3 Q (.ref (He.ga G.K c)) us ws (.ref (He.ga G.K c)) vs zs _ ds es ok I3 rfl rv2 rz (by rw [← rv2.length, ← rd2.length]; exact l1) (by rw [← rz.length, ← re2.length]; exact l2) (rd'.stb (ExN.stb x2)) rd2 re2 t2 (hC _ _ _ _ _ _ (fun x z v H' rr x3 t => z v H' (rr.back (x1.trans x2)) ((x1.trans x2).trans x3) t) (fun c ds z => exq.ext (x1.trans x2) c ds z) f)
end
end En
/-! En24: ghosts: the pail of draws as a list that changes, and back. -/
namespace En
open PySem L2 PyProof.Rows
section
variable {X : Cx} {G : Cfg}
/-- one thing is told otherwise -/
theorem Inv.ghost {pins : List (Addr × Obj)} {σ : L2.St} {H : Hp} {s : Shared} {p : Addr} {o o' : HO} (I : Inv X pins σ H s) (h : H p = some o) (nt : ∀ xs, o ≠ .tup xs) (nf : ∀ a b, o ≠ .frz a b) (nb : ∀ ps, o ≠ .tbl ps) (no : ∀ a, o ≠ .own a)
    (ok' : ObjOk X.prog X.w (upd H p o') s.heap p o') : Inv X pins σ (upd H p o') s := by
  refine I.un (h' := s.heap) (t' := s.toks) (H' := upd H p o') ⟨fun b o q _ _ _ => q, fun b o q _ _ _ => ⟨o.slots, q⟩, fun b o _ n _ => ?_, fun b o q _ => ⟨o, q⟩, fun b ys q => ?_, fun b o u q => ?_, fun b ps q => ⟨#[], ?_⟩⟩ fun b u q => ?_
  · rw [upd_ne (ne_of_none h n).symm]
    exact n
  · rw [upd_ne (ne_of q h (fun z => nt _ z.symm))]
    exact q
  · rw [upd_ne (ne_of q h (fun z => nf _ _ z.symm))]
    exact q
  · rw [upd_ne (ne_of q h (fun z => nb _ z.symm)), q]
    simp
  · by_cases hb : b = p
    · subst hb
      rw [upd_same] at q
      cases q
      exact ok'
    · rw [upd_ne hb] at q
      refine (I.hok b u q).stay (fun c v _ e => e) (fun c q => ?_) fun c ys q => ?_
      · rw [upd_ne (ne_of q h (fun z => no _ z.symm))]
        exact q
      · rw [upd_ne (ne_of q h (fun z => nt _ z.symm))]
        exact q
/-- three ints become a pail -/
theorem Inv.pail {pins : List (Addr × Obj)} {σ : L2.St} {H : Hp} {s : Shared} {p : Addr} {i j k : Int} (I : Inv X pins σ H s) (h : H p = some (.lst [.int i, .int j, .int k])) (h0 : 0 ≤ i) (h1 : 0 ≤ j) (h2 : j < 2147483648) : Inv X pins σ (upd H p (PailO p)) s := by
  have ok := I.hok p _ h
  refine Inv.ghost I h (fun _ z => nomatch z) (fun _ _ z => nomatch z) (fun _ z => nomatch z) (fun _ z => nomatch z) ?_
  obtain ⟨_, its, n, r, e⟩ := ok
  cases r with
  | cons a r =>
    cases r with
    | cons b r =>
      cases r with
      | cons c r =>
        cases r
        obtain ⟨t, rfl⟩ := (show ∃ t, _ = Value.int i t from a)
        obtain ⟨u, rfl⟩ := (show ∃ t, _ = Value.int j t from b)
        obtain ⟨w, rfl⟩ := (show ∃ t, _ = Value.int k t from c)
        refine ⟨⟨i, j, k, t, u, w, n, e, h0, h1, h2⟩, ⟨_, e⟩, fun a b ⟨i, j, k, t, u, w, n, e, h⟩ st => ⟨i, j, k, t, u, w, n, st _ e, h⟩⟩
/-- a pail becomes three ints -/
theorem Inv.thaw {pins : List (Addr × Obj)} {σ : L2.St} {H : Hp} {s : Shared} {p : Addr} (I : Inv X pins σ H s) (h : H p = some (PailO p)) : ∃ i j k : Int, 0 ≤ i ∧ 0 ≤ j ∧ j < 2147483648 ∧ Inv X pins σ (upd H p (.lst [.int i, .int j, .int k])) s := by
  have ok := I.hok p _ h
  obtain ⟨⟨i, j, k, t, u, w, n, e, h0, h1, h2⟩, _, _⟩ := ok
  refine ⟨i, j, k, h0, h1, h2, Inv.ghost I h (fun _ z => by unfold PailO at z; cases z) (fun _ _ z => by unfold PailO at z; cases z) (fun _ z => by unfold PailO at z; cases z) (fun _ z => by unfold PailO at z; cases z) ?_⟩
  exact ⟨by simp only [sizeLine_eq, List.length_cons, List.length_nil]; omega, [.int i t, .int j u, .int k w], n, .cons ⟨t, rfl⟩ (.cons ⟨u, rfl⟩ (.cons ⟨w, rfl⟩ .nil)), e⟩
theorem Tabs.upd {T : List (Addr × Str)} {H : Hp} {p : Addr} {o o' : HO} (t : LamX.Tabs T H) (h : H p = some o) (nb : ∀ ps, o ≠ .tbl ps) (nc : ∀ q, o ≠ LamX.CodeO p q) : LamX.Tabs T (L2.upd H p o') := fun q hq => by
  obtain ⟨ps, h1, h2, h3⟩ := t q hq
  refine ⟨ps, ?_, h2, fun pos cv hc => ?_⟩
  · rw [upd_ne (ne_of h1 h (fun z => nb _ z.symm))]
    exact h1
  · obtain ⟨c, e1, e2⟩ := h3 pos cv hc
    refine ⟨c, e1, ?_⟩
    have hne : c ≠ p := fun z => by
      subst z
      rw [h] at e2
      exact nc _ (Option.some.inj e2)
    rw [upd_ne hne]
    exact e2
theorem pail_code {pins : List (Addr × Obj)} {σ : L2.St} {H : Hp} {s : Shared} {p : Addr} (I : Inv X pins σ H s) (h : H p = some (PailO p)) (q : Str) : PailO p ≠ LamX.CodeO p q := fun z => by
  have ok := I.hok p _ h
  obtain ⟨⟨i, j, k, t, u, w, n, e, _⟩, _, _⟩ := id ok
  rw [z] at ok
  obtain ⟨⟨oc, vs, t', e', d, _⟩, _, _⟩ := ok
  rw [e] at e'
  cases e'
  cases d
end
/-! ### statements over a pail that is a list meanwhile -/
section
variable {X : Cx} {G : Cfg}
/-- a return that makes a pail of three ints -/
def gR (Q : VK) : VK := fun v H => ∃ p i j k, H p = some (.lst [.int i, .int j, .int k]) ∧ 0 ≤ i ∧ 0 ≤ j ∧ j < 2147483648 ∧ Q v (upd H p (PailO p))
theorem pss_gR {sts : List Stmt} {t : TS} (h : PSs X sts t) : PSs X sts fun D σ H => t { D with rt := gR D.rt } σ H := by
  refine ⟨fun pins s σ H D I q => thn (h.run pins s σ H _ I q) fun fl s1 z => ?_⟩
  cases fl with
  | next => exact z
  | cont => exact z
  | brk => exact z
  | ret v =>
    obtain ⟨v, σ1, H1, I1, rv, p, i, j, k, e, h0, h1, h2, q⟩ := z
    exact ⟨v, σ1, _, Inv.pail I1 e h0 h1 h2, rv, q⟩
/-- a pail that is thawed ahead -/
theorem pss_gS {sts : List Stmt} {t : TS} (h : PSs X sts t) : PSs X sts fun D σ H => ∃ p, H p = some (PailO p) ∧ (∀ q, PailO p ≠ LamX.CodeO p q → True) ∧ ∀ i j k : Int, 0 ≤ i → 0 ≤ j → j < 2147483648 → (∀ q, PailO p ≠ LamX.CodeO p q) → t D σ (upd H p (.lst [.int i, .int j, .int k])) := by
  refine ⟨fun pins s σ H D I ⟨p, e, _, q⟩ => ?_⟩
  obtain ⟨i, j, k, h0, h1, h2, I'⟩ := Inv.thaw I e
  exact h.run pins s σ _ D I' (q i j k h0 h1 h2 (pail_code I e))
end
/-! ### the two defs of draws -/
section
variable {p : Pg} {G : Cfg} {g : Gi} {C : Call}
theorem lstCode (xs : List V) (a : Addr) (q : Str) : HO.lst xs ≠ LamX.CodeO a q := fun z => by unfold LamX.CodeO at z; cases z
/-- a def that returns three ints, which become a pail -/
theorem fn_begun {k : Nat} (kn : Kn g G C (OkX p G k)) (er : ErrOk p G g C k) {x qual : Str} {params : Arguments} {body : List Stmt} {scope : Scope} {dvs : List V} {kws : List (Str × V)} {f : Addr} {fd : FuncData} {N ps mu : List Str} {n : Nat} {b : Sms}
    (F : FunD G.K x qual params body scope dvs kws f fd) (S : FnScope N ps scope) (hc : compSs g N mu n scope body = some b) (hlm : LmV p G (qual ++ ".<locals>.") fd.code)
    {C' : Call} {nm : Str} (hC' : ∀ ds Q E, C' nm ds Q E → exSs G.B C b { nx := fun _ => False, rt := fun x _ => ∃ i j k : Int, x = .fr [.int i, .int j, .int k] ∧ 0 ≤ i ∧ 0 ≤ j ∧ j < 2147483648 ∧ Q (.v .pail) } (startD N.length ds) E) : FnG p G C' (k + 1) f fd ps nm := by
  obtain ⟨oc, od, dV, kV, doc, pm, an, cdv, ct, osl, rfl, lk, hcd, _, _⟩ := F.ex
  intro A outer s H args us vs ds Q E hr hg e0 hb r rd tb hl h
  refine LamX.run_ofS (N := N) lk hcd S hr e0 hb r (by rw [← rd.length]; exact hl) fun hr2 => ⟨_, pss_gR (compSs_ok (H0 := H) (E := E) kn S.nd (X := cxOf (L2.CX p.P p.w) p.P p.w G.K p.mg p.base N qual scope f cdv A outer s H E) ?_ rfl rfl n body b hc), ?_⟩
  · have ok : OkX p G k (cxOf (L2.CX p.P p.w) p.P p.w G.K p.mg p.base N qual scope f cdv A outer s H E) (wE E) :=
      ⟨rfl, rfl, rfl, rfl, ⟨rfl, hr2.units, rfl, S.nd⟩, hr2, hg, takes_of rfl rfl rfl rfl, hlm, fun _ _ _ _ _ z => z⟩
    exact ⟨ok, passes_of rfl, takes_of rfl rfl rfl rfl, fun _ => rfl, by show Env.blockKind _ = _; unfold Env.blockKind; rw [show (cxOf (L2.CX p.P p.w) p.P p.w G.K p.mg p.base N qual scope f cdv A outer s H E).env.scope.kind = .function from S.kind]; rfl, S.kind, er _ E ok⟩
  · refine ⟨startD N.length ds, { nx := fun _ => False, rt := fun x _ => ∃ i j k : Int, x = .fr [.int i, .int j, .int k] ∧ 0 ≤ i ∧ 0 ≤ j ∧ j < 2147483648 ∧ qS G Q H (.v .pail) }, ⟨RE.start rd, fun i xs t q e _ => ?_, LamX.ExtN.refl H, tb⟩, ⟨fun r' σ' H' si _ z => z.elim, fun x v r' σ' H' si rr z => ?_, fun _ _ _ _ _ z => z.elim, fun _ _ _ _ _ z => z.elim⟩, hC' _ _ _ h⟩
    · obtain ⟨d, _, e2⟩ := startD_get e
      cases e2
    · obtain ⟨i, j, k, e, h0, h1, h2, q⟩ := z
      subst e
      obtain ⟨a, ws, rfl, fr, e1, rs⟩ := rr
      have e : ws = [V.int i, V.int j, V.int k] := by
        cases rs with
        | cons r1 rs =>
          cases rs with
          | cons r2 rs =>
            cases rs with
            | cons r3 rs =>
              cases rs
              cases r1
              cases r2
              cases r3
              rfl
      subst e
      exact ⟨a, i, j, k, e1, h0, h1, h2, q _ _ (.pail upd_same) (ExN.frz si.ex fr) (Tabs.upd si.tb e1 (fun _ z => nomatch z) (lstCode _ a))⟩
def noA (H : Hp) (a : Addr) : Hp := fun b => if b = a then none else H b
theorem noA_same {H : Hp} {a : Addr} : noA H a a = none := by unfold noA; rw [if_pos rfl]
theorem noA_ne {H : Hp} {a b : Addr} (h : b ≠ a) : noA H a b = H b := by unfold noA; rw [if_neg h]
theorem ints3 {K : PySem.W.Frag} {H : Hp} {i j k : Int} {ws : List V} (rs : RDs K H [.int i, .int j, .int k] ws) : ws = [V.int i, V.int j, V.int k] := by
  cases rs with
  | cons r1 rs =>
    cases rs with
    | cons r2 rs =>
      cases rs with
      | cons r3 rs =>
        cases rs
        cases r1
        cases r2
        cases r3
        rfl
/-- a frame whose first name is such a list -/
def startP (a : Addr) (i j l m : Int) (n : Nat) : Env := some (.own [.int i, .int j, .int l] (some a)) :: some (.val (.int m)) :: List.replicate (n - 2) none
theorem startP_own {a : Addr} {i j l m : Int} {n ix : Nat} {xs : List D} {t : Option Addr} (e : (startP a i j l m n)[ix]? = some (some (.own xs t))) : ix = 0 ∧ xs = [.int i, .int j, .int l] ∧ t = some a := by
  unfold startP at e
  match ix, e with
  | 0, e =>
    simp only [List.getElem?_cons_zero, Option.some.injEq, Slot.own.injEq] at e
    exact ⟨rfl, e.1.symm, e.2.symm⟩
  | 1, e => simp at e
  | ix + 2, e =>
    simp only [List.getElem?_cons_succ] at e
    cases List.eq_of_mem_replicate (List.mem_of_getElem? e)
/-- a def whose first parameter is a pail: a list of three ints within -/
theorem fn_cast {k : Nat} (kn : Kn g G C (OkX p G k)) (er : ErrOk p G g C k) {x qual : Str} {params : Arguments} {body : List Stmt} {scope : Scope} {dvs : List V} {kws : List (Str × V)} {f : Addr} {fd : FuncData} {N mu : List Str} {p0 p1 : Str} {n : Nat} {b : Sms}
    (F : FunD G.K x qual params body scope dvs kws f fd) (S : FnScope N [p0, p1] scope) (hc : compSs g N mu n scope body = some b) (hlm : LmV p G (qual ++ ".<locals>.") fd.code)
    {C' : Call} {nm : Str} (hC' : ∀ ds Q E, C' nm ds Q E → ∃ m : Int, ds = [.pail, .int m] ∧ ∀ (a : Addr) (i j l : Int), 0 ≤ i → 0 ≤ j → j < 2147483648 →
      exSs G.B C b { nx := fun _ => False, rt := fun x r => ∃ i j l m : Int, x = .v (.int m) ∧ r[0]? = some (some (.own [.int i, .int j, .int l] (some a))) ∧ 0 ≤ i ∧ 0 ≤ j ∧ j < 2147483648 ∧ Q (.v (.int m)) } (startP a i j l m N.length) E0) : FnG p G C' (k + 1) f fd [p0, p1] nm := by
  obtain ⟨oc, od, dV, kV, doc, pm, an, cdv, ct, osl, rfl, lk, hcd, _, _⟩ := F.ex
  intro A outer s H args us vs ds Q E hr hg e0 hb r rd tb hl h
  obtain ⟨m, e, hz⟩ := hC' _ _ _ h
  subst e
  cases rd with
  | cons rp rd =>
    cases rd with
    | cons rm rd =>
      cases rd
      cases rm
      cases rp with
      | @pail a hpa =>
        refine LamX.run_ofS (N := N) lk hcd S hr e0 hb r rfl fun hr2 => ⟨_, pss_gS (pss_gR (compSs_ok (H0 := noA H a) (E := E) kn S.nd (X := cxOf (L2.CX p.P p.w) p.P p.w G.K p.mg p.base N qual scope f cdv A outer s H E) ?_ rfl rfl n body b hc)), ?_⟩
        · have ok : OkX p G k (cxOf (L2.CX p.P p.w) p.P p.w G.K p.mg p.base N qual scope f cdv A outer s H E) (wE E) :=
            ⟨rfl, rfl, rfl, rfl, ⟨rfl, hr2.units, rfl, S.nd⟩, hr2, hg, takes_of rfl rfl rfl rfl, hlm, fun _ _ _ _ _ z => z⟩
          exact ⟨ok, passes_of rfl, takes_of rfl rfl rfl rfl, fun _ => rfl, by show Env.blockKind _ = _; unfold Env.blockKind; rw [show (cxOf (L2.CX p.P p.w) p.P p.w G.K p.mg p.base N qual scope f cdv A outer s H E).env.scope.kind = .function from S.kind]; rfl, S.kind, er _ E ok⟩
        · refine ⟨a, hpa, fun _ _ => trivial, fun i j l h0 h1 h2 nc => ?_⟩
          have hN : 2 ≤ N.length := by
            have := congrArg List.length S.pre
            simp at this
            omega
          have xH : ExN (noA H a) (upd H a (.lst [.int i, .int j, .int l])) := fun b o e _ => by
            have hb : b ≠ a := fun z => by rw [z, noA_same] at e; cases e
            rw [upd_ne hb]
            rw [noA_ne hb] at e
            exact e
          have tH : Tb G (upd H a (.lst [.int i, .int j, .int l])) := Tabs.upd tb hpa (fun _ z => by unfold PailO at z; cases z) nc
          refine ⟨startP a i j l m N.length, { nx := fun _ => False, rt := fun x r => ∃ i j l m : Int, x = .v (.int m) ∧ r[0]? = some (some (.own [.int i, .int j, .int l] (some a))) ∧ 0 ≤ i ∧ 0 ≤ j ∧ j < 2147483648 ∧ qS G Q H (.v (.int m)) }, ⟨⟨fun ix sl e => ?_, fun ix jx xs ys t u v e1 e2 _ _ => ?_, ?_⟩, fun ix xs t q e e2 => ?_, xH, tH⟩, ⟨fun _ _ _ _ _ z => z.elim, fun x v r' σ' H' si rr z => ?_, fun _ _ _ _ _ z => z.elim, fun _ _ _ _ _ z => z.elim⟩, ?_⟩
          · unfold startP at e
            match ix, e with
            | 0, e =>
              simp only [List.getElem?_cons_zero, Option.some.injEq] at e
              subst e
              exact ⟨.ref a, rfl, a, _, rfl, upd_same, .cons (.int _) (.cons (.int _) (.cons (.int _) .nil)), fun b z => Option.some.inj z⟩
            | 1, e =>
              simp at e
              subst e
              exact ⟨.int m, rfl, .int _⟩
            | ix + 2, e =>
              simp only [List.getElem?_cons_succ] at e
              cases List.eq_of_mem_replicate (List.mem_of_getElem? e)
          · rw [(startP_own e1).1, (startP_own e2).1]
          · unfold startP L2.start
            simp
          · obtain ⟨e3, _, _⟩ := startP_own e
            subst e3
            have e2 : some (some (V.ref a)) = some (some (V.ref q)) := e2
            cases e2
            exact Fr.of noA_same
          · obtain ⟨i', j', l', m', e, e0', h0', h1', h2', q⟩ := z
            subst e
            obtain ⟨v0, w0, a0, us0, ev, el, rs, ta⟩ := si.re.at_ 0 _ e0'
            have ea := ta a rfl
            subst ea
            have ew := ints3 rs
            subst ew ev
            refine ⟨a0, i', j', l', el, h0', h1', h2', ?_⟩
            have rr : RD G.K H' (.int m') v := rr
            cases rr
            refine q _ _ (.int m') (fun b o e n => ?_) (Tabs.upd si.tb el (fun _ z => nomatch z) (lstCode _ a0))
            by_cases hb : b = a0
            · subst hb
              rw [hpa] at e
              cases e
              exact upd_same
            · rw [upd_ne hb]
              exact si.ex b o (by rw [noA_ne hb]; exact e) n
          · refine exSs_mono kn.hB kn.hC b _ _ _ E0 _ ⟨fun _ z => z, fun _ _ z => z, fun _ z => z, fun _ z => z⟩ (fun _ _ z => z.elim) (hz a i j l h0 h1 h2)
end
end En
/-! En25: len, str, repr, bool of own objects. -/
namespace En
open PySem L2 PyProof.Rows
/-- a def of the class c that a built-in calls -/
structure Spc (p : Pg) (G : Cfg) (C' : Call) (k : Nat) (c m nm : Str) : Prop where
  ex : ∃ (g : Addr) (fd : FuncData) (ps : List Str), FnG p G C' k g fd ps nm ∧ Binds G.K fd ps [] ∧ ps.length = 1 ∧ PySem.W.findIn G.K (.ref (He.ga G.K c)) m = some (some (.ref g)) ∧ PySem.W.isFn G.K (.ref g) = true
section
variable {p : Pg} {G : Cfg} {C' : Call} {k : Nat} {X : Cx} {W : WX}
/-- it is called -/
theorem spc_run (hfl : p.fl = false) (hC : MonoC C') {j : Nat} (ok : OkX p G j X W) {g : Addr} {fd : FuncData} {ps : List Str} {nm : Str} (F : FnG p G C' k g fd ps nm) (hb : Binds G.K fd ps []) (hps : ps.length = 1) {A : Around} (hr : Room k A)
    {pins : List (Addr × Obj)} {σ : L2.St} {H : Hp} {s : Shared} (e0 : Env0 X.prog X.w X.K X.mg X.base A X.stack s H) (I : Inv X pins σ H s) {d : D} {a : Addr} (rd : RD G.K H d (.ref a)) (tb : Tb G H) {Q : VK} (h : C' nm [d] (qS G Q H) E0) :
    wpAny (model X.prog X.w) A (call (.ref g) [.ref a]) (EP X pins σ Q) X.xe s := by
  have FR := F.run hfl hb
  rw [← ok.P, ← ok.w, ← ok.bs.K, ← ok.mg, ← ok.base] at FR
  refine wpAny_call (SlX.run_at (us := [.ref a]) (ws := [.ref a]) (E := fun _ _ _ => False) FR hr e0 ?_ I (.cons rfl .nil) ?_)
  · intro pins σ H s e s' _ ⟨_, _, _, _, _, _, _, _, _, _, _, _, z⟩
    exact z.elim
  · exact ⟨[d], .cons rd .nil, tb, by simp [hps], hC _ _ _ _ _ _ (fun _ z => z) (fun _ _ z => z.elim) h⟩
theorem ob_len (hfl : p.fl = false) (hC : MonoC C') (ok : OkX p G (k + 1) X W) {nm : Str → Str} : CallR X (.builtin "len") (rBlt G fun ds Q => ∃ c fs, ds = [.obj c fs] ∧ Spc p G C' k c "__len__" (nm c) ∧ C' (nm c) [.obj c fs] (fun r => ∃ n : Int, r = .v (.int n) ∧ 0 ≤ n ∧ n < 1000000 ∧ Q (.v (.int n))) E0) := by
  intro pins s σ H xs us Q I rv ⟨ds, rb, tb, c, fs, e, sp, z⟩
  subst e
  obtain ⟨v, rfl, rx⟩ := rbs1 rb
  have rd := rx.rd (fun _ z => nomatch z)
  have rd' := rd
  cases rd with
  | @obj _ a dx vs _ hsl rs =>
    obtain ⟨u, rfl, ru⟩ := rv.one
    cases (show u = Value.ref a from ru)
    obtain ⟨g, fd, ps, F, hb, hps, hf, hi⟩ := sp.ex
    obtain ⟨sl, od, _, J, _⟩ := SlX.slt_inst I hsl
    obtain ⟨m, hF⟩ := I.fr
    refine PySem.W.len_K hF I.ok.mod.kin J (by rw [ok.bs.K]; exact hf) (by rw [ok.bs.K]; exact hi) ?_
    have z2 : C' (nm c) [.obj c fs] (qS G (fun v H' => ∃ n : Int, v = .int n ∧ 0 ≤ n ∧ n < 1000000 ∧ Q (.int n) H') H) E0 := by
      refine hC _ _ _ _ _ _ ?_ (fun _ _ z => z) z
      intro r hr v H' rr x t
      obtain ⟨n, e, h0, h1, q⟩ := hr
      subst e
      have rr : RD G.K H' (.int n) v := rr
      cases rr
      exact ⟨n, rfl, h0, h1, q _ H' (.int n) x t⟩
    refine thn (spc_run hfl hC ok F hb hps ok.room.in1 I.env0.in1 I rd' tb z2) ?_
    intro w s' hw
    obtain ⟨v, H', I', rv', n, e, h0, h1, q⟩ := hw
    subst e
    obtain ⟨t, rfl⟩ := (show ∃ t, w = Value.int n t from rv')
    exact ⟨⟨h0, by omega⟩, .int n, H', I'.tok _, ⟨_, rfl⟩, q⟩
theorem ob_repr (hfl : p.fl = false) (hC : MonoC C') (ok : OkX p G (k + 1) X W) {nm : Str → Str} : CallR X (.builtin "repr") (rBlt G fun ds Q => ∃ c fs, ds = [.obj c fs] ∧ Spc p G C' k c "__repr__" (nm c) ∧ C' (nm c) [.obj c fs] (fun r => ∃ x, r = .v (.str x) ∧ Q (.v (.str x))) E0) := by
  intro pins s σ H xs us Q I rv ⟨ds, rb, tb, c, fs, e, sp, z⟩
  subst e
  obtain ⟨v, rfl, rx⟩ := rbs1 rb
  have rd := rx.rd (fun _ z => nomatch z)
  have rd' := rd
  cases rd with
  | @obj _ a dx vs _ hsl rs =>
    obtain ⟨u, rfl, ru⟩ := rv.one
    cases (show u = Value.ref a from ru)
    obtain ⟨g, fd, ps, F, hb, hps, hf, hi⟩ := sp.ex
    obtain ⟨sl, od, _, J, _⟩ := SlX.slt_inst I hsl
    obtain ⟨m, hF⟩ := I.fr
    refine PySem.W.repr_K ok.room.in1.units0 hF I.ok.mod.kin J (by rw [ok.bs.K]; exact hf) (by rw [ok.bs.K]; exact hi) ?_
    have z2 : C' (nm c) [.obj c fs] (qS G (fun v H' => ∃ x : Str, v = .str x ∧ Q (.str x) H') H) E0 := by
      refine hC _ _ _ _ _ _ ?_ (fun _ _ z => z) z
      intro r hr v H' rr x t
      obtain ⟨n, e, q⟩ := hr
      subst e
      have rr : RD G.K H' (.str n) v := rr
      cases rr
      exact ⟨n, rfl, q _ H' (.str n) x t⟩
    refine thn (spc_run hfl hC ok F hb hps ok.room.in1 I.env0.in1 I rd' tb z2) ?_
    intro w s' hw
    obtain ⟨v, H', I', rv', n, e, q⟩ := hw
    subst e
    obtain ⟨t, rfl⟩ := (show ∃ t, w = Value.str n t from rv')
    exact ⟨.str n, H', I', ⟨_, rfl⟩, q⟩
theorem ob_str (hfl : p.fl = false) (hC : MonoC C') (ok : OkX p G (k + 2) X W) {nm : Str → Str} : CallR X (.type "str") (rBlt G fun ds Q => ∃ c fs, ds = [.obj c fs] ∧ Spc p G C' k c "__str__" (nm c) ∧ C' (nm c) [.obj c fs] (fun r => ∃ x, r = .v (.str x) ∧ Q (.v (.str x))) E0) := by
  intro pins s σ H xs us Q I rv ⟨ds, rb, tb, c, fs, e, sp, z⟩
  subst e
  obtain ⟨v, rfl, rx⟩ := rbs1 rb
  have rd := rx.rd (fun _ z => nomatch z)
  have rd' := rd
  cases rd with
  | @obj _ a dx vs _ hsl rs =>
    obtain ⟨u, rfl, ru⟩ := rv.one
    cases (show u = Value.ref a from ru)
    obtain ⟨g, fd, ps, F, hb, hps, hf, hi⟩ := sp.ex
    obtain ⟨sl, od, _, J, _⟩ := SlX.slt_inst I hsl
    have hr2 : Room k X.A.in1.in1 := (show Room (k + 1) X.A.in1 from Room.in1 ok.room).in1
    refine PySem.W.kso_call hr2.units0 I.kIn J (by rw [ok.bs.K]; exact hf) (by rw [ok.bs.K]; exact hi) ?_
    have z2 : C' (nm c) [.obj c fs] (qS G (fun v H' => ∃ x : Str, v = .str x ∧ Q (.str x) H') H) E0 := by
      refine hC _ _ _ _ _ _ ?_ (fun _ _ z => z) z
      intro r hr v H' rr x t
      obtain ⟨n, e, q⟩ := hr
      subst e
      have rr : RD G.K H' (.str n) v := rr
      cases rr
      exact ⟨n, rfl, q _ H' (.str n) x t⟩
    refine thn (spc_run hfl hC ok F hb hps hr2 I.env0.in1.in1 I rd' tb z2) ?_
    intro w s' hw
    obtain ⟨v, H', I', rv', n, e, q⟩ := hw
    subst e
    obtain ⟨t, rfl⟩ := (show ∃ t, w = Value.str n t from rv')
    exact ⟨.str n, H', I', ⟨_, rfl⟩, q⟩
end
/-! ### truth of an object with __len__ -/
section
open PySem.W Builtin
variable {prog : Program} {w : World} {A : Around} {E : Value → Shared → Prop} {s : Shared} {K : Frag} {x C f : Addr} {ox : Obj} {od : Option Obj}
theorem len_tree {Q : Value → Shared → Prop} (X : K.In s.heap) (I : InstAt s.heap x ox C od) (hs : findIn K (.ref C) "__len__" = some (some (.ref f))) (hf : isFn K (.ref f) = true)
    (h : wpAny (model prog w) A (call (.ref f) [.ref x]) (PySem.W.LenBack Q) E s) : wpAny (model prog w) A (Builtin.«len» ⟨[.ref x], []⟩) (fun fin s' => ∃ v, fin = .done (.ret v) ∧ Q v s') E s := by
  unfold Builtin.«len»
  refine wpAny_bind (m := oneArg "len" _) (wpAny_pure ?_)
  refine wpAny_bind (m := callSpecial? (.ref x) (Str.ofString "__len__")) (special_fn X I hs (beq_iff_eq.mp hf) (wpAny_mono h (fun r s' hr => ?_) fun _ _ y => y))
  cases r <;> first | exact hr.elim | skip
  rename_i n u
  obtain ⟨⟨h0, h1⟩, hq⟩ := hr
  refine wpAny_bind (wpAny_holding (wpAny_pure ?_))
  refine wpAny_bind (wpAny_letGo ?_)
  show wpAny _ _ (if n < 0 then _ else _) _ _ _
  rw [if_neg (by omega)]
  show wpAny _ _ (if n ≥ 2 ^ 63 then _ else _) _ _ _
  rw [if_neg (by omega)]
  exact wpAny_bind (wpAny_mkInt (wpAny_pure ⟨_, rfl, hq⟩))
def TruBack (Q : Bool → Shared → Prop) (v : Value) (s' : Shared) : Prop := match v with
  | .int n _ => (0 ≤ n ∧ n < 2 ^ 63) ∧ ∀ t, Q (n != 0) { s' with toks := t }
  | _ => False
theorem truthy_len {Q : Bool → Shared → Prop} (X : K.In s.heap) (I : InstAt s.heap x ox C od) (hb : findIn K (.ref C) "__bool__" = some none) (hs : findIn K (.ref C) "__len__" = some (some (.ref f))) (hf : isFn K (.ref f) = true)
    (h : wpAny (model prog w) A.in1 (call (.ref f) [.ref x]) (TruBack Q) E s) : wpAny (model prog w) A (truthy (.ref x)) Q E s := by
  unfold truthy
  refine wpAny_bind (m := callSpecial? (.ref x) (Str.ofString "__bool__")) (wpAny_bind (wpAny_bind (I.type.here ((looks_findIn X hb).here (wpAny_pure ?_)))))
  refine wpAny_bind (wpAny_bind (I.type.here ((looks_findIn X hs).here ?_)))
  show wpAny _ _ (if (some (Value.ref f)).isNone = true then _ else _) _ _ _
  rw [if_neg (by simp)]
  refine wpAny_bind (wpAny_runValue (codeAny_builtin entry_len ?_))
  rw [Around.under_plainId plain_len _]
  refine wpAny_mono (len_tree (Q := fun v s' => ∃ n t, v = .int n t ∧ Q (n != 0) s') X I hs hf (wpAny_mono h (fun v s' hv => ?_) fun _ _ y => y)) (fun fin s' hv => ?_) fun _ _ y => y
  · cases v <;> first | exact hv.elim | skip
    exact ⟨hv.1, _, _, rfl, hv.2 _⟩
  · obtain ⟨v, rfl, n, t, rfl, q⟩ := hv
    exact wpAny_pure q
theorem bool_own {Q : Value → Shared → Prop} (X : K.In s.heap) (I : InstAt s.heap x ox C od) (hb : findIn K (.ref C) "__bool__" = some none) (hs : findIn K (.ref C) "__len__" = some (some (.ref f))) (hf : isFn K (.ref f) = true)
    (h : wpAny (model prog w) A.in1.in1.in1 (call (.ref f) [.ref x]) (TruBack fun b s' => Q (.bool b) s') E s) : wpAny (model prog w) A (call (.type "bool") [.ref x]) Q E s := by
  refine callType_codes (T := "bool") (Bi := Builtin.«object.__init__») (Q₁ := fun r s₁ => ∃ y, r = .bool y ∧ Q r s₁) PySem.F.called_bool (PySem.F.typeCall_bool_1 _) PySem.F.entry_object_init ?_ ?_
  · refine codeAny_of_tree ?_
    show wpAny _ A.in1.in1 (do checkBuiltinCall "bool.__new__" ⟨[.type "bool", .ref x], []⟩; again (.builtin "bool.__new__" ⟨[.type "bool", .ref x], []⟩)) _ _ s
    refine wpAny_bind (wpAny_of_eq (PySem.F.newCall_bool_1 _) (wpAny_pure ⟨plainId_quiet (by decide +kernel) _, codeAny_builtin PySem.F.entry_bool_new ?_⟩))
    rw [Around.under_plainId (by decide +kernel) _]
    unfold Builtin.«bool.__new__»
    refine wpAny_bind (wpAny_pure ?_)
    refine wpAny_bind (wpAny_of_eq PySem.F.conv_sub_bool ?_)
    refine wpAny_bind (m := someArgs "bool" 0 1 _) (wpAny_pure ?_)
    refine wpAny_bind (wpAny_mono (truthy_len (Q := fun b s' => Q (.bool b) s') X I hb hs hf h) (fun b s' hq => ?_) fun _ _ y => y)
    exact wpAny_pure ⟨_, rfl, hq⟩
  · rintro obj s₁ ⟨y, rfl, hq⟩
    exact ⟨PySem.typeIs_bool _ _, PySem.F.args_object_init_2 _ _, object_init_meets PySem.F.called_bool.init.lookup PySem.F.called_bool.made (by decide) prog w A.in1 _ s₁ ⟨PySem.typeIs_bool _ _, rfl, hq⟩⟩
end
end En
namespace En
open PySem L2 PyProof.Rows TL
/-! Eq1: == and != of own objects, by the class's __eq__. -/
section
variable {M : Model} {prog : Program} {w : World} {A : Around} {E : Value → Shared → Prop} {s : Shared} {K : PySem.W.Frag} {x C f : Addr} {ox : Obj} {od : Option Obj}
open PySem.SeqAt
theorem ifBound_objNe {args : List Value} {Q : Option Value → Shared → Prop} (X : K.In s.heap) (I : PySem.W.InstAt s.heap x ox C od) (hs : PySem.W.findIn K (.ref C) "__ne__" = some (some (.builtin "object.__ne__")))
    (h : wpAny M A (call (.builtin "object.__ne__") (.ref x :: args)) (fun v => Q (some v)) E s) : wpAny M A (callSpecialIfBound? (.ref x) "__ne__" args) Q E s := by
  simp only [callSpecialIfBound?, bindSpecialIfBound?]
  refine wpAny_holding (wpAny_bind (wpAny_bind (wpAny_bind (I.type.here ((PySem.W.looks_findIn X hs).here ?_)))))
  refine wpAny_bind (wpAny_askSetting (wpAny_ite ?_))
  have done_ : wpAny M A (call (.builtin "object.__ne__") ([.ref x] ++ args) >>= fun v => pure (some v)) Q E s := wpAny_bind (wpAny_mono h (fun v s' h' => wpAny_pure h') fun _ _ h' => h')
  split
  · exact wpAny_bind (wpAny_of_eq (F.cmp_object.ne.bind _) (wpAny_pure (by exact done_)))
  · exact wpAny_tryCatch (wpAny_bind (wpAny_of_eq (F.cmp_object.ne.bind _) (wpAny_pure (by exact done_))))
theorem entry_objNe {Q : PySem.Fin → Shared → Prop} {b : Value} (hu : A.units < cLine) (X : K.In s.heap) (I : PySem.W.InstAt s.heap x ox C od) (hs : PySem.W.findIn K (.ref C) "__eq__" = some (some (.ref f))) (hf : PySem.W.isFn K (.ref f) = true)
    (h : wpAny (model prog w) A (call (.ref f) [.ref x, b]) (fun v s' => ∃ t, v = .bool t ∧ Q (.done (.ret (.bool (!t)))) s') E s) : wpAny (model prog w) A (Builtin.«object.__ne__» ⟨[.ref x, b], []⟩) Q E s := by
  unfold Builtin.«object.__ne__»
  repeat (first
    | with_reducible refine wpAny_cRoomFor hu ?_
    | (refine wpAny_bind (m := callSpecialIfBound? (.ref x) (Str.ofString "__eq__") [b])
        (PySem.W.ifBound_K X I hs hf (wpAny_mono h (fun r s' hr => by
          obtain ⟨t, rfl, hq⟩ := hr
          repeat (first | exact hq | exact wpAny_pure hq | exact wpAny_truthy_bool hq | (refine wpAny_bind (m := truthy (.bool _)) (wpAny_truthy_bool ?_)) | wp_step)) fun _ _ e => e)))
    | wp_step)
theorem call_objNe {Q : Value → Shared → Prop} {b : Value} (hu : A.units + 1 < cLine) (X : K.In s.heap) (I : PySem.W.InstAt s.heap x ox C od) (hm : PySem.W.mroIn K C (.type "object") = some true) (hs : PySem.W.findIn K (.ref C) "__eq__" = some (some (.ref f))) (hf : PySem.W.isFn K (.ref f) = true)
    (h : wpAny (model prog w) A.in1 (call (.ref f) [.ref x, b]) (fun v s' => ∃ t, v = .bool t ∧ Q (.bool (!t)) s') E s) : wpAny (model prog w) A (call (.builtin "object.__ne__") [.ref x, b]) Q E s :=
  wpAny_call (codeAny_call_builtin F.cmp_object.ne.plain F.cmpEntry_ne (PySem.W.check_slot F.cmpKind_ne F.cmpSplit_ne (I.type.andThen (PySem.W.looks_mroIn X hm)) (F.cmpArgs_ne _ _) (entry_objNe (A := A.in1) hu X I hs hf (wpAny_mono h (fun v s' hv => by
    obtain ⟨t, rfl, hq⟩ := hv
    first | exact ⟨t, rfl, hq⟩ | exact ⟨t, rfl, wpAny_pure hq⟩) fun _ _ e => e))))
theorem ne_K {b tb : Value} {Q : Value → Shared → Prop} (hu : A.units + 1 < cLine) (X : K.In s.heap) (I : PySem.W.InstAt s.heap x ox C od) (hb : PySem.W.Looks (model prog w) s.heap (typeOf b) tb) (hn : PySem.W.notFirst K C tb = true) (hm : PySem.W.mroIn K C (.type "object") = some true)
    (hN : PySem.W.findIn K (.ref C) "__ne__" = some (some (.builtin "object.__ne__"))) (hs : PySem.W.findIn K (.ref C) "__eq__" = some (some (.ref f))) (hf : PySem.W.isFn K (.ref f) = true)
    (h : wpAny (model prog w) A.in1 (call (.ref f) [.ref x, b]) (fun v s' => ∃ t, v = .bool t ∧ Q (.bool (!t)) s') E s) : wpAny (model prog w) A (richCompare .NotEq (.ref x) b) Q E s := by
  have one : wpAny (model prog w) A (tryCompare (.ref x) (cmpInfo .NotEq).2.1 b) (fun r s' => ∃ v, r = some v ∧ Q v s') E s := by
    unfold tryCompare
    refine wpAny_bind (ifBound_objNe X I hN (call_objNe hu X I hm hs hf (wpAny_mono h (fun v s' hv => ?_) fun _ _ e => e)))
    obtain ⟨t, rfl, hq⟩ := hv
    exact ⟨t, rfl, wpAny_pure ⟨_, rfl, hq⟩⟩
  unfold richCompare
  simp only [oneThing_ref]
  refine wpAny_holding (wpAny_bind (wpAny_cRoomFor (Nat.lt_of_succ_lt hu) ?_))
  refine wpAny_bind (I.type.here (wpAny_bind (hb.here ?_)))
  split
  · rename_i q
    have e : PySem.W.subIn K tb (.ref C) = some false := by
      rcases Bool.or_eq_true_iff.mp hn with e | e
      · rw [beq_iff_eq.mp e] at q; simp at q
      · exact beq_iff_eq.mp e
    refine wpAny_bind ((PySem.W.looks_subIn X e).here ?_)
    simp only [Bool.false_eq_true, if_false]
    refine wpAny_bind (wpAny_mono one (fun r s' z => ?_) fun _ _ e => e)
    obtain ⟨v, rfl, hq⟩ := z
    exact wpAny_pure hq
  · refine wpAny_bind (wpAny_pure ?_)
    simp only [Bool.false_eq_true, if_false]
    refine wpAny_bind (wpAny_mono one (fun r s' z => ?_) fun _ _ e => e)
    obtain ⟨v, rfl, hq⟩ := z
    exact wpAny_pure hq
end
end En
namespace En
open PySem L2 PyProof.Rows TL
/-! Eq2: == and != of own objects, told of data. -/
structure Spe (p : Pg) (G : Cfg) (C' : Call) (k : Nat) (c nm : Str) : Prop where
  ex : ∃ (g : Addr) (fd : FuncData) (ps : List Str), FnG p G C' k g fd ps nm ∧ Binds G.K fd ps [] ∧ ps.length = 2 ∧ PySem.W.findIn G.K (.ref (He.ga G.K c)) "__eq__" = some (some (.ref g)) ∧ PySem.W.isFn G.K (.ref g) = true
  ne : PySem.W.findIn G.K (.ref (He.ga G.K c)) "__ne__" = some (some (.builtin "object.__ne__"))
  mro : PySem.W.mroIn G.K (He.ga G.K c) (.type "object") = some true
structure ObE (p : Pg) (G : Cfg) (C : Nat → Call) (n : Nat) : Prop where
  eq : ∀ dx dy Q E, C n "__eq__" [dx, dy] Q E → ∃ k nm c fs fs', n = k + 1 ∧ dx = .obj c fs ∧ dy = .obj c fs' ∧ Spe p G (C k) k c nm ∧ C k nm [dx, dy] Q E
section
variable {p : Pg} {G : Cfg} {C' : Call} {k : Nat} {X : Cx} {W : WX}
theorem spe_run (hfl : p.fl = false) (hC : MonoC C') {j : Nat} (ok : OkX p G j X W) {g : Addr} {fd : FuncData} {ps : List Str} {nm : Str} (F : FnG p G C' k g fd ps nm) (hb : Binds G.K fd ps []) (hps : ps.length = 2) {A : Around} (hr : Room k A)
    {pins : List (Addr × Obj)} {σ : L2.St} {H : Hp} {s : Shared} (e0 : Env0 X.prog X.w X.K X.mg X.base A X.stack s H) (I : Inv X pins σ H s) {d e : D} {a b : Addr} (rd : RD G.K H d (.ref a)) (re : RD G.K H e (.ref b)) (tb : Tb G H) {Q : VK} (h : C' nm [d, e] (qS G Q H) E0) :
    wpAny (model X.prog X.w) A (call (.ref g) [.ref a, .ref b]) (EP X pins σ Q) X.xe s := by
  have FR := F.run hfl hb
  rw [← ok.P, ← ok.w, ← ok.bs.K, ← ok.mg, ← ok.base] at FR
  refine wpAny_call (SlX.run_at (us := [.ref a, .ref b]) (ws := [.ref a, .ref b]) (E := fun _ _ _ => False) FR hr e0 ?_ I (.cons rfl (.cons rfl .nil)) ?_)
  · intro pins σ H s e s' _ ⟨_, _, _, _, _, _, _, _, _, _, _, _, z⟩
    exact z.elim
  · exact ⟨[d, e], .cons rd (.cons re .nil), tb, by simp [hps], hC _ _ _ _ _ _ (fun _ z => z) (fun _ _ z => z.elim) h⟩
theorem eq_z {C' : Call} (hC : MonoC C') {nm : Str} {ds : List D} {H : Hp} {Q : VK} {f : Bool → Bool} (z : C' nm ds (fun r => ∃ b, r = .v (.bl b) ∧ finB G H Q (f b)) E0) : C' nm ds (qS G (fun v H' => ∃ b, v = .bl b ∧ Q (.bl (f b)) H') H) E0 := by
  refine hC _ _ _ _ _ _ ?_ (fun _ _ z => z) z
  intro r hr v H' rr x t
  obtain ⟨b, e, q⟩ := hr
  subst e
  have rr : RD G.K H' (.bl b) v := rr
  cases rr
  exact ⟨b, rfl, q H' x t⟩
end
theorem ob_eqo {p : Pg} {G : Cfg} {C : Nat → Call} {n : Nat} {X : Cx} {W : WX} (hfl : p.fl = false) (hC : ∀ k, MonoC (C k)) (ox : ObE p G C n) (ok : OkX p G n X W) : EqoOk X G (C n) where
  eq := by
    intro pins s σ H x y v u Q I rx ry ⟨dx, dy, hx, hy, t, h1, h2, z⟩
    obtain ⟨k, nm, c, fs, fs', e, e1, e2, sp, zz⟩ := ox.eq _ _ _ _ z
    subst e e1 e2
    obtain ⟨g, fd, ps, F, hb, hps, hf, hi⟩ := sp.ex
    have rd := hx.rd (fun _ z => nomatch z)
    have rd' := rd
    have re := hy.rd (fun _ z => nomatch z)
    have re' := re
    cases rd with
    | @obj _ a dx vs _ hsl rs =>
      cases re with
      | @obj _ b dy ws _ hsl2 rs2 =>
        cases (show v = Value.ref a from rx)
        cases (show u = Value.ref b from ry)
        obtain ⟨sl, od, _, J, _⟩ := SlX.slt_inst I hsl
        obtain ⟨sl', od', _, J', _⟩ := SlX.slt_inst I hsl2
        obtain ⟨m, hF⟩ := I.fr
        have hr : Room k X.A := Room.mono ok.room (Nat.le_succ k)
        show wpAny _ _ (richCompare .Eq (.ref a) (.ref b)) _ _ _
        refine PySem.W.cmp_K (op := .Eq) (tb := .ref (He.ga G.K c)) hr.units0 hF I.ok.mod.kin J J'.type (by rw [ok.bs.K]; unfold PySem.W.notFirst; simp) (by rw [ok.bs.K]; exact hf) (by rw [ok.bs.K]; exact hi) ?_
        refine thn (spe_run hfl (hC k) ok F hb hps hr I.env0 I rd' re' t (eq_z (hC k) (f := id) zz)) ?_
        intro w s' hw
        obtain ⟨v, H', I', rv', bb, e, q⟩ := hw
        subst e
        cases (show w = Value.bool bb from rv')
        exact ⟨.bl bb, H', I', rfl, q⟩
  ne := by
    intro pins s σ H x y v u Q I rx ry ⟨dx, dy, hx, hy, t, h1, h2, z⟩
    obtain ⟨k, nm, c, fs, fs', e, e1, e2, sp, zz⟩ := ox.eq _ _ _ _ z
    subst e e1 e2
    obtain ⟨g, fd, ps, F, hb, hps, hf, hi⟩ := sp.ex
    have rd := hx.rd (fun _ z => nomatch z)
    have rd' := rd
    have re := hy.rd (fun _ z => nomatch z)
    have re' := re
    cases rd with
    | @obj _ a dx vs _ hsl rs =>
      cases re with
      | @obj _ b dy ws _ hsl2 rs2 =>
        cases (show v = Value.ref a from rx)
        cases (show u = Value.ref b from ry)
        obtain ⟨sl, od, _, J, _⟩ := SlX.slt_inst I hsl
        obtain ⟨sl', od', _, J', _⟩ := SlX.slt_inst I hsl2
        have hr : Room k X.A.in1 := ok.room.in1
        show wpAny _ _ (richCompare .NotEq (.ref a) (.ref b)) _ _ _
        refine ne_K (tb := .ref (He.ga G.K c)) (by have := ok.bs.un; omega) I.kIn J J'.type (by rw [ok.bs.K]; unfold PySem.W.notFirst; simp) (by rw [ok.bs.K]; exact sp.mro) (by rw [ok.bs.K]; exact sp.ne) (by rw [ok.bs.K]; exact hf) (by rw [ok.bs.K]; exact hi) ?_
        refine thn (spe_run hfl (hC k) ok F hb hps hr I.env0.in1 I rd' re' t (eq_z (hC k) (f := not) zz)) ?_
        intro w s' hw
        obtain ⟨v, H', I', rv', bb, e, q⟩ := hw
        subst e
        cases (show w = Value.bool bb from rv')
        exact ⟨bb, rfl, .bl (!bb), H', I', rfl, q⟩
end En
/-! En26: all built-ins of own objects; the built-ins' row of what is known. -/
namespace En
open PySem L2 PyProof.Rows
section
variable {p : Pg} {G : Cfg} {C' : Call} {k : Nat} {X : Cx} {W : WX}
theorem ob_bool (hfl : p.fl = false) (hC : MonoC C') (ok : OkX p G (k + 3) X W) {nm : Str → Str} : CallR X (.type "bool") (rBlt G fun ds Q => ∃ c fs, ds = [.obj c fs] ∧ PySem.W.findIn G.K (.ref (He.ga G.K c)) "__bool__" = some none ∧ Spc p G C' k c "__len__" (nm c) ∧ C' (nm c) [.obj c fs] (fun r => ∃ n : Int, r = .v (.int n) ∧ 0 ≤ n ∧ n < 1000000 ∧ Q (.v (.bl (n != 0)))) E0) := by
  intro pins s σ H xs us Q I rv ⟨ds, rb, tb, c, fs, e, hbo, sp, z⟩
  subst e
  obtain ⟨v, rfl, rx⟩ := rbs1 rb
  have rd := rx.rd (fun _ z => nomatch z)
  have rd' := rd
  cases rd with
  | @obj _ a dx vs _ hsl rs =>
    obtain ⟨u, rfl, ru⟩ := rv.one
    cases (show u = Value.ref a from ru)
    obtain ⟨g, fd, ps, F, hb, hps, hf, hi⟩ := sp.ex
    obtain ⟨sl, od, _, J, _⟩ := SlX.slt_inst I hsl
    have hr3 : Room k X.A.in1.in1.in1 := (show Room (k + 1) X.A.in1.in1 from (show Room (k + 2) X.A.in1 from Room.in1 ok.room).in1).in1
    refine bool_own I.kIn J (by rw [ok.bs.K]; exact hbo) (by rw [ok.bs.K]; exact hf) (by rw [ok.bs.K]; exact hi) ?_
    have z2 : C' (nm c) [.obj c fs] (qS G (fun v H' => ∃ n : Int, v = .int n ∧ 0 ≤ n ∧ n < 1000000 ∧ Q (.bl (n != 0)) H') H) E0 := by
      refine hC _ _ _ _ _ _ ?_ (fun _ _ z => z) z
      intro r hr v H' rr x t
      obtain ⟨n, e, h0, h1, q⟩ := hr
      subst e
      have rr : RD G.K H' (.int n) v := rr
      cases rr
      exact ⟨n, rfl, h0, h1, q _ H' (.bl _) x t⟩
    refine thn (spc_run hfl hC ok F hb hps hr3 I.env0.in1.in1.in1 I rd' tb z2) ?_
    intro w s' hw
    obtain ⟨v, H', I', rv', n, e, h0, h1, q⟩ := hw
    subst e
    obtain ⟨t, rfl⟩ := (show ∃ t, w = Value.int n t from rv')
    exact ⟨⟨h0, by omega⟩, fun t => ⟨.bl _, H', I'.tok _, rfl, q⟩⟩
end
/-- what the built-ins ask of own classes; C by levels -/
structure ObX (p : Pg) (G : Cfg) (C : Nat → Call) (n : Nat) : Prop where
  len : ∀ c fs Q E, C n "__len__" [.obj c fs] Q E → ∃ k nm, n = k + 1 ∧ Spc p G (C k) k c "__len__" nm ∧ C k nm [.obj c fs] Q E
  repr : ∀ c fs Q E, C n "__repr__" [.obj c fs] Q E → ∃ k nm, n = k + 1 ∧ Spc p G (C k) k c "__repr__" nm ∧ C k nm [.obj c fs] Q E
  str : ∀ c fs Q E, C n "__str__" [.obj c fs] Q E → ∃ k nm, n = k + 2 ∧ Spc p G (C k) k c "__str__" nm ∧ C k nm [.obj c fs] Q E
  bool : ∀ c fs Q E, C n "__bool__" [.obj c fs] Q E → ∃ k nm, n = k + 3 ∧ PySem.W.findIn G.K (.ref (He.ga G.K c)) "__bool__" = some none ∧ Spc p G (C k) k c "__len__" nm ∧ C k nm [.obj c fs] Q E
section
variable {p : Pg} {G : Cfg} {sub : Sub} {C : Nat → Call} {n : Nat} {X : Cx} {W : WX}
theorem ob_all (hfl : p.fl = false) (hC : ∀ k, MonoC (C k)) (ox : ObX p G C n) (ok : OkX p G n X W) {b : Bf} {f : Value} (hf : bfV b = some f) : CallR X f (rBlt G fun ds Q => isOb ds = true ∧ b ≠ .isi ∧ bltW sub (C n) b ds Q) := by
  intro pins s σ H vs us Q I rv ⟨ds, rb, tb, ho, hb, z⟩
  unfold bltW at z
  split at z
  case h_1 => exact absurd rfl hb
  case h_2 =>
    cases hf
    obtain ⟨k, nm, e, sp, z2⟩ := ox.len _ _ _ _ z
    subst e
    exact ob_len (nm := fun _ => nm) hfl (hC k) ok pins s σ H vs us Q I rv ⟨_, rb, tb, _, _, rfl, sp, z2⟩
  case h_10 =>
    cases hf
    obtain ⟨k, nm, e, sp, z2⟩ := ox.str _ _ _ _ z
    subst e
    exact ob_str (nm := fun _ => nm) hfl (hC k) ok pins s σ H vs us Q I rv ⟨_, rb, tb, _, _, rfl, sp, z2⟩
  case h_23 =>
    cases hf
    obtain ⟨k, nm, e, hbo, sp, z2⟩ := ox.bool _ _ _ _ z
    subst e
    exact ob_bool (nm := fun _ => nm) hfl (hC k) ok pins s σ H vs us Q I rv ⟨_, rb, tb, _, _, rfl, hbo, sp, z2⟩
  case h_24 =>
    cases hf
    obtain ⟨k, nm, e, sp, z2⟩ := ox.repr _ _ _ _ z
    subst e
    exact ob_repr (nm := fun _ => nm) hfl (hC k) ok pins s σ H vs us Q I rv ⟨_, rb, tb, _, _, rfl, sp, z2⟩
  all_goals first
    | (cases ho; done)
    | exact z.elim
    | (rename_i x _ _; cases x <;> first | (cases ho; done) | exact absurd rfl (‹∀ c fs, _› _ _) | (exact z.elim) | (cases z.1))
    | (rename_i x _; cases x <;> first | (cases ho; done) | exact absurd rfl (‹∀ c fs, _› _ _) | (exact z.elim) | (cases z.1))
end
end En
/-! En27: the def that puts lines into parts, each a list that grows. -/
namespace En
open PySem L2 PyProof.Rows
/-! ### plain -/
def bpOne (acc : List (List Str)) (l : Str) : Option (List (List Str)) :=
  if cutS l none (some 7) = "branch " then some (acc ++ [[l]])
  else match acc.getLast? with
    | none => none
    | some g => match g.getLast? with
      | none => none
      | some q => if cutS q none (some 5) = "then " then none else some (acc.dropLast ++ [g ++ [l]])
def bpGo : List (List Str) → List Str → Option (List (List Str))
  | acc, [] => some acc
  | acc, l :: ls => (bpOne acc l).bind fun a => bpGo a ls
/-! ### lists of lists in the heap -/
structure NL (G : Cfg) (H0 H : Hp) (F : Addr) (ps : List Addr) (pss : List (List Str)) : Prop where
  out : H F = some (.lst (ps.map V.ref))
  len : ps.length = pss.length
  inn : ∀ (i : Nat) (p : Addr) (ls : List Str), ps[i]? = some p → pss[i]? = some ls → H p = some (.lst (ls.map V.str))
  nd : ps.Nodup
  no : F ∉ ps
  frF : Fr H0 F
  fr : ∀ p ∈ ps, Fr H0 p
  ex : ExN H0 H
  tb : Tb G H
  ne : ∀ ls ∈ pss, ls ≠ []
def frzW : List Addr → (Hp → Prop) → Hp → Prop
  | [], P, H => P H
  | a :: as, P, H => ∃ us, H a = some (.lst us) ∧ ∀ o, frzW as P (upd H a (.frz o (.lst us)))
theorem frzW.run {X : Cx} {pins : List (Addr × Obj)} {σ : L2.St} {s : Shared} : ∀ {as : List Addr} {P : Hp → Prop} {H : Hp}, Inv X pins σ H s → frzW as P H → ∃ H', Inv X pins σ H' s ∧ P H'
  | [], P, H, I, h => ⟨H, I, h⟩
  | a :: as, P, H, I, ⟨us, e, h⟩ => by
    obtain ⟨o, I'⟩ := Inv.freeze I e
    exact frzW.run I' (h o)
/-- a return, some lists frozen ahead -/
theorem pss_fzR {X : Cx} {sts : List Stmt} {t : TS} (h : PSs X sts t) : PSs X sts fun D σ H => t { D with rt := fun v H => ∃ as, frzW as (fun H' => D.rt v H') H } σ H := by
  refine ⟨fun pins s σ H D I q => thn (h.run pins s σ H _ I q) fun fl s1 z => ?_⟩
  cases fl with
  | next => exact z
  | cont => exact z
  | brk => exact z
  | ret v =>
    obtain ⟨v, σ1, H1, I1, rv, as, q⟩ := z
    obtain ⟨H2, I2, q⟩ := frzW.run I1 q
    exact ⟨v, σ1, H2, I2, rv, q⟩
theorem strsRD {K : PySem.W.Frag} {H : Hp} : ∀ (ls : List Str), RDs K H (ls.map D.str) (ls.map V.str)
  | [] => .nil
  | l :: ls => .cons (.str l) (strsRD ls)
theorem RDs.ofGet {K : PySem.W.Frag} {H : Hp} : ∀ {ds : List D} {vs : List V}, ds.length = vs.length → (∀ (i : Nat) (d : D) (v : V), ds[i]? = some d → vs[i]? = some v → RD K H d v) → RDs K H ds vs
  | [], [], _, _ => .nil
  | d :: ds, v :: vs, e, h => .cons (h 0 d v rfl rfl) (RDs.ofGet (by simpa using e) fun i d' v' h1 h2 => h (i + 1) d' v' (by simpa using h1) (by simpa using h2))
/-- the inner ones are frozen one by one -/
theorem NL.freeze {G : Cfg} {H0 : Hp} {F : Addr} {pss : List (List Str)} {P : Hp → Prop} : ∀ (todo ps : List Addr) (H : Hp), H F = some (.lst (ps.map V.ref)) → ps.length = pss.length → (∀ p ∈ todo, p ∈ ps) → todo.Nodup → F ∉ ps →
    (∀ (i : Nat) (p : Addr) (ls : List Str), ps[i]? = some p → pss[i]? = some ls → (p ∈ todo ∧ H p = some (.lst (ls.map V.str))) ∨ (p ∉ todo ∧ FzH H p (ls.map V.str))) → Fr H0 F → (∀ p ∈ ps, Fr H0 p) → ExN H0 H → Tb G H →
    (∀ H', FzH H' F (ps.map V.ref) → (∀ (i : Nat) (p : Addr) (ls : List Str), ps[i]? = some p → pss[i]? = some ls → FzH H' p (ls.map V.str)) → ExN H0 H' → Tb G H' → P H') → frzW (todo ++ [F]) P H
  | [], ps, H, hF, hl, hm, hn, hno, hi, fF, fr, ex, tb, k => by
    refine ⟨_, hF, fun o => ?_⟩
    refine k _ ⟨o, upd_same⟩ (fun i p ls h1 h2 => ?_) (ExN.frz ex fF) (Tabs.upd tb hF (fun _ z => nomatch z) (lstCode _ F))
    rcases hi i p ls h1 h2 with ⟨z, _⟩ | ⟨_, o', z⟩
    · cases z
    · exact ⟨o', by rw [upd_ne (fun e => by rw [e] at h1; exact hno (List.mem_of_getElem? h1))]; exact z⟩
  | a :: todo, ps, H, hF, hl, hm, hn, hno, hi, fF, fr, ex, tb, k => by
    have ha : a ∈ ps := hm a List.mem_cons_self
    have haF : F ≠ a := fun e => hno (by rw [e]; exact ha)
    obtain ⟨i, hia⟩ := List.getElem?_of_mem ha
    have hlt : i < pss.length := by
      rw [← hl]
      rcases Nat.lt_or_ge i ps.length with z | z
      · exact z
      · rw [List.getElem?_eq_none z] at hia; cases hia
    obtain ⟨us, hus⟩ : ∃ us, H a = some (.lst us) := by
      rcases hi i a _ hia (List.getElem?_eq_getElem hlt) with ⟨_, z⟩ | ⟨z, _⟩
      · exact ⟨_, z⟩
      · exact absurd List.mem_cons_self z
    refine ⟨us, hus, fun o => ?_⟩
    have hn' := List.nodup_cons.mp hn
    refine NL.freeze todo ps _ (by rw [upd_ne haF]; exact hF) hl (fun p hp => hm p (List.mem_cons_of_mem _ hp)) hn'.2 hno (fun j p ls h1 h2 => ?_) fF fr (ExN.frz ex (fr a ha)) (Tabs.upd tb hus (fun _ z => nomatch z) (lstCode _ a)) k
    by_cases hp : p = a
    · subst hp
      rcases hi j p ls h1 h2 with ⟨_, z⟩ | ⟨z, _⟩
      · rw [hus] at z
        cases z
        exact .inr ⟨hn'.1, o, upd_same⟩
      · exact absurd List.mem_cons_self z
    · rcases hi j p ls h1 h2 with ⟨z, e⟩ | ⟨z, o', e⟩
      · rcases List.mem_cons.mp z with q | q
        · exact absurd q hp
        · exact .inl ⟨q, by rw [upd_ne hp]; exact e⟩
      · exact .inr ⟨fun q => z (List.mem_cons_of_mem _ q), o', by rw [upd_ne hp]; exact e⟩
/-! ### the steps of the loop -/
section
variable {G : Cfg} {H0 H : Hp} {F : Addr} {ps : List Addr} {pss : List (List Str)}
theorem NL.ext (n : NL G H0 H F ps pss) {H' : Hp} (x : ExN H H') (t : Tb G H') : NL G H0 H' F ps pss :=
  ⟨x _ _ n.out (fun _ z => nomatch z), n.len, fun i p ls h1 h2 => x _ _ (n.inn i p ls h1 h2) (fun _ z => nomatch z), n.nd, n.no, n.frF, n.fr, n.ex.trans x, t, n.ne⟩
/-- a new part -/
theorem NL.push (n : NL G H0 H F ps pss) {q : Addr} {l : Str} (hq : H q = none) : NL G H0 (upd (upd H q (.lst [.str l])) F (.lst (ps.map V.ref ++ [.ref q]))) F (ps ++ [q]) (pss ++ [[l]]) := by
  have hFq : F ≠ q := ne_of_none n.out hq
  have nq : q ∉ ps := fun z => by
    obtain ⟨i, hi⟩ := List.getElem?_of_mem z
    have hlt : i < pss.length := by
      rw [← n.len]
      rcases Nat.lt_or_ge i ps.length with z | z
      · exact z
      · rw [List.getElem?_eq_none z] at hi; cases hi
    have := n.inn i q _ hi (List.getElem?_eq_getElem hlt)
    rw [hq] at this
    cases this
  have x1 : ExN H (upd H q (.lst [.str l])) := ExN.new hq
  have fq : Fr H0 q := Fr.back n.ex (Fr.of hq)
  have hF2 : (upd H q (.lst [.str l])) F = some (.lst (ps.map V.ref)) := by rw [upd_ne hFq]; exact n.out
  refine ⟨by rw [upd_same]; simp, by simp [n.len], fun i p ls h1 h2 => ?_, ?_, ?_, n.frF, fun p hp => ?_, ExN.frz (n.ex.trans x1) n.frF, Tabs.upd (Tabs.new n.tb hq) hF2 (fun _ z => nomatch z) (lstCode _ F), fun ls hl => ?_⟩
  · rcases Nat.lt_trichotomy i ps.length with hi | hi | hi
    · rw [List.getElem?_append_left hi] at h1
      rw [List.getElem?_append_left (by rw [← n.len]; exact hi)] at h2
      have hp : p ∈ ps := List.mem_of_getElem? h1
      rw [upd_ne (fun e => n.no (by rw [← e]; exact hp)), upd_ne (fun e => nq (by rw [← e]; exact hp))]
      exact n.inn i p ls h1 h2
    · subst hi
      rw [List.getElem?_append_right (Nat.le_refl _)] at h1
      rw [List.getElem?_append_right (by rw [n.len]; exact Nat.le_refl _), n.len] at h2
      simp at h1 h2
      subst h1 h2
      rw [upd_ne hFq.symm, upd_same]
      rfl
    · rw [List.getElem?_append_right (Nat.le_of_lt hi)] at h1
      have := List.getElem?_eq_none (l := [q]) (i := i - ps.length) (by simp; omega)
      rw [this] at h1
      cases h1
  · rw [List.nodup_append]
    exact ⟨n.nd, by simp, fun a ha b hb e => by simp at hb; subst hb; subst e; exact nq ha⟩
  · simp only [List.mem_append, List.mem_singleton, not_or]
    exact ⟨n.no, hFq⟩
  · rcases List.mem_append.mp hp with z | z
    · exact n.fr p z
    · simp at z
      subst z
      exact fq
  · rcases List.mem_append.mp hl with z | z
    · exact n.ne ls z
    · simp at z
      subst z
      simp
/-- the last part grows -/
theorem NL.grow (n : NL G H0 H F ps pss) {g : List Str} {l : Str} {q : Addr} (hg : pss.getLast? = some g) (hq : ps.getLast? = some q) : NL G H0 (upd H q (.lst (g.map V.str ++ [.str l]))) F ps (pss.dropLast ++ [g ++ [l]]) := by
  have hqm : q ∈ ps := List.mem_of_getLast? hq
  have hFq : F ≠ q := fun e => n.no (by rw [e]; exact hqm)
  have hlp : ps.length ≠ 0 := fun e => by
    rw [List.length_eq_zero_iff] at e
    subst e
    cases hq
  have ix : ps[ps.length - 1]? = some q := by rw [← List.getLast?_eq_getElem?]; exact hq
  have ig : pss[ps.length - 1]? = some g := by rw [n.len, ← List.getLast?_eq_getElem?]; exact hg
  have hH := n.inn _ _ _ ix ig
  have dl : (pss.dropLast ++ [g ++ [l]]).length = pss.length := by
    have := n.len
    simp
    omega
  refine ⟨by rw [upd_ne hFq]; exact n.out, by rw [dl]; exact n.len, fun i p ls h1 h2 => ?_, n.nd, n.no, n.frF, n.fr, ExN.frz n.ex (n.fr q hqm), Tabs.upd n.tb hH (fun _ z => nomatch z) (lstCode _ q), fun ls hl => ?_⟩
  · have hi : i < ps.length := by
      rcases Nat.lt_or_ge i ps.length with z | z
      · exact z
      · rw [List.getElem?_eq_none z] at h1; cases h1
    have ln := n.len
    by_cases e : i = ps.length - 1
    · subst e
      rw [ix] at h1
      cases h1
      rw [List.getElem?_append_right (by simp; omega)] at h2
      simp only [List.length_dropLast, ← ln] at h2
      simp at h2
      subst h2
      rw [upd_same]
      simp
    · rw [List.getElem?_append_left (by simp; omega)] at h2
      have hne : p ≠ q := fun z => by
        subst z
        exact e ((List.getElem?_inj hi n.nd).mp (h1.trans ix.symm))
      rw [upd_ne hne]
      refine n.inn i p ls h1 ?_
      rw [List.getElem?_dropLast] at h2
      split at h2
      · exact h2
      · cases h2
  · rcases List.mem_append.mp hl with z | z
    · exact n.ne ls (List.dropLast_subset _ z)
    · simp at z
      subst z
      simp
end
theorem ift {A B : Prop} (h : A) : if (true = true) then A else B := by rw [if_pos rfl]; exact h
theorem iff_ {A B : Prop} (h : B) : if (false = true) then A else B := by rw [if_neg (by decide)]; exact h
/-! ### the def -/
section
variable {p : Pg} {G : Cfg} {C : Call}
/-- its meaning -/
def bpW (ds : List D) (Q : Rv → Prop) : Prop := ∃ ls : List Str, ds = [.lst (ls.map D.str)] ∧ ls.length < sizeLine ∧ (∀ l ∈ ls, l.length ≤ sizeLine) ∧ match bpGo [] ls with
  | none => Q (.v .non)
  | some pss => Q (.v (.lst (pss.map fun ls => .lst (ls.map D.str))))
theorem bpGo_drop {acc : List (List Str)} {ls : List Str} {i : Nat} {l : Str} (hi : ls[i]? = some l) : bpGo acc (ls.drop i) = (bpOne acc l).bind fun a => bpGo a (ls.drop (i + 1)) := by
  have hlt : i < ls.length := by
    rcases Nat.lt_or_ge i ls.length with z | z
    · exact z
    · rw [List.getElem?_eq_none z] at hi; cases hi
  rw [List.drop_eq_getElem_cons hlt]
  rw [List.getElem?_eq_getElem hlt] at hi
  rw [Option.some.inj hi]
  rfl
theorem atI_last {α : Type} {xs : List α} {x : α} (h : xs.getLast? = some x) : atI xs (-1) = some x := by
  have hl : xs.length ≠ 0 := fun e => by
    rw [List.length_eq_zero_iff] at e
    subst e
    cases h
  unfold atI ixN
  rw [if_neg (by decide), if_pos (by omega)]
  have e : ((-1 : Int) + (xs.length : Nat)).toNat = xs.length - 1 := by omega
  show xs[((-1 : Int) + (xs.length : Nat)).toNat]? = some x
  rw [e, ← List.getLast?_eq_getElem?]
  exact h
theorem strs_inv {K : PySem.W.Frag} {H : Hp} : ∀ {ls : List Str} {us : List V}, RDs K H (ls.map D.str) us → us = ls.map V.str
  | [], _, .nil => rfl
  | l :: ls, _, .cons r q => by
    cases r
    rw [strs_inv q]
    rfl
theorem fn_bparts {k : Nat} {x qual : Str} {params : Arguments} {body : List Stmt} {scope : Scope} {dvs : List V} {kws : List (Str × V)} {f : Addr} {fd : FuncData}
    {q1 q2 q3 q4 q5 q6 q7 q8 q9 q10 q11 q12 q13 q14 q15 q16 q17 q18 q19 q20 q21 q22 q23 q24 q25 q26 q27 q28 q29 q30 q31 q32 q33 q34 q35 q36 q37 q38 q39 q40 q41 q42 q43 q44 q45 q46 q47 q48 q49 q50 : Pos}
    (F : FunD G.K x qual params body scope dvs kws f fd) (S : FnScope ["lines", "found", "line"] ["lines"] scope) (hsc : scope.names.lookup ("len" : Str) = some .globalImplicit ∧ scope.names.lookup ("found" : Str) = some .local ∧ scope.names.lookup ("line" : Str) = some .local) (hmg : p.mg "len" = none) (ha1 : (q14.endLine == q17.line) = true) (ha2 : (q44.endLine == q46.line) = true)
    (hb : body = [.Assign [.Name "found" q1] (.List [] q2) q3,
      .For (.Name "line" q4) (.Name "lines" q5) [.If (.Compare (.Subscript (.Name "line" q6) (.Slice none (some (.Constant (.int 7) 0 q7)) none q8) q9) [.Eq] [.Constant (.str "branch ") 0 q10] q11)
        [.Expr (.Call (.Attribute (.Name "found" q13) "append" q14) [.List [.Name "line" q15] q16] [] q17) q18]
        [.If (.BoolOp .Or [.Compare (.Call (.Name "len" q19) [.Name "found" q20] [] q21) [.Eq] [.Constant (.int 0) 0 q22] q23,
            .Compare (.Subscript (.Subscript (.Subscript (.Name "found" q24) (.UnaryOp .USub (.Constant (.int 1) 0 q25) q26) q27) (.UnaryOp .USub (.Constant (.int 1) 0 q28) q29) q30) (.Slice none (some (.Constant (.int 5) 0 q31)) none q32) q33) [.Eq] [.Constant (.str "then ") 0 q34] q35] q36)
          [.Return (some (.Constant .none 0 q37)) q38]
          [.Expr (.Call (.Attribute (.Subscript (.Name "found" q39) (.UnaryOp .USub (.Constant (.int 1) 0 q40) q41) q42) "append" q44) [.Name "line" q45] [] q46) q47] q48] q12] [] q43,
      .Return (some (.Name "found" q49)) q50])
    {C' : Call} {nm : Str} (hC' : ∀ ds Q E, C' nm ds Q E → bpW ds Q) : FnG p G C' (k + 1) f fd ["lines"] nm := by
  obtain ⟨oc, od, dV, kV, doc, pm, an, cdv, ct, osl, rfl, lk, hcd, _, _⟩ := F.ex
  intro A outer s H args us vs ds Q E hr hg e0 hbi r rd tb hl h
  obtain ⟨ls, e, hls, hsz, hq⟩ := hC' _ _ _ h
  subst e
  cases rd with
  | cons r0 r1 =>
    cases r1
    cases r0 with
    | @lst a xs0 _ hfz rs =>
      have ex0 := strs_inv rs
      subst ex0
      obtain ⟨hsc1, hsc2, hsc3⟩ := hsc
      have vis : ∀ (i : Nat) (y : Str) (pp : Pos), (["lines", "found", "line"] : List Str)[i]? = some y → (y == ("__debug__" : Str)) = false → (y == ("__classdict__" : Str)) = false → (scope.names.lookup y = some .local ∨ scope.names.lookup y = some .cell) → PE (cxOf (L2.CX p.P p.w) p.P p.w G.K p.mg p.base ["lines", "found", "line"] qual scope f cdv A outer s H E) (.Name y pp) (tVar i) := fun i y pp e o1 o2 hv => pe_var e (by
        rcases hv with z | z
        · exact .inl z
        · exact .inr (.inl z)) o1 o2
      have v0 : ∀ pp, PE (cxOf (L2.CX p.P p.w) p.P p.w G.K p.mg p.base ["lines", "found", "line"] qual scope f cdv A outer s H E) (.Name "lines" pp) (tVar 0) := fun pp => vis 0 "lines" pp rfl (by decide) (by decide) (S.par _ (by simp))
      have v1 : ∀ pp, PE (cxOf (L2.CX p.P p.w) p.P p.w G.K p.mg p.base ["lines", "found", "line"] qual scope f cdv A outer s H E) (.Name "found" pp) (tVar 1) := fun pp => vis 1 "found" pp rfl (by decide) (by decide) (.inl hsc2)
      have v2 : ∀ pp, PE (cxOf (L2.CX p.P p.w) p.P p.w G.K p.mg p.base ["lines", "found", "line"] qual scope f cdv A outer s H E) (.Name "line" pp) (tVar 2) := fun pp => vis 2 "line" pp rfl (by decide) (by decide) (.inl hsc3)
      have pix : ∀ pp pq, PlainIx (.UnaryOp .USub (.Constant (.int 1) 0 pp) pq) := fun pp pq o i => rfl
      refine LamX.run_ofS (N := ["lines", "found", "line"]) lk hcd S hr e0 hbi r rfl fun hr2 => ?_
      rw [hb]
      refine ⟨_, pss_fzR (pss_cons (ps_set (i := 1) S.nd rfl (.inl hsc2) (pe_lst pa_nil)) (pss_cons (ps_for (passes_of rfl) rfl (pi_list (v0 q5)) (pg_name (i := 2) S.nd rfl (.inl hsc3))
        (pss_one (ps_if (pt_cmpR op_eq (pe_slice sl_str (v2 q6) po_none (po_some pe_int)) pe_str rfl)
          (pss_one (ps_expr (pe_bm PySem.F.plainAttrs_list PySem.F.slot_list_append PySem.F.type_list_append mt_append (v1 q13) (pa_cons (pe_lst (pa_cons (v2 q15) pa_nil)) pa_nil) rfl rfl ha1)))
          (pss_one (ps_if (PW.pt (pw_or (pt_cmpR op_eq (pe_callB call_len hsc1 hmg rfl (pa_cons (v1 q20) pa_nil)) pe_int rfl) (pw_or1 (pt_cmpR op_eq (pe_slice sl_str (pe_ix ix_list (pe_ix ix_list (v1 q24) (pe_un un_neg pe_int) (pix _ _)) (pe_un un_neg pe_int) (pix _ _)) po_none (po_some pe_int)) pe_str rfl))))
            (pss_one (ps_ret pe_non))
            (pss_one (ps_expr (pe_bm PySem.F.plainAttrs_list PySem.F.slot_list_append PySem.F.type_list_append mt_append (pe_ix ix_list (v1 q39) (pe_un un_neg pe_int) (pix _ _)) (pa_cons (v2 q45) pa_nil) rfl rfl ha2)))))))) (pss_one (ps_ret (v1 q49))))), ?_⟩
      -- found = []
      refine ⟨by simp [sizeLine_eq], fun Fa hFa => ?_⟩
      have n0 : NL G H (upd H Fa (.lst [])) Fa [] [] := ⟨upd_same, rfl, fun i p l h1 _ => by simp at h1, by simp, by simp, Fr.of hFa, fun p hp => by simp at hp, ExN.new hFa, Tabs.new tb hFa, fun _ z => by simp at z⟩
      refine ⟨.ref a, rfl, a, rfl, ⟨_, (hfz.stb (ExN.stb (ExN.new hFa))).sq⟩, ?_⟩
      refine for_list (xs := ls.map V.str) (fun i σ H' => ∃ ps pss, σ[0]? = some (some (.ref a)) ∧ σ[1]? = some (some (.ref Fa)) ∧ σ.length = 3 ∧ NL G H H' Fa ps pss ∧ bpGo pss (ls.drop i) = bpGo [] ls ∧ pss.length ≤ i ∧ (∀ g ∈ pss, g.length ≤ i ∧ ∀ l ∈ g, l.length ≤ sizeLine))
        ⟨[], [], rfl, rfl, rfl, n0, rfl, Nat.le_refl _, fun _ z => by simp at z⟩ (fun i σ H' _ ⟨ps, pss, _, _, _, n, _⟩ => (hfz.stb (ExN.stb n.ex)).sq) (fun i y σ H' hi ⟨ps, pss, s0, s1, s3, n, hgo, hle, hin⟩ => ?_) fun σ H' ⟨ps, pss, s0, s1, s3, n, hgo, hle, hin⟩ => ?_
      · rw [List.getElem?_map] at hi
        obtain ⟨l, hil, rfl⟩ := Option.map_eq_some_iff.mp hi
        have hlm := List.mem_of_getElem? hil
        have hi2 : i < ls.length := by
          rcases Nat.lt_or_ge i ls.length with z | z
          · exact z
          · rw [List.getElem?_eq_none z] at hil; cases hil
        rw [bpGo_drop hil] at hgo
        have t0 : (σ.set 2 (some (V.str l)))[0]? = some (some (V.ref a)) := by rw [List.getElem?_set_ne (by decide)]; exact s0
        have t1 : (σ.set 2 (some (V.str l)))[1]? = some (some (V.ref Fa)) := by rw [List.getElem?_set_ne (by decide)]; exact s1
        have t2 : (σ.set 2 (some (V.str l)))[2]? = some (some (V.str l)) := List.getElem?_set_self (by omega)
        have t3 : (σ.set 2 (some (V.str l))).length = 3 := by rw [List.length_set]; exact s3
        -- line[:7] == "branch "
        refine ⟨.str l, t2, 7, rfl, ⟨l, rfl, hsz l hlm, rfl, _, rfl, ?_⟩⟩
        by_cases hbr : cutS l none (some 7) = "branch "
        · rw [decide_eq_true (by rw [hbr])]
          refine ift ?_
          refine ⟨.ref Fa, t1, .inl ⟨rfl, _, .inl (.inl n.out)⟩, ?_⟩
          refine ⟨.str l, t2, ⟨by simp [sizeLine_eq], fun q hq => ?_⟩⟩
          have hFq : Fa ≠ q := ne_of_none n.out hq
          refine ⟨Fa, _, _, rfl, rfl, by rw [upd_ne hFq]; exact n.out, by simp [n.len]; omega, ?_⟩
          have hone : bpOne pss l = some (pss ++ [[l]]) := by unfold bpOne; rw [if_pos hbr]
          rw [hone] at hgo
          refine ⟨ps ++ [q], pss ++ [[l]], t0, t1, t3, n.push hq, hgo, by simp; omega, fun g hg => ?_⟩
          rcases List.mem_append.mp hg with z | z
          · exact ⟨Nat.le_succ_of_le (hin g z).1, (hin g z).2⟩
          · simp at z
            subst z
            exact ⟨by simp, fun l' hl' => by simp at hl'; rw [hl']; exact hsz l hlm⟩
        · rw [decide_eq_false (fun e => hbr (V.str.inj e))]
          refine iff_ ?_
          -- len(found) == 0 or ..
          refine ⟨.ref Fa, t1, .ref Fa, ps.length, rfl, .inl ⟨_, .inl (.inl n.out), by simp⟩, rfl, _, rfl, ?_⟩
          cases hlast : pss.getLast? with
          | none =>
            have hp0 : ps = [] := by
              have e : pss = [] := List.getLast?_eq_none_iff.mp hlast
              have := n.len
              rw [e] at this
              exact List.length_eq_zero_iff.mp this
            rw [decide_eq_true (by rw [hp0]; rfl)]
            refine ift ?_
            have hone : bpOne pss l = none := by unfold bpOne; rw [if_neg hbr, hlast]
            rw [hone] at hgo
            have hgo : none = bpGo [] ls := hgo
            rw [← hgo] at hq
            exact ⟨[], hq .non H' .non n.ex n.tb⟩
          | some g =>
            have hgm : g ∈ pss := List.mem_of_getLast? hlast
            have hlp : pss.length ≠ 0 := fun e => by
              rw [List.length_eq_zero_iff] at e
              subst e
              cases hlast
            have hqe : ∃ q, ps.getLast? = some q := by
              cases hh : ps.getLast? with
              | some q => exact ⟨q, rfl⟩
              | none =>
                have e : ps = [] := List.getLast?_eq_none_iff.mp hh
                have := n.len
                rw [e] at this
                exact absurd this.symm hlp
            obtain ⟨q, hqq⟩ := hqe
            have ix : ps[ps.length - 1]? = some q := by rw [← List.getLast?_eq_getElem?]; exact hqq
            have ig : pss[ps.length - 1]? = some g := by rw [n.len, ← List.getLast?_eq_getElem?]; exact hlast
            have hH := n.inn _ _ _ ix ig
            have hlastF : (ps.map V.ref).getLast? = some (V.ref q) := by rw [List.getLast?_map, hqq]; rfl
            cases hg2 : g.getLast? with
            | none => exact absurd (List.getLast?_eq_none_iff.mp hg2) (n.ne g hgm)
            | some w =>
              have hwm : w ∈ g := List.mem_of_getLast? hg2
              have hlastW : (g.map V.str).getLast? = some (V.str w) := by rw [List.getLast?_map, hg2]; rfl
              rw [decide_eq_false (fun e => by
                have e : V.int (ps.length : Nat) = V.int 0 := e
                injection e with e
                have := n.len
                omega)]
              refine iff_ ?_
              refine ⟨.ref Fa, t1, 1, rfl, Fa, _, _, _, rfl, rfl, .inl (.inl n.out), atI_last hlastF, 1, rfl, q, _, _, _, rfl, rfl, .inl (.inl hH), atI_last hlastW, 5, rfl, ⟨w, rfl, (hin g hgm).2 w hwm, rfl, _, rfl, ?_⟩⟩
              by_cases hth : cutS w none (some 5) = "then "
              · rw [decide_eq_true (by rw [hth])]
                refine ift ?_
                have hone : bpOne pss l = none := by unfold bpOne; rw [if_neg hbr, hlast]; simp only; rw [hg2]; simp only; rw [if_pos hth]
                rw [hone] at hgo
                have hgo : none = bpGo [] ls := hgo
                rw [← hgo] at hq
                exact ⟨[], hq .non H' .non n.ex n.tb⟩
              · rw [decide_eq_false (fun e => hth (V.str.inj e))]
                refine iff_ ?_
                refine ⟨.ref Fa, t1, 1, rfl, Fa, _, _, _, rfl, rfl, .inl (.inl n.out), atI_last hlastF, .inl ⟨rfl, _, .inl (.inl hH)⟩, ?_⟩
                refine ⟨.str l, t2, q, _, _, rfl, rfl, hH, by simp; have := (hin g hgm).1; omega, ?_⟩
                have hone : bpOne pss l = some (pss.dropLast ++ [g ++ [l]]) := by unfold bpOne; rw [if_neg hbr, hlast]; simp only; rw [hg2]; simp only; rw [if_neg hth]
                rw [hone] at hgo
                refine ⟨ps, _, t0, t1, t3, n.grow hlast hqq, hgo, by simp; omega, fun g' hg' => ?_⟩
                rcases List.mem_append.mp hg' with z | z
                · have z := List.dropLast_subset _ z
                  exact ⟨Nat.le_succ_of_le (hin g' z).1, (hin g' z).2⟩
                · simp at z
                  subst z
                  refine ⟨by simp; exact (hin g hgm).1, fun l' hl' => ?_⟩
                  rcases List.mem_append.mp hl' with y | y
                  · exact (hin g hgm).2 l' y
                  · simp at y
                    rw [y]
                    exact hsz l hlm
      · rw [List.length_map, List.drop_length] at hgo
        have hgo : some pss = bpGo [] ls := hgo
        rw [← hgo] at hq
        refine ⟨.ref Fa, s1, ps ++ [Fa], NL.freeze (G := G) (H0 := H) (pss := pss) ps ps H' n.out n.len (fun _ z => z) n.nd n.no (fun i p l h1 h2 => .inl ⟨List.mem_of_getElem? h1, n.inn i p l h1 h2⟩) n.frF n.fr n.ex n.tb fun H2 hF2 hin2 x2 t2 => ?_⟩
        refine hq _ H2 (.lst (.inl hF2) (RDs.ofGet (by simp [n.len]) fun i d v h1 h2 => ?_)) x2 t2
        rw [List.getElem?_map] at h1 h2
        obtain ⟨l, hl, rfl⟩ := Option.map_eq_some_iff.mp h1
        obtain ⟨p', hp, rfl⟩ := Option.map_eq_some_iff.mp h2
        exact .lst (.inl (hin2 i p' l hp hl)) (strsRD l)
end
end En
namespace En
open PySem L2 PyProof.Rows TL
/-! Xr1: t[::-1] of a tuple. -/
open PySem.Spec HT
section
variable {prog : Program} {w : World} {A : Around} {E : Value → Shared → Prop} {s : Shared}
theorem sliceBack {sl : Addr} {vl vu vs : Value} {n : Nat} {Q : Int × Int × Nat → Shared → Prop} (hs : s.heap.IsSliceOf sl vl vu vs) (pl : IsPart vl none) (pu : IsPart vu none) (ps : IsPart vs (some (-1)))
    (h : Q ((n : Int) - 1, -1, n) s) : wpAny (model prog w) A (Builtin.Slice.sliceApplied (.ref sl) (pure (n : Int))) Q E s := by
  obtain ⟨os, hos, hcs, hds⟩ := id hs
  unfold Builtin.Slice.sliceApplied Builtin.Slice.sliceFields
  refine wpAny_bind (wpAny_bind (wpAny_field hos hds (x := vl) rfl (wpAny_bind (wpAny_field hos hds (x := vu) rfl (wpAny_bind (wpAny_field hos hds (x := vs) rfl (wpAny_pure ?_)))))))
  refine wpAny_bind (slicePart_ ps ?_)
  show wpAny _ _ (if ((-1 : Int) == 0) = true then _ else _) _ _ s
  rw [if_neg (by decide)]
  refine wpAny_bind (slicePart_ pl (wpAny_bind (slicePart_ pu (wpAny_bind (wpAny_pure ?_)))))
  show wpAny _ _ (match Builtin.Slice.sliceAdjust none none (-1) (n : Int) with | (lo, hi) => pure (lo, (-1 : Int), Builtin.Slice.slicePlaces lo hi (-1))) _ _ s
  have e1 : Builtin.Slice.sliceAdjust none none (-1) (n : Int) = ((n : Int) - 1, -1) := by
    unfold Builtin.Slice.sliceAdjust
    simp
  have e2 : Builtin.Slice.slicePlaces ((n : Int) - 1) (-1) (-1) = n := by
    unfold Builtin.Slice.slicePlaces
    rw [if_neg (by decide)]
    split
    · rw [Int.neg_neg, Int.ediv_one]
      omega
    · omega
  rw [e1]
  show wpAny _ _ (pure (((n : Int) - 1), (-1 : Int), Builtin.Slice.slicePlaces ((n : Int) - 1) (-1) (-1))) _ _ s
  rw [e2]
  exact wpAny_pure h
theorem fm_congr {α β : Type} {f g : α → Option β} : ∀ (l : List α), (∀ x ∈ l, f x = g x) → l.filterMap f = l.filterMap g
  | [], _ => rfl
  | x :: l, h => by
    rw [List.filterMap_cons, List.filterMap_cons, h x List.mem_cons_self, fm_congr l fun y hy => h y (List.mem_cons_of_mem _ hy)]
theorem pick_back (xs : Array Value) : ((List.range xs.size).filterMap fun (m : Nat) => xs[(((xs.size : Nat) : Int) - 1 + (m : Int) * (-1)).toNat]?).toArray = xs.toList.reverse.toArray := by
  congr 1
  have e : ∀ m ∈ List.range xs.size, xs[(((xs.size : Nat) : Int) - 1 + (m : Int) * (-1)).toNat]? = (some ∘ fun m => xs.toList.reverse.getD m .none) m := by
    intro m hm
    have hm := List.mem_range.mp hm
    have e1 : (((xs.size : Nat) : Int) - 1 + (m : Int) * (-1)).toNat = xs.size - 1 - m := by omega
    have hl : m < xs.toList.reverse.length := by simp; omega
    rw [e1]
    show _ = some (xs.toList.reverse.getD m .none)
    rw [List.getD_eq_getElem?_getD, List.getElem?_eq_getElem hl, Option.getD_some, List.getElem_reverse]
    have h2 : xs.size - 1 - m < xs.size := by omega
    rw [Array.getElem?_eq_getElem h2]
    simp
  rw [fm_congr _ e, List.filterMap_eq_map]
  refine List.ext_getElem (by simp) fun i h1 h2 => ?_
  rw [List.getElem_map, List.getElem_range, List.getD_eq_getElem?_getD, List.getElem?_eq_getElem h2, Option.getD_some]
theorem getItem_back {t sl : Addr} {items : Array Value} {vl vu vs : Value} {Q : Value → Shared → Prop} (ht : IsTup s.heap t items) (hs : s.heap.IsSliceOf sl vl vu vs) (pl : IsPart vl none) (pu : IsPart vu none) (ps : IsPart vs (some (-1)))
    (h : Q (.ref s.heap.objs.size) { s with heap := s.heap.push { cls := .type "tuple", data := .seq items.toList.reverse.toArray } }) (hsz : items.size ≤ sizeLine) : wpAny (model prog w) A (getItem (.ref t) (.ref sl)) Q E s := by
  have fits : sizeOk (.seq items.toList.reverse.toArray) := by
    show items.toList.reverse.toArray.size ≤ sizeLine
    rw [List.size_toArray, List.length_reverse, Array.length_toList]
    exact hsz
  obtain ⟨os, hos, hcs, hds⟩ := id hs
  have hTs : s.TypeIs (.ref sl) "slice" := ⟨os, hos, hcs⟩
  unfold getItem
  try with_reducible refine wpAny_holding ?_
  first | refine wpAny_bind (wpAny_pure ?_) | skip
  refine wpAny_bind (wpAny_sequenceKey ht.typeIs (by decide) ?_)
  refine wpAny_bind (wpAny_callSpecial?_slot (name := Str.ofString "__getitem__") ht.typeIs PyProof.Rows.slot_tuple_getitem (wpAny_call_entry PyProof.Rows.slot_tuple_getitem ht.typeIs entry_tuple_getitem ?_ (args_tuple_getitem _ _)))
  show wpAny _ _ (Builtin.Tuple.tupleItemsOf (.ref t) >>= _) _ _ s
  refine wpAny_bind (tupleItemsOf_ ht (wpAny_bind (wpAny_typeOf hTs ?_)))
  rw [if_pos (by decide)]
  refine wpAny_bind (sliceBack hs pl pu ps ?_)
  have no : ¬ ((((items.size : Nat) : Int) - 1 == 0 && (-1 : Int) == 1 && items.size == items.size) = true) := by
    rw [show ((-1 : Int) == 1) = false from rfl, Bool.and_false, Bool.false_and]
    exact Bool.false_ne_true
  show wpAny _ _ (if (((items.size : Nat) : Int) - 1 == 0 && (-1 : Int) == 1 && items.size == items.size) = true then _ else _) _ _ s
  rw [if_neg no, pick_back]
  first
    | exact wpAny_bind (m := Builtin.Tuple.tupleExact _) (wpAny_newObj_type (wpAny_pure ⟨_, rfl, wpAny_pure h⟩) fits)
    | exact wpAny_bind (m := Builtin.Tuple.tupleExact _) (wpAny_newObj_type (wpAny_bind (wpAny_pure (wpAny_pure ⟨_, rfl, wpAny_pure h⟩))) fits)
    | exact wpAny_bind (wpAny_bind (m := Builtin.Tuple.tupleExact _) (wpAny_newObj_type (wpAny_pure (wpAny_pure ⟨_, rfl, wpAny_pure h⟩)) fits))
    | exact wpAny_bind (wpAny_bind (m := Builtin.Tuple.tupleExact _) (wpAny_newObj_type (wpAny_pure ⟨_, rfl, wpAny_pure h⟩) fits))
end
section
variable {X : Cx}
def tRevT (K : PySem.W.Frag) (te : TE) : TE := fun σ H Q => te σ H fun x H1 => ∃ a xs, x = .ref a ∧ SqT K H1 a xs ∧ ∀ p, H1 p = none → Q (.ref p) (upd H1 p (.tup xs.reverse))
theorem pe_revT {e : Expr} {te : TE} {k : Nat} {p1 p2 p3 pos : Pos} (he : PE X e te) : PE X (.Subscript e (.Slice none none (some (.UnaryOp .USub (.Constant (.int 1) k p1) p2)) p3) pos) (tRevT X.K te) := by
  refine ⟨fun pins s σ H Q I h => ?_⟩
  refine Subscript_ (thn (he.run pins s σ H _ I h) fun v s1 ⟨x, H1, I1, r1, q1⟩ => ?_)
  obtain ⟨a, xs, ex, hx, q⟩ := q1
  subst ex
  cases r1
  have hst : PO X (some (.UnaryOp .USub (.Constant (.int 1) k p1) p2)) (tPart (tUn (rU fun i => .int (-i)) (tC (.int 1)))) := po_some (pe_un un_neg pe_int)
  refine wpAny_Slice (thn (po_none.run pins s1 σ H1 (fun o H2 => o = none ∧ H2 = H1) I1 ⟨rfl, rfl⟩) fun vl s2 ⟨l, H2, I2, pl, el, e2⟩ => ?_)
  subst el e2
  refine thn (po_none.run pins s2 σ H2 (fun o H3 => o = none ∧ H3 = H2) I2 ⟨rfl, rfl⟩) fun vu s3 ⟨u, H3, I3, pu, eu, e3⟩ => ?_
  subst eu e3
  refine thn (hst.run pins s3 σ H3 (fun o H4 => o = some (-1) ∧ H4 = H3) I3 ⟨1, rfl, -1, rfl, rfl, rfl⟩) fun vs s4 ⟨o, H4, I4, ps, eo, e4⟩ => ?_
  subst eo e4
  have j5 : Inv X pins σ H4 { s4 with heap := s4.heap.push { cls := .type "slice", data := .fields #[vl, vu, vs] } } := I4.kept (t' := s4.toks) fun b ob q => Heap.get?_push_of_some _ q
  obtain ⟨its, r, ht, hz⟩ := j5.tuple hx
  have hlen := r.length
  show wpAny (model X.prog X.w) X.A (subscriptTail e (.Slice none none (some (.UnaryOp .USub (.Constant (.int 1) k p1) p2)) p3) (.ref a) (.ref s4.heap.objs.size)) (EP X pins σ Q) X.xe { s4 with heap := s4.heap.push { cls := .type "slice", data := .fields #[vl, vu, vs] } }
  refine tail_any (ops := [.ref a, .ref s4.heap.objs.size]) ht.typeIs PyProof.Rows.slot_tuple_getitem.lookup ?_ (by with_unfolding_all rfl)
  refine getItem_back ht (Heap.IsSliceOf.new _ vl vu vs) pl pu ps ?_ (by rw [List.size_toArray]; omega)
  refine ⟨.ref _, _, j5.laid (t' := s4.toks) (o := .tup xs.reverse) (fun b ob q => Heap.get?_push_of_some _ q) (Nat.le_refl _) ?_, rfl, q _ (j5.hok.fresh (Nat.le_refl _))⟩
  exact ⟨by rw [List.length_reverse]; exact hz, _, r.reverse, IsTup.new _ _⟩
variable {G : Cfg} {C : Call} {W : WX} (hB : G.B.Mono) (hC : MonoC C)
include hB hC
theorem p_rev (hK : X.K = G.K) {o s : Expr} {io : Ex} {q pos : Pos} (hm : minus1 s = true) (ho : PE X o (rdS G C W io)) : PE X (.Subscript o (.Slice none none (some s) q) pos) (rdR G C W (.rev io)) := by
  unfold minus1 at hm
  split at hm
  · refine PE.imp (pe_revT ho) fun σ H Q ⟨r, re, tb, z⟩ => ?_
    refine s_bind hB hC re tb (LamX.ExtN.refl H) z fun d v H1 rx x1 t1 z1 => ?_
    obtain ⟨xs, e, z1⟩ := z1
    subst e
    obtain ⟨p, us, e1, hq, rs⟩ := rx.tup
    subst e1
    refine ⟨p, us, rfl, by rw [hK]; exact hq, fun p1 hp1 => ?_⟩
    exact fin_tup t1 (fin.ext (G := G) (H := H) (Q := Q) x1 z1) rs.reverse p1 hp1
  · cases hm
end
end En
/-! En28: what is known of all names, put together. -/
namespace En
open PySem L2 PyProof.Rows
/-- the names of the text, as they stand behind the top -/
structure Ct (p : Pg) (G : Cfg) (sub : Sub) (g : Gi) : Prop where
  hL : G.B = libW sub
  own : Own G sub
  con : ∀ x d, g.con.lookup x = some d → conOk p G x d
  its : ∀ x ∈ g.its, p.mg x = none
  blt : ∀ f b, g.blt.lookup f = some b → ∃ bv, bfV b = some bv ∧ bootBuiltins f = some bv ∧ p.mg f = none
  rep : ∀ f, g.blt.lookup f = some .repr → p.fl = true
  mth : ∀ m b, g.mth.lookup m = some b → m = mfS b ∧ mfS b ≠ ""
/-- defs that take a lambda, at level k -/
def LamOk (p : Pg) (G : Cfg) (g : Gi) (C : Call) (k : Nat) : Prop := ∀ X W f params body scope q lp pos n e nm is, OkX p G k X W → f ∈ g.ans → Gl X f → odd f = false → noArg params = true → LamX.LamS X.env.scope scope → compE g.noA X.N n scope body = some e → (nm, is, X.N.length, e) ∈ g.lams →
  PE X (.Call (.Name f q) [.Lambda params body scope lp] [] pos) (rdR G C W (.fn nm (varsE is)))
theorem LamOk.nil {p : Pg} {G : Cfg} {g : Gi} {C : Call} {k : Nat} (h : g.ans = []) : LamOk p G g C k := fun X W f params body scope q lp pos n e nm is _ z => by
  rw [h] at z
  cases z
/-- what is called, at level k -/
structure Lv (p : Pg) (G : Cfg) (sub : Sub) (g : Gi) (C : Call) (k : Nat) : Prop where
  fn : ∀ f ∈ g.fns, ∃ u, p.mg f = some u ∧ PySem.W.keepIn G.K u = true ∧ CalP p G C k u f
  kw : ∀ e ∈ g.kws, ∃ u ks, e.2.1 = ks.map some ∧ p.mg e.1 = some u ∧ PySem.W.keepIn G.K u = true ∧ CalK p G C k u e.1 ks e.2.2.1 e.2.2.2
  mcl : ∀ m key, g.mcl.lookup m = some key → ∃ gt, (∀ d, G.B.mok key d = true → MthOk G m gt d) ∧ CalC p G C k gt key
  mck : ∀ e ∈ g.mkw, ∀ key, g.mcl.lookup e.1 = some key → ∃ gt ks, e.2.1 = ks.map some ∧ (∀ d, G.B.mok key d = true → MthOk G e.1 gt d) ∧ CalCK p G C k gt key ks e.2.2.1 e.2.2.2
  att : ∀ f key, g.att.lookup f = some key → ∀ X W o io pos, OkX p G k X W → PE X o (rdV G C W io) → isSup o = false → PE X (.Attribute o f pos) (rdR G C W (.att io key))
  eqo : ∀ X W, OkX p G k X W → EqoOk X G C
  lam : LamOk p G g C k
  ob : ∀ X W, OkX p G k X W → ∀ b f, bfV b = some f → CallR X f (rBlt G fun ds Q => isOb ds = true ∧ b ≠ .isi ∧ bltW sub C b ds Q)
section
variable {p : Pg} {G : Cfg} {sub : Sub} {g : Gi} {C : Call} {k : Nat}
theorem kn_of (hC : MonoC C) (ct : Ct p G sub g) (lv : Lv p G sub g C k) : Kn g G C (OkX p G k) where
  hB := by rw [ct.hL]; exact libW_mono sub
  hC := hC
  bs := fun X W ok => ok.bs
  blk := fun X W s H scope cl a fp ok => ok.blk s H scope cl a fp
  con := fun X W x d pos ok h hg ho => con_ok ok (ct.con x d h) hg ho
  no := fun X W x ok h => by rw [ok.mg]; exact ct.its x h
  fn := fun X W f args is q pos ok hf hg ho hst hnil ha => by
    obtain ⟨u, hm, hk, F⟩ := lv.fn f hf
    exact fn_call (by rw [ct.hL]; exact libW_mono sub) hC ok F hm hk hg ho hst hnil ha _ fun r Q E z => z
  fnk := fun X W f pm args kws is js q pos ok hm hg ho hst hst2 hne hnil h1 h2 ha hkw => by
    obtain ⟨u, ks, e, hm2, hk, F⟩ := lv.kw _ hm
    have e : kws.map (fun (k : Keyword) => k.arg) = ks.map some := e
    have hl : kws.length = ks.length := by
      have := congrArg List.length e
      simpa using this
    exact fnk_call (by rw [ct.hL]; exact libW_mono sub) hC ok F hm2 hk hg ho hst e hnil rfl hne h1 (by rw [h2, hl]) ha hkw
  blt := fun X W f b args is q pos ok hb hg ho hne hst ha => by
    obtain ⟨bv, h1, h2, h3⟩ := ct.blt f b hb
    exact blt_call ct.hL hC h1 h2 (by rw [ok.mg]; exact h3) hg ho hne hst (blt_ok ok.bs.K ok.bs.calm ok.bs.un ct.own (fun e => ok.gd (ct.rep f (by rw [hb, e]))) h1 (lv.ob X W ok b bv h1)) ha
  mth := fun X W m b o io args is ap cp ok hm hl hne hlen hst ho ha hsup => by
    obtain ⟨h1, h2⟩ := ct.mth m b hm
    exact mth_call ct.hL hC ok.bs.K h1 h2 hl hne hst hlen ho ha hsup
  mcl := fun X W m key o io args is ap cp ok hm hl hlen hst hnil ho ha hsup => by
    obtain ⟨gt, h1, F⟩ := lv.mcl m key hm
    exact mcl_call (by rw [ct.hL]; exact libW_mono sub) hC ok h1 F hl hlen hst hnil ho ha hsup
  mck := fun X W m key pm o io args kws is js ap cp ok hm hmk hl hlen hst hst2 hne hnil h1 h2 ho ha hkw hsup => by
    obtain ⟨gt, ks, e, h3, F⟩ := lv.mck _ hmk key hm
    have e : kws.map (fun (k : Keyword) => k.arg) = ks.map some := e
    have hl2 : kws.length = ks.length := by
      have := congrArg List.length e
      simpa using this
    exact mck_call (by rw [ct.hL]; exact libW_mono sub) hC ok h3 F hl hlen hst hnil e h1 (by rw [h2, hl2]) ho ha hkw hsup
  att := fun X W o io f key pos ok hf ho hsup => lv.att f key hf X W o io pos ok ho hsup
  eqo := fun X W ok => lv.eqo X W ok
  lam := fun X W f params body scope q lp pos n e nm is ok h1 h2 h3 h4 h5 h6 h7 => lv.lam X W f params body scope q lp pos n e nm is ok h1 h2 h3 h4 h5 h6 h7
  rev := fun X W o io s q pos ok hr hm ho => p_rev (by rw [ct.hL]; exact libW_mono sub) hC ok.bs.K hm ho
end
/-! ### the same names without the ask for guards -/
def Pg.no (p : Pg) : Pg := { p with fl := false, lq := false }
theorem OkX.no {p : Pg} {G : Cfg} {k : Nat} {X : Cx} {W : WX} (h : OkX p G k X W) : OkX p.no G k X W := ⟨h.P, h.w, h.mg, h.base, h.bs, h.room, (fun z => nomatch z), h.tk, LmV.nil rfl, h.ind⟩
theorem FnG.of_no {p : Pg} {G : Cfg} {C : Call} {k : Nat} {f : Addr} {fd : FuncData} {ps : List Str} {nm : Str} (F : FnG p.no G C k f fd ps nm) : FnG p G C k f fd ps nm :=
  fun A outer s H args us vs ds Q E hr hg e0 hb r rd tb hl z => F A outer s H args us vs ds Q E hr (fun z => nomatch z) e0 hb r rd tb hl z
theorem CalP.of_no {p : Pg} {G : Cfg} {C : Call} {k : Nat} {u : Value} {nm : Str} (F : CalP p.no G C k u nm) : CalP p G C k u nm := fun X W pins σ H s Q us vs ds ok => F X W pins σ H s Q us vs ds ok.no
theorem CalK.of_no {p : Pg} {G : Cfg} {C : Call} {k : Nat} {u : Value} {nm : Str} {ks : List Str} {n : Nat} {pm : List Nat} (F : CalK p.no G C k u nm ks n pm) : CalK p G C k u nm ks n pm := fun X W pins σ H s Q us ws vs zs ds es ok => F X W pins σ H s Q us ws vs zs ds es ok.no
theorem CalC.of_no {p : Pg} {G : Cfg} {C : Call} {k : Nat} {f : Addr} {nm : Str} (F : CalC p.no G C k f nm) : CalC p G C k f nm := fun X W pins σ H s Q us vs ds ok => F X W pins σ H s Q us vs ds ok.no
theorem CalCK.of_no {p : Pg} {G : Cfg} {C : Call} {k : Nat} {f : Addr} {nm : Str} {ks : List Str} {n : Nat} {pm : List Nat} (F : CalCK p.no G C k f nm ks n pm) : CalCK p G C k f nm ks n pm := fun X W pins σ H s Q u us ws v vs zs d ds es ok => F X W pins σ H s Q u us ws v vs zs d ds es ok.no
/-- the law's level over the program's -/
theorem Lv.law {p : Pg} {G : Cfg} {sub : Sub} {g g' : Gi} {C : Call} {k : Nat} (lv : Lv p.no G sub g C k) (hm : g'.mcl = g.mcl) (hk : g'.mkw = g.mkw) (ha : g'.att = g.att) (hlam : LamOk p G g' C k)
    (fn : ∀ f ∈ g'.fns, f ∈ g.fns ∨ ∃ u, p.mg f = some u ∧ PySem.W.keepIn G.K u = true ∧ CalP p G C k u f) (kw : ∀ e ∈ g'.kws, e ∈ g.kws ∨ ∃ u ks, e.2.1 = ks.map some ∧ p.mg e.1 = some u ∧ PySem.W.keepIn G.K u = true ∧ CalK p G C k u e.1 ks e.2.2.1 e.2.2.2) : Lv p G sub g' C k where
  fn := fun f hf => by
    rcases fn f hf with z | z
    · obtain ⟨u, h1, h2, h3⟩ := lv.fn f z
      exact ⟨u, h1, h2, h3.of_no⟩
    · exact z
  kw := fun e he => by
    rcases kw e he with z | z
    · obtain ⟨u, ks, h1, h2, h3, h4⟩ := lv.kw e z
      exact ⟨u, ks, h1, h2, h3, h4.of_no⟩
    · exact z
  mcl := fun m key h => by
    obtain ⟨gt, h1, h2⟩ := lv.mcl m key (by rw [← hm]; exact h)
    exact ⟨gt, h1, h2.of_no⟩
  mck := fun e he key h => by
    obtain ⟨gt, ks, h1, h2, h3⟩ := lv.mck e (by rw [← hk]; exact he) key (by rw [← hm]; exact h)
    exact ⟨gt, ks, h1, h2, h3.of_no⟩
  att := fun f key h X W o io pos ok ho hs => lv.att f key (by rw [← ha]; exact h) X W o io pos ok.no ho hs
  lam := hlam
  eqo := fun X W ok => lv.eqo X W ok.no
  ob := fun X W ok b f hf => lv.ob X W ok.no b f hf
/-! ### plain parameters -/
theorem fm_skip {α : Type} {p : Str} {u : α} {l : List (Str × α)} : ∀ {qs : List Str}, p ∉ qs → (qs.filterMap fun n => (((p, u) :: l).lookup n).map (n, ·)) = qs.filterMap fun n => (l.lookup n).map (n, ·)
  | [], _ => rfl
  | q :: qs, h => by
    simp only [List.mem_cons, not_or] at h
    have hne : (q == p) = false := by
      rw [beq_eq_false_iff_ne]
      exact fun e => h.1 e.symm
    rw [List.filterMap_cons, List.filterMap_cons, fm_skip h.2, List.lookup_cons, hne]
theorem lookup_zip {α : Type} : ∀ {ps : List Str} {us : List α}, ps.Nodup → us.length = ps.length → (ps.filterMap fun n => ((ps.zip us).lookup n).map (n, ·)) = ps.zip us
  | [], [], _, _ => rfl
  | p :: ps, u :: us, hd, hl => by
    have h1 := List.nodup_cons.mp hd
    rw [List.zip_cons_cons, List.filterMap_cons, fm_skip h1.1, lookup_zip h1.2 (by simpa using hl), List.lookup_cons, beq_self_eq_true]
    rfl
theorem lookup_has {α : Type} : ∀ {ps : List Str} {us : List α} {n : Str}, us.length = ps.length → n ∈ ps → ((ps.zip us).lookup n).isNone = false
  | p :: ps, u :: us, n, hl, h => by
    rw [List.zip_cons_cons, List.lookup_cons]
    cases e : n == p with
    | true => rfl
    | false =>
      have hn : n ∈ ps := by
        rcases List.mem_cons.mp h with z | z
        · rw [z, beq_self_eq_true] at e
          cases e
        · exact z
      exact lookup_has (by simpa using hl) hn
/-- plain parameters, all of them given -/
def plainPs (ps : List Str) (a : Arguments) : Bool := decide (a.posonlyargs.map (·.arg) = []) && (decide (a.args.map (·.arg) = ps) && (decide (a.kwonlyargs.map (·.arg) = []) && (a.vararg.isNone && a.kwarg.isNone)))
theorem bind_plain {fd : FuncData} {ps : List Str} {us : List Value} (hp : plainPs ps fd.params = true) (hd : ps.Nodup) (hdf : fd.defaults = .none) (hl : us.length = ps.length) : bindArgs fd ⟨us, []⟩ = pure (ps.zip us) := by
  unfold plainPs at hp
  simp only [Bool.and_eq_true, decide_eq_true_eq, Option.isNone_iff_eq_none] at hp
  obtain ⟨h1, h2, h3, h4, h5⟩ := hp
  have hm : (ps.filter fun n => ((ps.zip us).lookup n).isNone) = [] := by
    rw [List.filter_eq_nil_iff]
    intro n hn
    rw [lookup_has hl hn]
    simp
  unfold bindArgs
  simp only [h1, h2, h3, h4, h5, hdf, List.nil_append, List.append_nil, Option.isNone_none, List.length_nil, Nat.sub_zero, List.drop_length, List.zip_nil_right, List.forIn_nil]
  have hs : seqItems? (.none : Value) = pure none := rfl
  simp only [hs, pure_bind, Option.getD_none]
  have hg : ¬ us.length > ps.length := by omega
  simp [hg, hl, hm, lookup_zip hd hl]
end En
/-! En29: facts of the text, as they stand behind the top. -/
namespace En
open PySem L2 PyProof.Rows
theorem Df.binds {K : PySem.W.Frag} {d : Df} {fd : FuncData} {ps : List Str} (F : d.FunD K fd) (hp : plainPs ps d.params = true) (hd : ps.Nodup) : Binds K fd ps [] :=
  L2.FunD.bindsN F fun kV doc pm an cdv ct us hl => bind_plain hp hd rfl hl
theorem Df.bindsA {K : PySem.W.Frag} {d : Df} {fd : FuncData} {ps : List Str} (F : d.FunD K fd) (hp : plainPs ps d.params = true) (hd : ps.Nodup) (s : Shared) (us : List Value) (hl : us.length = ps.length) : BindsTo s fd ⟨us, []⟩ (ps.zip us) :=
  L2.FunD.bindsA F (fun kV doc pm an cdv ct us hl => bind_plain hp hd rfl hl) s us hl
/-! ### the Hook -/
abbrev AlN : Type := Bool × List He.FnW
def obsN (ex : PySem.W.Frag → Bool) (fn : List Df) (K : PySem.W.Frag) : AlN := (ex K && fn.all fun d => d.ok K, fn.map fun d => d.obs K)
def valN (fn : List Df) : AlN := (true, fn.map Df.val)
structure SaysN (ex : PySem.W.Frag → Bool) (fn : List Df) (K : PySem.W.Frag) : Prop where
  more : ex K = true
  defs : ∀ d ∈ fn, ∃ fd, d.FunD K fd
theorem saysN_of {ex : PySem.W.Frag → Bool} {fn : List Df} {K : PySem.W.Frag} (e : obsN ex fn K = valN fn) : SaysN ex fn K := by
  have e1 := He.ba (show (ex K && fn.all fun d => d.ok K) = true from congrArg (fun z : AlN => z.1) e)
  have e2 : fn.map (fun d => d.obs K) = fn.map Df.val := congrArg (fun z : AlN => z.2) e
  refine ⟨e1.1, fun d hd => Df.funD ?_ (List.all_eq_true.mp e1.2 d hd)⟩
  obtain ⟨i, hi, rfl⟩ := List.mem_iff_getElem.mp hd
  have := congrArg (fun l => l[i]?) e2
  simpa [List.getElem?_map, List.getElem?_eq_getElem hi] using this
/-! ### a class with slots -/
open He in
def chkS (K : PySem.W.Frag) (C : Addr) : Bool := PySem.W.plainGet K C Str.empty && (PySem.W.isClsIn K C && (PySem.W.plainOver K C && eqO (PySem.W.findIn K (.ref C) "__setattr__") (some (some (.builtin "object.__setattr__")))))
theorem chkS_ok {K : PySem.W.Frag} {C : Addr} (h : chkS K C = true) : SlX.SCls K C := by
  obtain ⟨h1, h⟩ := He.ba h
  obtain ⟨h2, h⟩ := He.ba h
  obtain ⟨h3, h4⟩ := He.ba h
  exact ⟨h1, h2, h3, He.eqO_ok h4⟩
open He in
def chkSlot (K : PySem.W.Frag) (C : Addr) (f : Str) (i : Nat) : Bool := eqO (PySem.W.findIn K (.ref C) f) (some (some (.ref (ma K C f)))) && (eqO (PySem.W.specialIn K (.ref (ma K C f)) "__get__") (some (some (.builtin "member_descriptor.__get__"))) &&
  (decide (PySem.W.takesIn K (.ref (ma K C f)) = some true) && (decide (PySem.W.typeIn K (.ref (ma K C f)) = some (.type "member_descriptor")) && (decide (PySem.W.slotIn K (ma K C f) C = some i) && decide (i < 1000)))))
theorem chkSlot_ok {K : PySem.W.Frag} {C : Addr} {f : Str} {i : Nat} (h : chkSlot K C f i = true) : SlX.Slot1 K C f (He.ma K C f) i := by
  obtain ⟨h1, h⟩ := He.ba h
  obtain ⟨h2, h⟩ := He.ba h
  obtain ⟨h3, h⟩ := He.ba h
  obtain ⟨h4, h⟩ := He.ba h
  obtain ⟨h5, h6⟩ := He.ba h
  exact ⟨He.eqO_ok h1, He.eqO_ok h2, of_decide_eq_true h3, of_decide_eq_true h4, of_decide_eq_true h5, of_decide_eq_true h6⟩
def chkSlots (K : PySem.W.Frag) (C : Addr) (sl : List Str) : Bool := (List.range sl.length).all fun i => chkSlot K C (sl.getD i Str.empty) i
theorem chkSlots_ok {G : Cfg} {c : Str} {sl : List Str} (h1 : chkS G.K (He.ga G.K c) = true) (h2 : chkSlots G.K (He.ga G.K c) sl = true) : SlotsOf G c sl := by
  refine ⟨chkS_ok h1, fun i f hi => ?_⟩
  have hlt : i < sl.length := by
    rcases Nat.lt_or_ge i sl.length with z | z
    · exact z
    · rw [List.getElem?_eq_none z] at hi; cases hi
  have := List.all_eq_true.mp h2 i (List.mem_range.mpr hlt)
  rw [List.getD_eq_getElem?_getD, hi] at this
  exact ⟨_, chkSlot_ok this⟩
/-- the getter of a property -/
def propG (K : PySem.W.Frag) (C : Addr) (f : Str) : Addr := match PySem.W.recIn K (He.ma K C f) "property" with
  | some (.ref g :: _) => g
  | _ => 0
open He in
def chkProp (K : PySem.W.Frag) (C : Addr) (f : Str) : Bool := eqO (PySem.W.findIn K (.ref C) f) (some (some (.ref (ma K C f)))) && (eqO (PySem.W.specialIn K (.ref (ma K C f)) "__get__") (some (some (.builtin "property.__get__"))) &&
  (decide (PySem.W.takesIn K (.ref (ma K C f)) = some true) && (match PySem.W.recIn K (ma K C f) "property" with
    | some (.ref _ :: _) => true
    | _ => false)))
theorem chkProp_ok {G : Cfg} {c f : Str} (h : chkProp G.K (He.ga G.K c) f = true) : PropF G c f (He.ma G.K (He.ga G.K c) f) (propG G.K (He.ga G.K c) f) := by
  obtain ⟨h1, h⟩ := He.ba h
  obtain ⟨h2, h⟩ := He.ba h
  obtain ⟨h3, h4⟩ := He.ba h
  refine ⟨He.eqO_ok h1, He.eqO_ok h2, of_decide_eq_true h3, ?_⟩
  unfold propG
  split at h4
  · rename_i g r e
    rw [e]
    exact ⟨r, rfl⟩
  · cases h4
/-- the def of a class method -/
def cmG (K : PySem.W.Frag) (C : Addr) (f : Str) : Addr := match PySem.W.recIn K (He.ma K C f) "classmethod" with
  | some (.ref g :: _) => g
  | _ => 0
open He in
def chkCm (K : PySem.W.Frag) (C : Addr) (m : Str) : Bool := PySem.W.readsIn K C (.type "type") && (eqO (PySem.W.specialIn K (.ref C) "__getattribute__") (some (some (.builtin "type.__getattribute__"))) &&
  ((match PySem.W.findCls K (.ref C) (.type "type") m with
    | some (.get (.builtin x) (.ref q) .none (.ref D)) => decide (x = "classmethod.__get__") && (decide (q = ma K C m) && decide (D = C))
    | _ => false) && ((match PySem.W.recIn K (ma K C m) "classmethod" with
    | some (.ref _ :: _) => true
    | _ => false) && PySem.W.fnIn K (cmG K C m))))
theorem chkCm_ok {K : PySem.W.Frag} {C : Addr} {m : Str} (h : chkCm K C m = true) : ClX.CRead K C (.type "type") ∧ ClX.CMet K C (.type "type") m (He.ma K C m) (cmG K C m) := by
  obtain ⟨h1, h⟩ := He.ba h
  obtain ⟨h2, h⟩ := He.ba h
  obtain ⟨h3, h⟩ := He.ba h
  obtain ⟨h4, h5⟩ := He.ba h
  refine ⟨⟨h1, He.eqO_ok h2⟩, ?_, ?_, h5⟩
  · split at h3
    · rename_i x q D e
      obtain ⟨z1, z2⟩ := He.ba h3
      obtain ⟨z2, z3⟩ := He.ba z2
      rw [e, of_decide_eq_true z1, of_decide_eq_true z2, of_decide_eq_true z3]
    · cases h3
  · unfold cmG
    split at h4
    · rename_i g r e
      rw [e]
      exact ⟨r, rfl⟩
    · cases h4
/-! a def of the class that a built-in calls -/
open He in
def chkM (K : PySem.W.Frag) (C : Addr) (m : Str) : Bool := eqO (PySem.W.findIn K (.ref C) m) (some (some (.ref (ma K C m)))) && PySem.W.isFn K (.ref (ma K C m))
theorem chkM_ok {K : PySem.W.Frag} {C : Addr} {m : Str} (h : chkM K C m = true) : PySem.W.findIn K (.ref C) m = some (some (.ref (He.ma K C m))) ∧ PySem.W.isFn K (.ref (He.ma K C m)) = true := by
  obtain ⟨h1, h2⟩ := He.ba h
  exact ⟨He.eqO_ok h1, h2⟩
end En
namespace En
open PySem L2 PyProof.Rows TL
/-! Xe1: own errors with one value, made and raised. -/
open PySem.Spec
/-! ### the built-in class over which they stand -/
inductive Bas where
  | ve | le | ae
def Bas.nm : Bas → String
  | .ve => "ValueError"
  | .le => "LookupError"
  | .ae => "ArithmeticError"
def Bas.new : Bas → String
  | .ve => "ValueError.__new__"
  | .le => "LookupError.__new__"
  | .ae => "ArithmeticError.__new__"
def Bas.ini : Bas → String
  | .ve => "ValueError.__init__"
  | .le => "LookupError.__init__"
  | .ae => "ArithmeticError.__init__"
def Bas.tl (b : Bas) : List Value := [.type b.nm, .type "Exception", .type "BaseException", .type "object"]
theorem Bas.facts : ∀ b : Bas, PySem.ExcBaseFacts b.nm b.new b.ini b.tl
  | .ve => F.excBase_ValueError
  | .le => F.excBase_LookupError
  | .ae => F.excBase_ArithmeticError
theorem Bas.pass (v : Value) : ∀ b : Bas, refuseLoop v "__setattr__" b.tl = pure ()
  | .ve => F.store_ValueError.passes v
  | .le => F.store_LookupError.passes v
  | .ae => F.store_ArithmeticError.passes v
theorem Bas.obj : ∀ b : Bas, b.tl.contains (.type "object") = true
  | .ve => by decide +kernel
  | .le => by decide +kernel
  | .ae => by decide +kernel
/-- own classes, then those of the base -/
def Bas.mro (b : Bas) : List Value → Bool
  | .ref _ :: r => b.mro r
  | l => l == b.tl
theorem Bas.two (b : Bas) : ∀ {l : List Value}, b.mro l = true → (∃ c r, l = .ref c :: r ∧ b.mro r = true) ∨ l = b.tl := fun {l} e => by
  unfold Bas.mro at e
  split at e
  · exact .inl ⟨_, _, rfl, e⟩
  · exact .inr (beq_iff_eq.mp e)
theorem Bas.ind (b : Bas) {P : List Value → Prop} (h1 : ∀ c r, P r → P (.ref c :: r)) (h2 : P b.tl) : ∀ l : List Value, b.mro l = true → P l
  | [], e => by
    rcases b.two e with ⟨c, r, z, _⟩ | z
    · cases z
    · rw [z]
      exact h2
  | a :: r, e => by
    rcases b.two e with ⟨c, r', z, h⟩ | z
    · obtain ⟨rfl, rfl⟩ := List.cons.inj z
      exact h1 _ _ (Bas.ind b h1 h2 _ h)
    · rw [z]
      exact h2
theorem Bas.mro_pass (b : Bas) (v : Value) {l : List Value} (h : b.mro l = true) : refuseLoop v "__setattr__" l = pure () :=
  b.ind (P := fun l => refuseLoop v "__setattr__" l = pure ()) (fun c r z => by rw [PySem.refuseLoop_ref]; exact z) (b.pass v) l h
theorem Bas.mro_has (b : Bas) (y : String) {l : List Value} (h : b.mro l = true) : l.contains (.type y) = b.tl.contains (.type y) :=
  b.ind (P := fun l => l.contains (.type y) = b.tl.contains (.type y)) (fun c r z => by rw [List.contains_cons, z]; rfl) rfl l h
theorem Bas.mro_ne (b : Bas) {l : List Value} (h : b.mro l = true) : l.isEmpty = false :=
  b.ind (P := fun l => l.isEmpty = false) (fun _ _ _ => rfl) rfl l h
section
open Builtin Builtin.ObjectAttr
/-- self.f = v of an exception without a dict -/
theorem exc_put {prog : Program} {w : World} {A : Around} {R : Result → Shared → Prop} {h0 : Heap} {gs : Array GenState} {dr : Drawn} {n0 : Nat} {os0 : OsState} {K : PySem.W.Frag} {f : Str} {t0 : Tok} {v : Value} {x C : Addr} {fv : Array Value} {cd : ClassData} (b : Bas)
    (hK : K.In h0) (ox : h0.get? x = some { cls := .ref C, data := .fields fv }) (hcd : PySem.W.clsIn K C = some cd) (hm : b.mro cd.mro = true) (hd : cd.hasDict = true) (hno : PySem.W.findIn K (.ref C) f = some none)
    (q : ∀ h1 t1 dx, (∀ c o, c ≠ x → h0.get? c = some o → h1.get? c = some o) → h0.objs.size ≤ dx → dx ≠ x → h1.get? x = some { cls := .ref C, dict := some dx, data := .fields fv } → h1.Ns1 dx (fun y => if y = f then some v else none) → R (.ok (.ret .none)) ⟨h1, gs, dr, t1, os0⟩) :
    codeAny (model prog w) A (.call (.builtin "object.__setattr__") ⟨[.ref x, .str f t0, v], []⟩) R ⟨h0, gs, dr, n0, os0⟩ := by
  have I0 : PySem.W.InstAt h0 x { cls := .ref C, data := .fields fv } C none := ⟨ox, rfl, rfl, trivial⟩
  have S0 := F.store_object
  have hne := b.mro_ne hm
  have hob : cd.mro.contains (.type "object") = true := (b.mro_has "object" hm).trans b.obj
  have xs : x ≠ h0.objs.size := Nat.ne_of_lt (Heap.lt_size ox)
  have hsub : PySem.W.Looks (model prog w) h0 (isInstance (.ref x) (.type "object")) true := I0.type.andThen (PySem.W.looks_mroIn hK (by unfold PySem.W.mroIn; rw [hcd, Option.bind_some, if_neg (by rw [hne]; decide), hob]))
  refine codeAny_call_builtin S0.slot.plain S0.entry (@PySem.W.check_slot (model prog w) _ _ ⟨h0, gs, dr, n0, os0⟩ "object.__setattr__" "object" "__setattr__" (.ref x) [.str f t0, v] [] _ S0.kind S0.split hsub (S0.args (.ref x) (.str f t0) v) ?_)
  have L1 : PySem.W.Looks (model prog w) h0 (mroOf (.ref C)) cd.mro := (PySem.W.looks_clsIn hK hcd).andThen .now
  have L2 : PySem.W.Looks (model prog w) h0 (storeTaker? none) none := .now
  have L4 : PySem.W.Looks (model prog w) h0 (classData C) cd := PySem.W.looks_clsIn hK hcd
  rw [PySem.W.osa_eq, PySem.refuse_eq]
  refine wpAny_bind (wpAny_bind (I0.type.at (wpAny_bind (L1.at ?_))))
  rw [b.mro_pass _ hm]
  refine wpAny_pure (wpAny_bind (I0.type.at (wpAny_bind ((PySem.W.looks_findIn hK hno).at (wpAny_bind (L2.at ?_))))))
  show wpAny _ _ (storeInOwnDict (.ref x) (.ref C) (.str f t0) f v false) _ _ _
  obtain ⟨c1, c2, c3, c4, c5, c6, c7, c8, c9, c10, c11⟩ := cd
  dsimp only at hd
  subst hd
  unfold storeInOwnDict ownDictForStores
  repeat (first | with_reducible refine PySem.HandSPX.store_in_new ?_ ?_ | with_reducible refine wpAny_loadPart_at ox ?_ | with_reducible refine L4.at ?_ | wp_step)
  · exact ⟨_, #[], _, (Heap.get?_update_ne _ _ _ _ xs.symm).trans (Heap.get?_push_at rfl rfl), rfl, fun e z => absurd z (by simp), fun _ => rfl⟩
  · intro h1 t1 n1 sb
    have ox1 : (h0.push { cls := .type "dict", data := .dict #[] }).get? x = some { cls := .ref C, data := .fields fv } := Heap.get?_push_of_some _ ox
    refine q h1 t1 h0.objs.size (fun c o hc z => ?_) (Nat.le_refl _) xs.symm ?_ n1
    · exact (sb.2 c (Nat.ne_of_lt (Heap.lt_size z))).trans ((Heap.get?_update_ne _ _ _ _ hc).trans (Heap.get?_push_of_some _ z))
    · exact (sb.2 x xs).trans (Heap.get?_update_self _ ox1 rfl)
end
/-- what the written part says of such a class -/
structure OexB (K : PySem.W.Frag) (C : Addr) : Prop where
  cls : ∃ (b : Bas) (nm q : Str) (N : Addr) (bs bm : List Value) (sn : List Str) (sub : List Value) (ab : Bool) (col : Option Bool) (dd : Option Addr) (k0 k1 k2 k3 k5 : Option Value), K.lookup C = some (excClassObj nm q C N bs bm true sn sub ab col dd k0 k1 k2 k3 k5 b.new) ∧ b.mro bm = true
  sa : PySem.W.findIn K (.ref C) "__setattr__" = some (some (.builtin "object.__setattr__"))
  exC : PySem.W.subIn K (.ref C) (.type "BaseException") = some true
  tyC : PySem.W.typeIn K (.ref C) = some (.type "type")
  kC : PySem.W.keepIn K (.ref C) = true
section
variable {X : Cx} {pins : List (Addr × Obj)} {σ : L2.St} {H : Hp} {s : Shared} {a C : Addr} {f : Str} {y : V} {u : Value} {A : Around} {E : Value → Shared → Prop}
/-- self.f = y, by what is known of the heap -/
theorem put_new {Q : Unit → Shared → Prop} (T : OexB X.K C) (I : Inv X pins σ H s) (e : H a = some (exo a C none)) (hno : PySem.W.findIn X.K (.ref C) f = some none) (ry : RelV y u)
    (h : ∀ dx s', H dx = none → dx ≠ a → Inv X pins σ (upd (upd H dx (exd dx [(f, y)])) a (exo a C (some dx))) s' → Q () s') : wpAny (model X.prog X.w) A (setAttr (.ref a) f u) Q E s := by
  obtain ⟨b, nm, q, N, bs, bm, sn, sub, ab, col, dd, k0, k1, k2, k3, k5, oC, hbm⟩ := T.cls
  have hcl : PySem.W.clsIn X.K C = some { name := nm, bases := bs, mro := .ref C :: bm, ns := N, qualname := q, hasDict := true, slotNames := sn, subclasses := sub, abstract := ab, collection := col, hasDel := false } := by unfold PySem.W.clsIn; rw [oC] <;> rfl
  obtain ⟨t1, ho⟩ := exo_at I.hok e
  obtain ⟨h0, gs, dr, n0, os0⟩ := s
  refine PySem.W.set_plain I.kIn (ox := { cls := .ref C, dict := none, data := .fields #[.ref t1, .none, .none, .none, .bool false, .none] }) (od := none) ⟨ho, rfl, rfl, trivial⟩ T.sa ?_
  refine exc_put b I.kIn ho hcl (show b.mro (.ref C :: bm) = true from hbm) rfl hno (fun h1 t1 dx kp dn dne hx hn => ?_)
  have nx : H dx = none := I.hok.fresh dn
  have nd : ∀ {c : Addr} {o : Obj}, h0.get? c = some o → c ≠ dx := fun {c o} z => Nat.ne_of_lt (Nat.lt_of_lt_of_le (Heap.lt_size z) dn)
  have na : ∀ {c : Addr}, H c = none → c ≠ a := fun {c} n z => by
    rw [z, e] at n
    cases n
  have U1 : Un X.fs [] H (upd (upd H dx (exd dx [(f, y)])) a (exo a C (some dx))) h0 h1 := {
    keep := fun c o z n _ _ => kp c o (na n) z
    slot := fun c o z n _ _ => ⟨o.slots, kp c o (na n) z⟩
    free := fun c o z n _ => by rw [upd_ne (na n), upd_ne (nd z)]; exact n
    there := fun c o z _ => by
      by_cases hc : c = a
      · exact ⟨_, by rw [hc]; exact hx⟩
      · exact ⟨o, kp c o hc z⟩
    tups := fun c xs z => by rw [upd_ne (at_ne e z exo_tup), upd_ne (ne_of_none z nx)]; exact z
    frzs := fun c o v z => by rw [upd_ne (at_ne e z exo_frz), upd_ne (ne_of_none z nx)]; exact z
    tbls := fun c ps z => ⟨#[], by rw [upd_ne (at_ne e z exo_tbl), upd_ne (ne_of_none z nx), z]; simp⟩ }
  refine h dx _ nx dne (I.un (t' := t1) U1 fun c o z => ?_)
  by_cases hc : c = a
  · subst hc
    rw [upd_same] at z
    cases z
    exact exo_ok hx
  · rw [upd_ne hc] at z
    by_cases hd : c = dx
    · subst hd
      rw [upd_same] at z
      cases z
      exact exd_ok hn (relO_put (fs := []) ry fun g => True.intro)
    · rw [upd_ne hd] at z
      refine (I.hok c o z).stay (fun c' v hc' y' => kp c' v ?_ y') (fun c' hc' => ?_) fun c' xs hc' => ?_
      · rcases hc' with hc' | hc'
        · rw [hc']
          exact hc
        · exact at_ne e hc' exo_own
      · rw [upd_ne (at_ne e hc' exo_own), upd_ne (ne_of_none hc' nx)]
        exact hc'
      · rw [upd_ne (at_ne e hc' exo_tup), upd_ne (ne_of_none hc' nx)]
        exact hc'
end
/-- self.f = e of an error that is being made -/
def tPut (K : PySem.W.Frag) (f : Str) (to te : TE) : TS := fun D σ H => te σ H fun y H1 => to σ H1 fun x H2 => ∃ a C : Addr, x = .ref a ∧ OexB K C ∧ PySem.W.findIn K (.ref C) f = some none ∧ H2 a = some (exo a C none) ∧ ∀ dx, H2 dx = none → dx ≠ a → D.nx σ (upd (upd H2 dx (exd dx [(f, y)])) a (exo a C (some dx)))
theorem ps_put {X : Cx} {o e : Expr} {to te : TE} {f : Str} {q1 pos : Pos} (ho : PE X o to) (he : PE X e te) (hs : swapsWith e (some (.Attribute o f q1)) pos.line X.env = pure false := by rfl) : PS X (.Assign [.Attribute o f q1] e pos) (tPut X.K f to te) := by
  refine ⟨fun pins s σ H D I h => ?_⟩
  refine plainObj_wpAny_Assign_Attribute (thn (he.run pins s σ H _ I h) fun v s1 ⟨y, H1, I1, r1, z1⟩ => thn (ho.run pins s1 σ H1 _ I1 z1) fun u s2 ⟨x, H2, I2, r2, a, C, ex, T, hno, ea, z⟩ => ?_) hs
  subst ex
  obtain rfl : u = Value.ref a := r2
  exact put_new T I2 ea hno r1 fun dx s' n ne J => ⟨σ, _, J, z dx n ne⟩
/-- C(e, ..) -/
theorem pmk_own {X : Cx} {e : Expr} {es : List Expr} {ta : TA} {q pos : Pos} {CX : CXT} {x : Str} {C fI : Addr} {k : Nat} {fd : FuncData} {ps : List Str} {sp : Sp} (T : OexB X.K C) (iC : PySem.W.findIn X.K (.ref C) "__init__" = some (some (.ref fI))) (tI : PySem.W.typeIn X.K (.ref fI) = some (.type "function"))
    (F1 : FnOk X.prog X.w X.K X.mg X.base CX k fI fd ps sp) (hr : Room (k + 1) X.A) (hb : Binds X.K fd ps []) (hx : Passes CX X (fun _ _ _ => False)) (hg : Gl X x) (hm : X.mg x = some (.ref C)) (ha : PA X (e :: es) ta)
    (hdb : (x == ("__debug__" : Str)) = false) (he : starEach (e :: es) X.env = (false, eval e X.env) :: starEach es X.env) (hpl : (backTo pos (starEach es X.env)).any (·.1) = false) : PMk X (.Call (.Name x q) (e :: es) [] pos) (tMkO C sp [] ta) := by
  intro pins s σ H Q I h
  obtain ⟨b, nm, q, N, bs, bm, sn, sub, ab, col, dd, k0, k1, k2, k3, k5, oC, hbm⟩ := T.cls
  refine wpAny_Call_Name_kw (ld_glob I hg hm ?_ hdb)
  refine PySem.W.callWith_K (h₀ := X.base) I.ok.mod.kin T.kC (thn (ha.run pos pins s σ H _ I h) fun us s1 ⟨vs, H1, I1, r1, hz, z1⟩ => ⟨I1.kIn, ?_⟩) he hpl
  show wpAny _ _ (call (.ref C) us) _ _ _
  obtain ⟨h0, gs, dr, n0, os0⟩ := s1
  have sz : h0.objs.size ≤ h0.objs.size + 1 := Nat.le_succ _
  have nn : H1 (h0.objs.size + 1) = none := I1.hok.fresh sz
  have z2 := z1 (h0.objs.size + 1) nn
  have kk : ∀ c o, h0.get? c = some o → ((h0.push (PySem.W.kdv_tup us)).push (PySem.HandSPX.excO C h0.objs.size)).get? c = some o := fun c o e => Heap.get?_push_of_some _ (Heap.get?_push_of_some _ e)
  have hget : ((h0.push (PySem.W.kdv_tup us)).push (PySem.HandSPX.excO C h0.objs.size)).get? (h0.objs.size + 1) = some (PySem.HandSPX.excO C h0.objs.size) := by heap_get
  have I2 : Inv X pins σ (upd H1 (h0.objs.size + 1) (exo (h0.objs.size + 1) C none)) ⟨(h0.push (PySem.W.kdv_tup us)).push (PySem.HandSPX.excO C h0.objs.size), gs, dr, n0, os0⟩ :=
    I1.laid (t' := n0) (a := h0.objs.size + 1) (o := exo (h0.objs.size + 1) C none) (h' := (h0.push (PySem.W.kdv_tup us)).push (PySem.HandSPX.excO C h0.objs.size)) kk sz (exo_ok hget)
  have r2 : Vals (V.ref (h0.objs.size + 1) :: (vs ++ [])) (Value.ref (h0.objs.size + 1) :: (us ++ [])) := .cons rfl (r1.append .nil)
  have hl : (Value.ref (h0.objs.size + 1) :: us ++ []).length = ps.length := by
    have e := r2.length
    rw [F1.len _ _ _ _ z2] at e
    exact e.symm
  have hus : us.length ≤ sizeLine := by
    rw [← Paired.length r1, sizeLine_eq]
    omega
  have bt := hb _ (Value.ref (h0.objs.size + 1) :: us) I2.kIn hl
  rw [List.cons_append] at bt
  refine wpAny_call (PySem.HandSPX.call_own b.facts (fun y => b.mro_has y hbm) (I1.kIn _ _ oC) (PySem.W.looks_findIn I1.kIn iC) (fun self => PySem.W.bind_fn I1.kIn self tI) hus
    (codeAny_mono (F1.run _ X.stack _ _ ⟨Value.ref (h0.objs.size + 1) :: us, []⟩ (Value.ref (h0.objs.size + 1) :: (us ++ [])) _ _ (fun _ _ _ => False) (hr.make C us []) (I2.env0.make C us []) bt r2 z2) fun r s' z3 => ?_))
  cases r with
  | error er => exact hx pins σ _ _ er s' I2 z3
  | ok fl =>
    cases fl with
    | ret u =>
      obtain ⟨v, H2, os2, bare2, un2, hok2, rv, ev, d, fs, ea, ed, hd1, q2⟩ := z3
      subst ev
      obtain ⟨h2, g2, d2, t2, os'⟩ := s'
      exact ⟨rv, mk_end (raises_own T.exC T.tyC) I1 sz kk un2 hok2 os2 bare2 ea ed hd1 q2⟩
    | next => exact z3.elim
    | brk => exact z3.elim
    | cont => exact z3.elim
def basOf (n : String) : Option Bas := if n = "ValueError.__new__" then some .ve else if n = "LookupError.__new__" then some .le else if n = "ArithmeticError.__new__" then some .ae else none
theorem basOf_ok {n : String} {b : Bas} (h : basOf n = some b) : b.new = n := by
  unfold basOf at h
  split at h
  · rename_i e
    cases h
    exact e.symm
  · split at h
    · rename_i e
      cases h
      exact e.symm
    · split at h
      · rename_i e
        cases h
        exact e.symm
      · cases h
def oexB (K : PySem.W.Frag) (C : Addr) : Bool := match K.lookup C with
  | some ⟨.type "type", _, .cls cd, sl⟩ => (match cd.mro, sl.toList with
    | .ref c :: bm, [_, _, _, _, some (.builtin n), _] => c == C && cd.hasDict && !cd.hasDel && (match basOf n with
      | some b => b.mro bm
      | none => false)
    | _, _ => false)
  | _ => false
theorem oexB_ok {K : PySem.W.Frag} {C : Addr} (h : oexB K C = true) : ∃ (b : Bas) (nm q : Str) (N : Addr) (bs bm : List Value) (sn : List Str) (sub : List Value) (ab : Bool) (col : Option Bool) (dd : Option Addr) (k0 k1 k2 k3 k5 : Option Value), K.lookup C = some (excClassObj nm q C N bs bm true sn sub ab col dd k0 k1 k2 k3 k5 b.new) ∧ b.mro bm = true := by
  unfold oexB at h
  split at h
  · rename_i dd cd sl ho
    split at h
    · rename_i c bm n k0 k1 k2 k3 k5 e1 e2
      simp only [Bool.and_eq_true, beq_iff_eq, Bool.not_eq_true'] at h
      obtain ⟨⟨⟨h1, h3⟩, h4⟩, h5⟩ := h
      split at h5
      · rename_i b hb
        have hn := basOf_ok hb
        obtain ⟨n1, n2, n3, n4, n5, n6, n7, n8, n9, n10, n11⟩ := cd
        obtain ⟨sl⟩ := sl
        simp only at e1 e2 h3 h4
        subst h1 h3 h4 e1 e2 hn
        exact ⟨b, n1, n5, n4, n2, bm, n7, n8, n9, n10, dd, _, _, _, _, _, ho, h5⟩
      · cases h5
    · cases h
  · cases h
/-- what is asked of an own error's class: f is the name of its value -/
def errB (K : PySem.W.Frag) (c f : Str) : Bool := oexB K (He.ga K c) && (He.eqO (PySem.W.findIn K (.ref (He.ga K c)) "__setattr__") (some (some (.builtin "object.__setattr__"))) && (decide (PySem.W.subIn K (.ref (He.ga K c)) (.type "BaseException") = some true) && (decide (PySem.W.typeIn K (.ref (He.ga K c)) = some (.type "type")) && (PySem.W.keepIn K (.ref (He.ga K c)) &&
  (He.eqO (PySem.W.findIn K (.ref (He.ga K c)) "__init__") (some (some (.ref (He.ma K (He.ga K c) "__init__")))) && (decide (PySem.W.typeIn K (.ref (He.ma K (He.ga K c) "__init__")) = some (.type "function")) && He.eqO (PySem.W.findIn K (.ref (He.ga K c)) f) (some none)))))))
structure ErrC (K : PySem.W.Frag) (c f : Str) : Prop where
  T : OexB K (He.ga K c)
  iC : PySem.W.findIn K (.ref (He.ga K c)) "__init__" = some (some (.ref (He.ma K (He.ga K c) "__init__")))
  tI : PySem.W.typeIn K (.ref (He.ma K (He.ga K c) "__init__")) = some (.type "function")
  no : PySem.W.findIn K (.ref (He.ga K c)) f = some none
theorem errB_ok {K : PySem.W.Frag} {c f : Str} (h : errB K c f = true) : ErrC K c f := by
  obtain ⟨h1, h⟩ := He.ba h
  obtain ⟨h2, h⟩ := He.ba h
  obtain ⟨h3, h⟩ := He.ba h
  obtain ⟨h4, h⟩ := He.ba h
  obtain ⟨h5, h⟩ := He.ba h
  obtain ⟨h6, h⟩ := He.ba h
  obtain ⟨h7, h8⟩ := He.ba h
  exact ⟨⟨oexB_ok h1, He.eqO_ok h2, of_decide_eq_true h3, of_decide_eq_true h4, h5⟩, He.eqO_ok h6, of_decide_eq_true h7, He.eqO_ok h8⟩
/-- an own error's class: its __init__ keeps its one value -/
structure ECls (p : Pg) (G : Cfg) (c f : Str) : Prop where
  k : ErrC G.K c f
  mg : p.mg c = some (.ref (He.ga G.K c))
  fl : G.fl c = [f]
  ini : ∃ (d : Df) (fd : FuncData) (sf x : Str) (q0 q1 q2 q3 : Pos), d.FunD G.K fd ∧ d.ad G.K = He.ma G.K (He.ga G.K c) "__init__" ∧ d.body = [.Assign [.Attribute (.Name sf q0) f q1] (.Name x q2) q3] ∧ FnScope [sf, x] [sf, x] d.scope ∧ Binds G.K fd [sf, x] [] ∧ odd sf = false ∧ odd x = false
/-- the promise of its __init__ -/
def spX (C : Addr) (f : Str) : Sp := fun vs H Q _ => ∃ a y, vs = [.ref a, y] ∧ H a = some (exo a C none) ∧ ∀ dx, H dx = none → dx ≠ a → Q .non (upd (upd H dx (exd dx [(f, y)])) a (exo a C (some dx)))
section
variable {p : Pg} {G : Cfg} {C : Call} {k : Nat} {c f : Str}
theorem vis_of {N ps : List Str} {sc : Scope} {x : Str} (S : FnScope N ps sc) (h : x ∈ ps) : Vis sc x := (S.par x h).elim (fun z => .inl z) fun z => .inr (.inl z)
theorem err_init {j : Nat} (e : ECls p G c f) : ∃ fd ps, Binds G.K fd ps [] ∧ FnOk p.P p.w G.K p.mg p.base (L2.CX p.P p.w) (j + 1) (He.ma G.K (He.ga G.K c) "__init__") fd ps (spX (He.ga G.K c) f) := by
  obtain ⟨d, fd, sf, x, q0, q1, q2, q3, F, ead, eb, S, bd, o1, o2⟩ := e.ini
  obtain ⟨oc, od, dV, kV, doc, pm, an, cdv, ct, osl, rfl, lk, hcd, _, _⟩ := F.ex
  refine ⟨_, _, bd, ⟨fun vs H Q E ⟨a, y, h1, _⟩ => by rw [h1]; rfl, fun A outer s H args us vs Q E hr e0 hb r ⟨a, y, h1, h2, h3⟩ => ?_⟩⟩
  subst h1
  rw [← ead]
  refine LamX.run_ofS (N := [sf, x]) lk hcd S hr e0 hb r rfl fun hr2 => ?_
  rw [eb]
  obtain ⟨d1, d2, d3⟩ := odd_cases o1
  obtain ⟨g1, g2, g3⟩ := odd_cases o2
  refine ⟨_, pss_one (ps_put (pe_var (i := 0) rfl (vis_of S (by simp)) d1 d2) (pe_var (i := 1) rfl (vis_of S (by simp)) g1 g2)), ?_⟩
  refine ⟨y, rfl, .ref a, rfl, a, He.ga G.K c, rfl, e.k.T, e.k.no, h2, fun dx n1 n2 => ?_⟩
  exact h3 dx n1 n2
theorem err_mk (hfl : p.fl = false) (e : ECls p G c f) (hC : ∀ ds Q E, C c ds Q E → ds.length = 1 ∧ Q (.v .non)) (hL : ∀ Q, C "!lv" [] Q E0 → ∃ j, k = j + 2) (hB : G.B.Mono) (hM : MonoC C) {X : Cx} {E : XK} (ok : OkX p G k X (wE E)) (hg : Gl X c) (ho : odd c = false) {args : List Expr} {is : Exs} {q pos : Pos}
    (ha : PA X args (rdA G C (wE E) is)) (hst : ∀ e ∈ args, isStar e = false) (hnil : args = [] → is = .nil) : PMk X (.Call (.Name c q) args [] pos) (rdX G C (wE E) c is) := by
  intro pins s σ H Q I h
  cases args with
  | nil =>
    obtain ⟨r, re, tb, _, z⟩ := h
    rw [hnil rfl] at z
    unfold evAs at z
    obtain ⟨hl, _⟩ := hC _ _ _ z
    cases hl
  | cons e1 es =>
    obtain ⟨r, re, tb, z0, z⟩ := h
    obtain ⟨j, rfl⟩ := hL _ z0
    obtain ⟨fd, ps, bd, F1⟩ := err_init (j := j) e
    obtain ⟨d1, d2, d3⟩ := odd_cases ho
    have KX : X.K = G.K := ok.bs.K
    have hx : Passes (L2.CX p.P p.w) X (fun _ _ _ => False) := fun pins σ H s er s' I z => by
      obtain ⟨_, _, _, _, _, _, _, _, _, _, _, _, z⟩ := z
      exact z.elim
    have F1' : FnOk X.prog X.w X.K X.mg X.base (L2.CX p.P p.w) (j + 1) (He.ma G.K (He.ga G.K c) "__init__") fd ps (spX (He.ga G.K c) f) := by
      rw [ok.P, ok.w, ok.mg, ok.base, KX]
      exact F1
    have hp := pmk_own (q := q) (pos := pos) (x := c) (e := e1) (es := es) (by rw [KX]; exact e.k.T) (by rw [KX]; exact e.k.iC) (by rw [KX]; exact e.k.tI) F1' ok.room (by rw [KX]; exact bd) hx hg (by rw [ok.mg]; exact e.mg) ha d1 (starEach_cons (hst e1 List.mem_cons_self)) (noStars fun x hx => hst x (List.mem_cons_of_mem _ hx))
    refine hp pins s σ H Q I ?_
    refine a_bind hB hM re tb (LamX.ExtN.refl H) z fun ds vs H1 rs x1 t1 g => ?_
    obtain ⟨hl, g⟩ := hC _ _ _ g
    obtain ⟨d, rfl⟩ : ∃ d, ds = [d] := List.length_eq_one_iff.mp hl
    cases rs with
    | cons rd rs =>
      cases rs
      rename_i v
      refine ⟨by simp, fun a na => ⟨a, v, rfl, upd_same, fun dx nd ne => ?_⟩⟩
      have nd1 : H1 dx = none := by rw [upd_ne ne] at nd; exact nd
      refine ⟨rfl, dx, [(f, v)], upd_same, by rw [upd_ne ne, upd_same], nd1, ?_⟩
      have eH : upd (del (upd (upd (upd H1 a (exo a (He.ga G.K c) none)) dx (exd dx [(f, v)])) a (exo a (He.ga G.K c) (some dx))) a) dx (.xd [(f, v)]) = upd H1 dx (.xd [(f, v)]) := by
        funext b
        by_cases hb : b = dx
        · subst hb
          rw [upd_same, upd_same]
        · rw [upd_ne hb, upd_ne hb]
          by_cases hb2 : b = a
          · subst hb2
            rw [del_same, na]
          · rw [del_ne hb2, upd_ne hb2, upd_ne hb, upd_ne hb2]
      rw [eH]
      have x2 : ∀ b o, H1 b = some o → upd H1 dx (.xd [(f, v)]) b = some o := fun b o q => by
        rw [upd_ne (ne_of_none q nd1)]
        exact q
      refine g (.ref (He.ga G.K c)) (some dx) _ ⟨rfl, ?_⟩ (x1.trans (LamX.ExtN.of x2)) (t1.ext x2)
      rw [e.fl]
      exact ⟨dx, [v], rfl, by rw [upd_same]; rfl, rfl, .cons (rd.stb (ExN.stb (LamX.ExtN.of x2))) .nil⟩
end
end En
/-! En30: the program's own names, at all levels. -/
namespace En
open PySem L2 PyProof.Rows
abbrev Prim := Call → List D → (Rv → Prop) → XP → Prop
def primOf (l : List (Str × Prim)) (C : Call) : Call := fun f ds Q E => match l.lookup f with
  | some P => P C ds Q E
  | none => False
def PMono (P : Prim) : Prop := ∀ C, MonoC C → ∀ ds Q Q' E E', (∀ r, Q r → Q' r) → (∀ c ds, E c ds → E' c ds) → P C ds Q E → P C ds Q' E'
theorem primOf_mono {l : List (Str × Prim)} (h : ∀ e ∈ l, PMono e.2) (C : Call) (hC : MonoC C) : MonoC (primOf l C) := by
  intro f ds Q Q' E E' hq he z
  unfold primOf at z ⊢
  cases e : l.lookup f with
  | none => rw [e] at z; exact z
  | some P =>
    rw [e] at z
    have hm : (f, P) ∈ l := by
      clear z hq he
      induction l with
      | nil => cases e
      | cons x xs ih =>
        rw [List.lookup_cons] at e
        split at e
        · rename_i hb
          cases e
          have : f = x.1 := by simpa using hb
          rw [this]
          exact List.mem_cons_self
        · exact List.mem_cons_of_mem _ (ih (fun e he => h e (List.mem_cons_of_mem _ he)) e)
    exact h _ hm C hC ds Q Q' E E' hq he z
/-- a name that stands for another -/
def pTo (f : Str) : Prim := fun C ds Q E => C f ds Q E
/-- .. of one object of the class -/
def pOb (c f : Str) : Prim := fun C ds Q E => ∃ fs, ds = [.obj c fs] ∧ C f ds Q E
/-- .. from which nothing is raised -/
def pPr (c f : Str) : Prim := fun C ds Q _ => ∃ fs, ds = [.obj c fs] ∧ C f ds Q E0
/-- what a slot holds -/
def pSl (c : Str) (i : Nat) : Prim := fun _ ds Q _ => ∃ fs x, ds = [.obj c fs] ∧ fs[i]? = some x ∧ Q (.v x)
def pIn (B : Lib) (c : Str) (n : Nat) (b : Sms) : Prim := fun C ds Q E => initW B C c n b ds Q E
def pBp : Prim := fun _ ds Q _ => bpW ds Q
/-- .. of two objects of the class -/
def pEq (c f : Str) : Prim := fun C ds Q E => ∃ fs fs', ds = [.obj c fs, .obj c fs'] ∧ C f ds Q E
theorem pEq_mono (c f : Str) : PMono (pEq c f) := fun C hC ds Q Q' E E' hq he ⟨fs, fs', e, z⟩ => ⟨fs, fs', e, hC _ _ _ _ _ _ hq he z⟩
/-- nothing but the level -/
def pOk : Prim := fun _ _ Q _ => Q (.v .non)
theorem pOk_mono : PMono pOk := fun C hC ds Q Q' E E' hq he z => hq _ z
/-- an own error with one value -/
def pErr : Prim := fun _ ds Q _ => ds.length = 1 ∧ Q (.v .non)
theorem pErr_mono : PMono pErr := fun C hC ds Q Q' E E' hq he ⟨h, z⟩ => ⟨h, hq _ z⟩
theorem pTo_mono (f : Str) : PMono (pTo f) := fun C hC ds Q Q' E E' hq he z => hC _ _ _ _ _ _ hq he z
theorem pOb_mono (c f : Str) : PMono (pOb c f) := fun C hC ds Q Q' E E' hq he ⟨fs, e, z⟩ => ⟨fs, e, hC _ _ _ _ _ _ hq he z⟩
theorem pPr_mono (c f : Str) : PMono (pPr c f) := fun C hC ds Q Q' E E' hq he ⟨fs, e, z⟩ => ⟨fs, e, hC _ _ _ _ _ _ hq (fun _ _ z => z) z⟩
theorem pSl_mono (c : Str) (i : Nat) : PMono (pSl c i) := fun C hC ds Q Q' E E' hq he ⟨fs, x, e, h, z⟩ => ⟨fs, x, e, h, hq _ z⟩
theorem pIn_mono {B : Lib} (hB : B.Mono) (c : Str) (n : Nat) (b : Sms) : PMono (pIn B c n b) := fun C hC ds Q Q' E E' hq he ⟨h1, h2, z⟩ =>
  ⟨h1, h2, fun x => by
    refine exSs_mono hB hC b _ _ _ _ _ ?_ he (z x)
    exact ⟨fun r ⟨a, b, c, d, q⟩ => ⟨a, b, c, d, hq _ q⟩, fun _ _ z => z, fun _ z => z, fun _ z => z⟩⟩
theorem pBp_mono : PMono pBp := fun C hC ds Q Q' E E' hq he ⟨ls, e, h1, h2, z⟩ => by
  refine ⟨ls, e, h1, h2, ?_⟩
  split at z
  · exact hq _ z
  · exact hq _ z
/-- the class's own rows: its slots by their order, its properties -/
def prmP (B : Lib) (nI : Nat) (bI : Sms) : List (Str × Prim) :=
  [("Program", pTo "Program.__init__"), ("Program.__init__", pIn B "Program" nI bI),
   ("own_branches", pSl "Program" 0), ("own_names", pSl "Program" 1), ("own_sayings", pSl "Program" 2),
   ("names", pPr "Program" "Program.names"), ("sayings", pPr "Program" "Program.sayings"), ("branches", pPr "Program" "Program.branches"), ("places", pPr "Program" "Program.places"), ("text", pPr "Program" "Program.text"),
   ("__len__", pOb "Program" "Program.__len__"), ("__repr__", pOb "Program" "Program.__repr__"), ("__str__", pTo "__str1__"), ("__str1__", pOb "Program" "Program.__str__"),
   ("__bool__", pTo "__bool1__"), ("__bool1__", pTo "__bool2__"), ("__bool2__", pOb "Program" "Program.__len__"), ("branch_parts", pBp), ("__eq__", pEq "Program" "Program.__eq__"), ("!lv", pTo "!lv1"), ("!lv1", pOk)]
theorem prmP_mono {B : Lib} (hB : B.Mono) (nI : Nat) (bI : Sms) : ∀ e ∈ prmP B nI bI, PMono e.2 := by
  intro e he
  simp only [prmP, List.mem_cons, List.not_mem_nil, or_false] at he
  rcases he with rfl | rfl | rfl | rfl | rfl | rfl | rfl | rfl | rfl | rfl | rfl | rfl | rfl | rfl | rfl | rfl | rfl | rfl | rfl | rfl | rfl
  all_goals first
    | exact pOk_mono
    | exact pTo_mono _
    | exact pOb_mono _ _
    | exact pPr_mono _ _
    | exact pSl_mono _ _
    | exact pIn_mono hB _ _ _
    | exact pBp_mono
    | exact pEq_mono _ _
def progSl : List Str := ["own_branches", "own_names", "own_sayings"]
def progPr : List Str := ["names", "sayings", "branches", "places", "text"]
/-- the program in a text -/
structure Pm (p : Pg) (G : Cfg) (sub : Sub) (g : Gi) (fs : List (Str × Fn)) (l : List (Str × Prim)) (es : List Fe) (fd : Fe → FuncData) : Prop where
  fl : p.fl = false
  ct : Ct p G sub g
  lq : p.lq = false
  ans : g.ans = []
  err : ∀ c ∈ g.err, ∃ f, ECls p G c f ∧ fs.lookup c = none ∧ l.lookup c = some pErr
  ok : ∀ e ∈ es, FeOk G g e (fd e)
  bd : ∀ e ∈ es, Binds G.K (fd e) e.ps []
  fs : ∀ e ∈ es, fs.lookup e.nm = some e.fn
  lm : ∀ e ∈ l, PMono e.2
  slots : SlotsOf G "Program" progSl
  /-- global defs -/
  fn : ∀ f ∈ g.fns, f = "Program" ∨ f = "branch_parts" ∨ ∃ e ∈ es, e.nm = f ∧ p.mg f = some (.ref (e.d.ad G.K))
section
variable {p : Pg} {G : Cfg} {sub : Sub} {g : Gi} {fs : List (Str × Fn)} {l : List (Str × Prim)} {es : List Fe} {fd : Fe → FuncData}
/-- the meaning of calls, by levels -/
abbrev CW (G : Cfg) (fs : List (Str × Fn)) (l : List (Str × Prim)) (k : Nat) : Call := callW G.B fs (primOf l) k
theorem Pm.hB (m : Pm p G sub g fs l es fd) : G.B.Mono := by rw [m.ct.hL]; exact libW_mono sub
theorem Pm.hC (m : Pm p G sub g fs l es fd) (k : Nat) : MonoC (CW G fs l k) := callW_mono m.hB (fun C hC => primOf_mono m.lm C hC) k
/-- a prim, one level down -/
theorem cw_prim {f : Str} {P : Prim} (hf : fs.lookup f = none) (hl : l.lookup f = some P) {k : Nat} {ds : List D} {Q : Rv → Prop} {E : XP} (z : CW G fs l k f ds Q E) : ∃ j, k = j + 1 ∧ P (CW G fs l j) ds Q E := by
  obtain ⟨j, e, z⟩ := callW_prim (G := G) hf z
  refine ⟨j, e, ?_⟩
  unfold primOf at z
  rw [hl] at z
  exact z
theorem cw_prim' {f : Str} {P : Prim} (hf : fs.lookup f = none) (hl : l.lookup f = some P ∨ l.lookup f = none) {k : Nat} {ds : List D} {Q : Rv → Prop} {E : XP} (z : CW G fs l k f ds Q E) : ∃ j, k = j + 1 ∧ P (CW G fs l j) ds Q E := by
  rcases hl with hl | hl
  · exact cw_prim hf hl z
  · obtain ⟨j, e, z⟩ := callW_prim (G := G) hf z
    unfold primOf at z
    rw [hl] at z
    exact z.elim
theorem cw_none {f : Str} (hf : fs.lookup f = none) (hl : l.lookup f = none) {k : Nat} {ds : List D} {Q : Rv → Prop} {E : XP} (z : CW G fs l k f ds Q E) : False := by
  obtain ⟨j, e, z⟩ := callW_prim (G := G) hf z
  unfold primOf at z
  rw [hl] at z
  exact z
theorem cw_prim_mk {f : Str} {P : Prim} (hf : fs.lookup f = none) (hl : l.lookup f = some P) {k : Nat} {ds : List D} {Q : Rv → Prop} {E : XP} (z : P (CW G fs l k) ds Q E) : CW G fs l (k + 1) f ds Q E := by
  show callW G.B fs (primOf l) (k + 1) f ds Q E
  unfold callW
  rw [hf]
  show primOf l _ f ds Q E
  unfold primOf
  rw [hl]
  exact z
theorem cw_fn_mk {f : Str} {F : Fn} (hf : fs.lookup f = some F) {k : Nat} {ds : List D} {Q : Rv → Prop} {E : XP} (hl : ds.length = F.ps) (z : exSs G.B (CW G fs l k) F.body { nx := fun _ => Q (.v .non), rt := fun x _ => Q x } (startD F.n ds) E) : CW G fs l (k + 1) f ds Q E := by
  show callW G.B fs (primOf l) (k + 1) f ds Q E
  unfold callW
  rw [hf]
  exact ⟨hl, z⟩
/-! ### all levels -/
/-- __init__ at level k -/
def InK (p : Pg) (G : Cfg) (fs : List (Str × Fn)) (l : List (Str × Prim)) (f : Addr) (fdI : FuncData) (psI : List Str) (nI : Nat) (bI : Sms) : Nat → Prop
  | 0 => True
  | j + 1 => FnOk p.P p.w G.K p.mg p.base (L2.CX p.P p.w) (j + 1) f fdI psI (spI G (CW G fs l j) "Program" nI bI)
/-- what is known at a level -/
structure Ak (p : Pg) (G : Cfg) (fs : List (Str × Fn)) (l : List (Str × Prim)) (es : List Fe) (fd : Fe → FuncData) (adB : Addr) (fdB : FuncData) (fI : Addr) (fdI : FuncData) (psI : List Str) (nI : Nat) (bI : Sms) (k : Nat) : Prop where
  defs : ∀ e ∈ es, FnG p G (CW G fs l k) k (e.d.ad G.K) (fd e) e.ps e.nm
  bp : FnG p G (CW G fs l k) k adB fdB ["lines"] "branch_parts"
  ini : InK p G fs l fI fdI psI nI bI k
def pnames : List Str := [Str.ofString "Program", Str.ofString "Program.__init__", Str.ofString "own_branches", Str.ofString "own_names", Str.ofString "own_sayings", Str.ofString "names", Str.ofString "sayings", Str.ofString "branches", Str.ofString "places", Str.ofString "text", Str.ofString "__len__", Str.ofString "__repr__", Str.ofString "__str__", Str.ofString "__str1__", Str.ofString "__bool__", Str.ofString "__bool1__", Str.ofString "__bool2__", Str.ofString "branch_parts", Str.ofString "__eq__", Str.ofString "!lv", Str.ofString "!lv1"]
def msn : List Str := [Str.ofString "__len__", Str.ofString "__repr__", Str.ofString "__str__"]
/-- the rest of the program: __init__, branch_parts, the tables of names -/
structure Pr (p : Pg) (G : Cfg) (sub : Sub) (g : Gi) (fs : List (Str × Fn)) (l : List (Str × Prim)) (es : List Fe) (fd : Fe → FuncData) (adB : Addr) (fdB : FuncData) (fdI : FuncData) (sf x0 x1 x2 : Str) (nI : List Str) (bI : Sms) : Prop where
  pm : Pm p G sub g fs l es fd
  mgP : p.mg "Program" = some (.ref (He.ga G.K "Program"))
  mkC : Mk G.K (He.ga G.K "Program") (He.ma G.K (He.ga G.K "Program") "__init__")
  mgB : p.mg "branch_parts" = some (.ref adB)
  kpB : PySem.W.keepIn G.K (.ref adB) = true
  bdB : Binds G.K fdB ["lines"] []
  bp : ∀ (C' : Call) (k : Nat), (∀ ds Q E, C' "branch_parts" ds Q E → bpW ds Q) → FnG p G C' (k + 1) adB fdB ["lines"] "branch_parts"
  /-- __init__ of what is known a level below -/
  ini : ∀ k, Kn g G (CW G fs l k) (OkX p G k) → ErrOk p G g (CW G fs l k) k → FnOk p.P p.w G.K p.mg p.base (L2.CX p.P p.w) (k + 1) (He.ma G.K (He.ga G.K "Program") "__init__") fdI [sf, x0, x1, x2] (spI G (CW G fs l k) "Program" nI.length bI)
  kwI : ∀ e ∈ g.kws, (e.1 = "Program" ∧ ∃ ks, e.2.1 = ks.map some ∧ KBs G.K fdI [sf, x0, x1, x2] 1 ks e.2.2.1 e.2.2.2) ∨ ∃ e' ∈ es, e'.nm = e.1 ∧ p.mg e.1 = some (.ref (e'.d.ad G.K)) ∧ ∃ ks, e.2.1 = ks.map some ∧ KBs G.K (fd e') e'.ps 0 ks e.2.2.1 e.2.2.2
  kwP : KBs G.K fdI [sf, x0, x1, x2] 1 [] 3 [0, 1, 2]
  /-- what the prims' names stand for -/
  no : ∀ f ∈ pnames, fs.lookup f = none
  lp : ∀ e ∈ prmP G.B nI.length bI, l.lookup e.1 = some e.2 ∨ l.lookup e.1 = none
  mcl : ∀ m key, g.mcl.lookup m = some key → ∃ e ∈ es, e.nm = key ∧ ∀ d, G.B.mok key d = true → MthOk G m (e.d.ad G.K) d
  mkw : ∀ e' ∈ g.mkw, ∀ key, g.mcl.lookup e'.1 = some key → ∃ e ∈ es, e.nm = key ∧ (∀ d, G.B.mok key d = true → MthOk G e'.1 (e.d.ad G.K) d) ∧ ∃ ks, e'.2.1 = ks.map some ∧ KBs G.K (fd e) e.ps 1 ks e'.2.2.1 e'.2.2.2
  att : ∀ f key, g.att.lookup f = some key → key = f ∧ ((∃ i : Nat, progSl[i]? = some f) ∨ (f ∈ progPr ∧ ∃ e ∈ es, e.nm = ("Program." : Str) ++ f ∧ e.ps.length = 1 ∧ PropF G "Program" f (He.ma G.K (He.ga G.K "Program") f) (e.d.ad G.K)))
  ms : ∀ m ∈ msn, fs.lookup (("Program." : Str) ++ m) = none ∧ l.lookup (("Program." : Str) ++ m) = none ∨ ∃ e ∈ es, e.nm = ("Program." : Str) ++ m ∧ e.ps.length = 1 ∧ PySem.W.findIn G.K (.ref (He.ga G.K "Program")) m = some (some (.ref (e.d.ad G.K))) ∧ PySem.W.isFn G.K (.ref (e.d.ad G.K)) = true
  nb : PySem.W.findIn G.K (.ref (He.ga G.K "Program")) "__bool__" = some none
  eqs : fs.lookup ("Program.__eq__" : Str) = none ∧ l.lookup ("Program.__eq__" : Str) = none ∨ ∃ e ∈ es, e.nm = "Program.__eq__" ∧ e.ps.length = 2 ∧ PySem.W.findIn G.K (.ref (He.ga G.K "Program")) "__eq__" = some (some (.ref (e.d.ad G.K))) ∧ PySem.W.isFn G.K (.ref (e.d.ad G.K)) = true ∧
    PySem.W.findIn G.K (.ref (He.ga G.K "Program")) "__ne__" = some (some (.builtin "object.__ne__")) ∧ PySem.W.mroIn G.K (He.ga G.K "Program") (.type "object") = some true
section
variable {adB : Addr} {fdB fdI : FuncData} {sf x0 x1 x2 : Str} {nI : List Str} {bI : Sms}
abbrev Pr.A (_ : Pr p G sub g fs l es fd adB fdB fdI sf x0 x1 x2 nI bI) (k : Nat) : Prop := Ak p G fs l es fd adB fdB (He.ma G.K (He.ga G.K "Program") "__init__") fdI [sf, x0, x1, x2] nI.length bI k
theorem Pr.pr (m : Pr p G sub g fs l es fd adB fdB fdI sf x0 x1 x2 nI bI) {f : Str} {P : Prim} (h1 : f ∈ pnames) (h2 : (f, P) ∈ prmP G.B nI.length bI) {k : Nat} {ds : List D} {Q : Rv → Prop} {E : XP}
    (z : CW G fs l k f ds Q E) : ∃ j, k = j + 1 ∧ P (CW G fs l j) ds Q E := cw_prim' (m.no f h1) (m.lp _ h2) z
/-- a special name of the class, told of a def -/
theorem Pr.spc (m : Pr p G sub g fs l es fd adB fdB fdI sf x0 x1 x2 nI bI) {k : Nat} (a : m.A k) {s : Str} (hs : s ∈ msn) {fs' : List D} {Q : Rv → Prop} {E : XP} (z : CW G fs l k (("Program." : Str) ++ s) [.obj "Program" fs'] Q E) : Spc p G (CW G fs l k) k "Program" s (("Program." : Str) ++ s) := by
  rcases m.ms s hs with ⟨h1, h2⟩ | ⟨e, he, e1, e2, e3, e4⟩
  · exact (cw_none h1 h2 z).elim
  · refine ⟨⟨e.d.ad G.K, fd e, e.ps, ?_, m.pm.bd e he, e2, e3, e4⟩⟩
    rw [← e1]
    exact a.defs e he
theorem Pr.obx (m : Pr p G sub g fs l es fd adB fdB fdI sf x0 x1 x2 nI bI) {n : Nat} (a : ∀ k, k ≤ n → m.A k) : ObX p G (CW G fs l) n where
  len := fun c fs' Q E z => by
    obtain ⟨k, e, f2, e2, z⟩ := m.pr (by simp [pnames]) (P := pOb "Program" "Program.__len__") (by simp [prmP]) z
    cases e2
    exact ⟨k, _, e, m.spc (a k (by omega)) (s := "__len__") (by simp [msn]) z, z⟩
  repr := fun c fs' Q E z => by
    obtain ⟨k, e, f2, e2, z⟩ := m.pr (by simp [pnames]) (P := pOb "Program" "Program.__repr__") (by simp [prmP]) z
    cases e2
    exact ⟨k, _, e, m.spc (a k (by omega)) (s := "__repr__") (by simp [msn]) z, z⟩
  str := fun c fs' Q E z => by
    obtain ⟨k, e, z⟩ := m.pr (by simp [pnames]) (P := pTo "__str1__") (by simp [prmP]) z
    obtain ⟨k2, e', f2, e2, z⟩ := m.pr (by simp [pnames]) (P := pOb "Program" "Program.__str__") (by simp [prmP]) z
    cases e2
    exact ⟨k2, _, by omega, m.spc (a k2 (by omega)) (s := "__str__") (by simp [msn]) z, z⟩
  bool := fun c fs' Q E z => by
    obtain ⟨k, e, z⟩ := m.pr (by simp [pnames]) (P := pTo "__bool1__") (by simp [prmP]) z
    obtain ⟨k2, e', z⟩ := m.pr (by simp [pnames]) (P := pTo "__bool2__") (by simp [prmP]) z
    obtain ⟨k3, e'', f2, e2, z⟩ := m.pr (by simp [pnames]) (P := pOb "Program" "Program.__len__") (by simp [prmP]) z
    cases e2
    exact ⟨k3, _, by omega, m.nb, m.spc (a k3 (by omega)) (s := "__len__") (by simp [msn]) z, z⟩
theorem Pr.obe (m : Pr p G sub g fs l es fd adB fdB fdI sf x0 x1 x2 nI bI) {n : Nat} (a : ∀ k, k ≤ n → m.A k) : ObE p G (CW G fs l) n where
  eq := fun dx dy Q E z => by
    obtain ⟨k, e, f1, f2, e2, z⟩ := m.pr (by simp [pnames]) (P := pEq "Program" "Program.__eq__") (by simp [prmP]) z
    cases e2
    rcases m.eqs with ⟨h1, h2⟩ | ⟨e', he, e1, e2, e3, e4, e5, e6⟩
    · exact (cw_none h1 h2 z).elim
    · refine ⟨k, _, _, _, _, e, rfl, rfl, ⟨⟨e'.d.ad G.K, fd e', e'.ps, ?_, m.pm.bd e' he, e2, e3, e4⟩, e5, e6⟩, z⟩
      rw [← e1]
      exact (a k (by omega)).defs e' he
end
end
end En
/-! En31: the program's names at each level, by induction. -/
namespace En
open PySem L2 PyProof.Rows
section
variable {p : Pg} {G : Cfg} {sub : Sub} {g : Gi} {fs : List (Str × Fn)} {l : List (Str × Prim)} {es : List Fe} {fd : Fe → FuncData} {adB : Addr} {fdB fdI : FuncData} {sf x0 x1 x2 : Str} {nI : List Str} {bI : Sms}
theorem Pr.len3 (m : Pr p G sub g fs l es fd adB fdB fdI sf x0 x1 x2 nI bI) {k : Nat} {ds : List D} {Q : Rv → Prop} {E : XP} (z : CW G fs l k "Program" ds Q E) : ds.length = 3 := by
  obtain ⟨j, e, z⟩ := m.pr (by simp [pnames]) (P := pTo "Program.__init__") (by simp [prmP]) z
  obtain ⟨j2, e2, z⟩ := m.pr (by simp [pnames]) (P := pIn G.B "Program" nI.length bI) (by simp [prmP]) z
  exact z.1
theorem Pr.clsK (m : Pr p G sub g fs l es fd adB fdB fdI sf x0 x1 x2 nI bI) {k : Nat} (a : ∀ j, j ≤ k → m.A j) {ks : List Str} {n : Nat} {pm : List Nat} (hb : KBs G.K fdI [sf, x0, x1, x2] 1 ks n pm) : CalK p G (CW G fs l k) k (.ref (He.ga G.K "Program")) "Program" ks n pm := by
  have two : ∀ {ds : List D} {Q : Rv → Prop} {E : XP}, CW G fs l k "Program" ds Q E → ∃ j, k = j + 2 ∧ initW G.B (CW G fs l j) "Program" nI.length bI ds Q E := fun {ds Q E} z => by
    obtain ⟨j, e, z⟩ := m.pr (by simp [pnames]) (P := pTo "Program.__init__") (by simp [prmP]) z
    obtain ⟨j2, e2, z⟩ := m.pr (by simp [pnames]) (P := pIn G.B "Program" nI.length bI) (by simp [prmP]) z
    exact ⟨j2, by omega, z⟩
  match k with
  | 0 =>
    intro X W pins σ H s Q us ws vs zs ds es' ok I r rz l1 l2 rd re tb h
    obtain ⟨j, e, _⟩ := two h
    omega
  | 1 =>
    intro X W pins σ H s Q us ws vs zs ds es' ok I r rz l1 l2 rd re tb h
    obtain ⟨j, e, _⟩ := two h
    omega
  | k + 2 =>
    have F : InK p G fs l (He.ma G.K (He.ga G.K "Program") "__init__") fdI [sf, x0, x1, x2] nI.length bI (k + 1) := (a (k + 1) (by omega)).ini
    exact cal_clsK m.mkC F rfl (fun ds Q E z => by
      obtain ⟨j, e, z2⟩ := two z
      have e : j = k := by omega
      subst e
      exact z2) hb
theorem fs_len {k : Nat} {f : Str} {F : Fn} (hf : fs.lookup f = some F) : ∀ (ds : List D) (Q : Rv → Prop) (E : XP), CW G fs l k f ds Q E → ds.length = F.ps := fun ds Q E z => callW_len (G := G) hf z
/-- the names at level k -/
theorem Pr.lv (m : Pr p G sub g fs l es fd adB fdB fdI sf x0 x1 x2 nI bI) {k : Nat} (a : ∀ j, j ≤ k → m.A j) : Lv p G sub g (CW G fs l k) k where
  fn := fun f hf => by
    rcases m.pm.fn f hf with e | e | ⟨e, he, e1, e2⟩
    · subst e
      exact ⟨_, m.mgP, m.mkC.kp, (m.clsK a m.kwP).pos fun ds Q E z => m.len3 z⟩
    · subst e
      refine ⟨_, m.mgB, m.kpB, cal_def (a k (Nat.le_refl _)).bp (fun ds Q E z => ?_) m.bdB⟩
      obtain ⟨j, e, z⟩ := m.pr (by simp [pnames]) (P := pBp) (by simp [prmP]) z
      obtain ⟨ls, e, _⟩ := z
      rw [e]
      rfl
    · refine ⟨_, e2, (m.pm.ok e he).F.kp, ?_⟩
      rw [← e1]
      exact cal_def ((a k (Nat.le_refl _)).defs e he) (fun ds Q E z => fs_len (m.pm.fs e he) ds Q E z) (m.pm.bd e he)
  kw := fun e he => by
    rcases m.kwI e he with ⟨e1, ks, e2, hb⟩ | ⟨e', he', e1, e2, ks, e3, hb⟩
    · exact ⟨_, ks, e2, by rw [e1]; exact m.mgP, m.mkC.kp, by rw [e1]; exact m.clsK a hb⟩
    · refine ⟨_, ks, e3, e2, (m.pm.ok e' he').F.kp, ?_⟩
      rw [← e1]
      exact cal_defK ((a k (Nat.le_refl _)).defs e' he') (fun ds Q E z => fs_len (m.pm.fs e' he') ds Q E z) hb
  mcl := fun mm key h => by
    obtain ⟨e, he, e1, h1⟩ := m.mcl mm key h
    refine ⟨e.d.ad G.K, h1, ?_⟩
    rw [← e1]
    exact cal_defc ((a k (Nat.le_refl _)).defs e he) (fun ds Q E z => fs_len (m.pm.fs e he) ds Q E z) (m.pm.bd e he)
  mck := fun e' he' key h => by
    obtain ⟨e, he, e1, h1, ks, e2, h3⟩ := m.mkw e' he' key h
    refine ⟨e.d.ad G.K, ks, e2, h1, ?_⟩
    rw [← e1]
    exact cal_defKc ((a k (Nat.le_refl _)).defs e he) (fun ds Q E z => fs_len (m.pm.fs e he) ds Q E z) h3
  att := fun f key h X W o io pos ok ho hs => by
    obtain ⟨e, h⟩ := m.att f key h
    subst e
    rcases h with ⟨i, hi⟩ | ⟨hp, e, he, e1, e2, e3⟩
    · refine att_slot m.pm.hB (m.pm.hC k) ok m.pm.slots (fun d Q E z => ?_) ho hs
      have hc : key = "own_branches" ∧ i = 0 ∨ key = "own_names" ∧ i = 1 ∨ key = "own_sayings" ∧ i = 2 := by
        match i, hi with
        | 0, hi => exact .inl ⟨(Option.some.inj hi).symm, rfl⟩
        | 1, hi => exact .inr (.inl ⟨(Option.some.inj hi).symm, rfl⟩)
        | 2, hi => exact .inr (.inr ⟨(Option.some.inj hi).symm, rfl⟩)
        | i + 3, hi => simp [progSl] at hi
      rcases hc with ⟨rfl, rfl⟩ | ⟨rfl, rfl⟩ | ⟨rfl, rfl⟩
      · obtain ⟨j, _, fs', x, e, hx, q⟩ := m.pr (by simp [pnames]) (P := pSl "Program" 0) (by simp [prmP]) z
        exact ⟨fs', 0, x, List.head_eq_of_cons_eq e, rfl, hx, q⟩
      · obtain ⟨j, _, fs', x, e, hx, q⟩ := m.pr (by simp [pnames]) (P := pSl "Program" 1) (by simp [prmP]) z
        exact ⟨fs', 1, x, List.head_eq_of_cons_eq e, rfl, hx, q⟩
      · obtain ⟨j, _, fs', x, e, hx, q⟩ := m.pr (by simp [pnames]) (P := pSl "Program" 2) (by simp [prmP]) z
        exact ⟨fs', 2, x, List.head_eq_of_cons_eq e, rfl, hx, q⟩
    · have key' : ∀ (d : D) (Q : Rv → Prop) (E : XP), CW G fs l k key [d] Q E → ∃ j fs', k = j + 1 ∧ d = .obj "Program" fs' ∧ CW G fs l j (("Program." : Str) ++ key) [d] Q E0 := fun d Q E z => by
        simp only [progPr, List.mem_cons, List.not_mem_nil, or_false] at hp
        rcases hp with rfl | rfl | rfl | rfl | rfl
        · obtain ⟨j, ej, fs', e, q⟩ := m.pr (by simp [pnames]) (P := pPr "Program" "Program.names") (by simp [prmP]) z
          exact ⟨j, fs', ej, List.head_eq_of_cons_eq e, q⟩
        · obtain ⟨j, ej, fs', e, q⟩ := m.pr (by simp [pnames]) (P := pPr "Program" "Program.sayings") (by simp [prmP]) z
          exact ⟨j, fs', ej, List.head_eq_of_cons_eq e, q⟩
        · obtain ⟨j, ej, fs', e, q⟩ := m.pr (by simp [pnames]) (P := pPr "Program" "Program.branches") (by simp [prmP]) z
          exact ⟨j, fs', ej, List.head_eq_of_cons_eq e, q⟩
        · obtain ⟨j, ej, fs', e, q⟩ := m.pr (by simp [pnames]) (P := pPr "Program" "Program.places") (by simp [prmP]) z
          exact ⟨j, fs', ej, List.head_eq_of_cons_eq e, q⟩
        · obtain ⟨j, ej, fs', e, q⟩ := m.pr (by simp [pnames]) (P := pPr "Program" "Program.text") (by simp [prmP]) z
          exact ⟨j, fs', ej, List.head_eq_of_cons_eq e, q⟩
      match k, a, ok, ho, key' with
      | 0, a, ok, ho, key' =>
        refine ⟨fun pins s σ H Q I ⟨r, re, tb, z⟩ => ?_⟩
        have hf : rdV G (CW G fs l 0) W io σ H fun _ _ => False := v_bind m.pm.hB (m.pm.hC 0) re tb (LamX.ExtN.refl H) z fun d v H1 rd x1 t1 z1 => by
          obtain ⟨j, _, e, _⟩ := key' _ _ _ z1
          omega
        refine attr_of (attrBase_ok hs) (thn (ho.run pins s σ H _ I hf) fun u s1 ⟨_, _, _, _, z⟩ => z.elim)
      | j + 1, a, ok, ho, key' =>
        have F := (a j (Nat.le_succ j)).defs e he
        rw [e1] at F
        exact att_prop m.pm.hB (m.pm.hC (j + 1)) ok m.pm.slots.cls e3 m.pm.fl e2 F (m.pm.bd e he) (fun d Q E z => by
          obtain ⟨j', fs', ej, e, q⟩ := key' d Q E z
          have ej : j' = j := by omega
          subst ej
          exact ⟨fs', e, q⟩) (m.pm.hC j) ho hs
  lam := LamOk.nil m.pm.ans
  eqo := fun X W ok => ob_eqo m.pm.fl (fun k => m.pm.hC k) (m.obe a) ok
  ob := fun X W ok b f hf => ob_all m.pm.fl (fun k => m.pm.hC k) (m.obx a) ok hf
theorem Pr.err (m : Pr p G sub g fs l es fd adB fdB fdI sf x0 x1 x2 nI bI) (k : Nat) : ErrOk p G g (CW G fs l k) k := fun X E ok c hc hg ho args is q pos ha hst hnil => by
  obtain ⟨f, ec, h1, h2⟩ := m.pm.err c hc
  refine err_mk m.pm.fl ec (fun ds Q E z => ?_) (fun Q z => ?_) m.pm.hB (m.pm.hC k) ok hg ho ha hst hnil
  · obtain ⟨j, _, z⟩ := cw_prim h1 h2 z
    exact z
  · obtain ⟨j, e1, z⟩ := m.pr (f := "!lv") (by simp [pnames]) (P := pTo "!lv1") (by simp [prmP]) z
    have z : CW G fs l j "!lv1" [] Q E0 := z
    obtain ⟨j', e2, z⟩ := m.pr (f := "!lv1") (by simp [pnames]) (P := pOk) (by simp [prmP]) z
    exact ⟨j', by omega⟩
theorem Pr.kn (m : Pr p G sub g fs l es fd adB fdB fdI sf x0 x1 x2 nI bI) {k : Nat} (a : ∀ j, j ≤ k → m.A j) : Kn g G (CW G fs l k) (OkX p G k) := kn_of (m.pm.hC k) m.pm.ct (m.lv a)
theorem Pr.step (m : Pr p G sub g fs l es fd adB fdB fdI sf x0 x1 x2 nI bI) {k : Nat} (a : ∀ j, j ≤ k → m.A j) : m.A (k + 1) where
  defs := fun e he => by
    have o := m.pm.ok e he
    refine fn_comp (m.kn a) (m.err k) o.F o.S o.c (LmV.nil m.pm.lq) fun ds Q E z => ?_
    have z : callW G.B fs (primOf l) (k + 1) e.nm ds Q E := z
    unfold callW at z
    rw [m.pm.fs e he] at z
    exact z.2
  bp := m.bp _ k fun ds Q E z => by
    obtain ⟨j, _, z⟩ := m.pr (by simp [pnames]) (P := pBp) (by simp [prmP]) z
    exact z
  ini := m.ini k (m.kn a) (m.err k)
theorem Pr.all (m : Pr p G sub g fs l es fd adB fdB fdI sf x0 x1 x2 nI bI) (k : Nat) : ∀ j, j ≤ k → m.A j := by
  induction k with
  | zero =>
    intro j hj
    have : j = 0 := by omega
    subst this
    exact ⟨fun e _ A outer s H args us vs ds Q E _ _ _ _ _ _ _ _ z => z.elim, fun A outer s H args us vs ds Q E _ _ _ _ _ _ _ _ z => z.elim, trivial⟩
  | succ k ih =>
    intro j hj
    rcases Nat.lt_or_ge j (k + 1) with h | h
    · exact ih j (by omega)
    · have : j = k + 1 := by omega
      subst this
      exact m.step ih
end
end En
/-! En32: the law's end; the law's own defs. -/
namespace En
open PySem L2 PyProof.Rows
theorem intsRD {K : PySem.W.Frag} {H : Hp} : ∀ ns : List Int, RDs K H (ns.map D.int) (ns.map V.int)
  | [] => .nil
  | n :: ns => .cons (.int n) (intsRD ns)
/-- the law called with the script; its promise told of data; cs: code objects and their tables -/
theorem law_G {P : Program} {w : World} {mg mb : Str → Option Value} {k : Nat} {fa a : Addr} {fd : FuncData} {x nm : Str} {G : Cfg} {C : Call} {s1 : Shared} {vs : List Value} {ns : List Int} {lq : Bool} {cs : List (Addr × Addr)} (hT : ∀ q ∈ G.T, ∃ t ∈ cs, q.1 = t.2)
    (kx : G.K.In s1.heap) (gn : s1.heap.Ns mainGlobals mg) (bn : s1.heap.Ns builtinsNs mb) (bb : ∀ x : Str, x ≠ "__name__" → mb x = bootBuiltins x) (lim : s1.heap.NoLimit) (g0 : s1.gens = #[])
    (tE : ∀ t ∈ cs, s1.heap.get? t.2 = some { cls := .none, data := .fields #[] }) (tK : ∀ t ∈ cs, G.K.lookup t.2 = none) (tC : ∀ t ∈ cs, PySem.W.CodeHd s1.heap t.1 t.2)
    (tB : cs ≠ [] → ∃ (bm : Addr) (ob : Obj), mg "__builtins__" = some (.ref bm) ∧ bm ≠ builtinsNs ∧ s1.heap.get? bm = some ob ∧ ob.cls = .type "module" ∧ ob.dict = some builtinsNs ∧ ob.data = .plain)
    (ha : s1.heap.get? a = some { cls := .type "list", data := .seq vs.toArray }) (hi : IntsAre vs ns) (hl : ns.length ≤ sizeLine) (room : Room k callerA)
    (F : ∀ base : Heap, G.K.In base → base.Ns mainGlobals mg → (∀ t ∈ cs, LamX.TabB base mg t.1 t.2) → FnG ⟨P, w, mg, base, true, lq⟩ G C k fa fd [x] nm) (bd : ∀ (s : Shared) (u : Value), BindsTo s fd ⟨[u], []⟩ [(x, u)])
    (hC : ∀ Q : Rv → Prop, Q (.v (.bl true)) → C nm [.lst (ns.map D.int)] Q E0) (mC : MonoC C) :
    codeAny (model P w) callerA (.call (.ref fa) ⟨[.ref a], []⟩) (fun r s' => r = .ok (.ret (.bool true)) ∧ OldK s1.heap s'.heap ∧ s'.os = s1.os ∧ AllBare s'.gens) s1 := by
  have rv := vals_ints hi
  have tabOf : ∀ {b : Addr}, b ∈ cs.map (·.2) → s1.heap.get? b = some { cls := .none, data := .fields #[] } := by
    intro b hb
    obtain ⟨t, ht, e⟩ := List.mem_map.mp hb
    rw [← e]
    exact tE t ht
  have anT : a ∉ cs.map (·.2) := by
    intro z
    have q := tabOf z
    rw [ha] at q
    injection q with q
    injection q with _ _ q
    cases q
  -- H: what is tracked at the call, the script and the tables at most
  have main : ∀ H : Hp, (∀ b, H b ≠ none → (b = a ∧ ∃ o xs, H b = some (.frz o (.lst xs))) ∨ b ∈ cs.map (·.2)) → (∀ b ∈ cs.map (·.2), H b = some (.tbl #[])) → FzL G.K H a (ns.map V.int) → HOk P w H s1.heap → (H a ≠ none → G.K.lookup a = none) →
      codeAny (model P w) callerA (.call (.ref fa) ⟨[.ref a], []⟩) (fun r s' => r = .ok (.ret (.bool true)) ∧ OldK s1.heap s'.heap ∧ s'.os = s1.os ∧ AllBare s'.gens) s1 := by
    intro H only tabs hS hok out
    have free : ∀ {b : Addr} {o : Obj}, s1.heap.get? b = some o → (∀ vs n, o.data ≠ .seq vs n) → o.data ≠ .fields #[] → H b = none := by
      intro b o hb h1 h2
      by_cases hn : H b = none
      · exact hn
      · rcases only b hn with ⟨e, _⟩ | e
        · rw [e, ha] at hb
          cases hb
          exact absurd rfl (h1 _ _)
        · rw [tabOf e] at hb
          cases hb
          exact absurd rfl h2
    have dictFree : ∀ {b : Addr} {o : Obj} {es : Array DictEntry} {ep : Nat}, s1.heap.get? b = some o → o.data = .dict es ep → H b = none := by
      intro b o es ep hb hd
      refine free hb (fun vs n z => ?_) fun z => ?_ <;> · rw [hd] at z; cases z
    have nsOf : ∀ {b : Addr} {m : Str → Option Value}, s1.heap.Ns b m → (hidT s1.heap H).Ns b m := by
      rintro b m ⟨o, es, ep, hb, hd, rest⟩
      exact ⟨o, es, ep, hidT_get hb (dictFree hb hd), hd, rest⟩
    have kb : G.K.In (hidT s1.heap H) := by
      intro b o hb
      refine hidT_get (kx b o hb) ?_
      by_cases hn : H b = none
      · exact hn
      · rcases only b hn with ⟨e, _⟩ | e
        · subst e
          rw [out hn] at hb
          cases hb
        · obtain ⟨t, ht, e⟩ := List.mem_map.mp e
          rw [← e, tK t ht] at hb
          cases hb
    have TB : ∀ t ∈ cs, LamX.TabB (hidT s1.heap H) mg t.1 t.2 := by
      intro t ht
      have hTp := tE t ht
      refine ⟨?_, ?_, fun z => ?_⟩
      · obtain ⟨o, us, file, tf, flags, tg, inF, text, tt, e1, r1, r2, r3, r4, r5, r6, r7, r8, hne⟩ := tC t ht
        refine ⟨o, us, file, tf, flags, tg, inF, text, tt, hidT_get e1 (free e1 (fun vs n z => ?_) fun z => ?_), r1, r2, r3, r4, r5, r6, r7, r8, hne⟩
        · rw [r2] at z
          cases z
        · rw [r2] at z
          injection z with z
          rw [z] at r3
          simp at r3
      · obtain ⟨bm, ob, b1, b2, b3, b4, b5, b6⟩ := tB fun z => by rw [z] at ht; cases ht
        have nG : bm ≠ mainGlobals := fun q => by
          obtain ⟨o, es, ep, e, hd, _⟩ := gn
          rw [q, e] at b3
          cases b3
          rw [hd] at b6
          cases b6
        have nP : bm ≠ t.2 := fun q => by
          rw [q, hTp] at b3
          cases b3
          cases b6
        refine ⟨bm, ob, b1, b2, nG, nP, hidT_get b3 (free b3 (fun vs n z => ?_) fun z => ?_), b4, b5, b6⟩ <;> · rw [b6] at z; cases z
      · obtain ⟨o, es, ep, e, hd, _⟩ := gn
        rw [z, hTp] at e
        cases e
        cases hd
    obtain ⟨mc, lim1, lim2⟩ := lim
    have env : Env0 P w G.K mg (hidT s1.heap H) callerA [] s1 H :=
      ⟨rfl, ⟨kb, nsOf gn, ⟨mb, nsOf bn, bb⟩, ⟨mc, nsOf lim1, lim2⟩⟩, fun b o hb => of_hidT hb, Nat.le_of_eq (hidT_size _ _), trivial, (fun b hb => by cases hb), hok, AllBare.of_eq g0⟩
    have tb : Tb G H := by
      intro q hq
      obtain ⟨t, ht, e⟩ := hT q hq
      refine LamX.TabS.nil ?_
      rw [e]
      exact tabs _ (List.mem_map.mpr ⟨t, ht, rfl⟩)
    have run := F _ kb (nsOf gn) TB callerA [] s1 H ⟨[.ref a], []⟩ [.ref a] [.ref a] [.lst (ns.map D.int)] (fun v _ => v = .bl true) (fun _ _ _ => False) room (fun _ => rfl) env (bd s1 (.ref a)) (.cons rfl .nil) (.cons (.lst hS (intsRD ns)) .nil) tb rfl
      (mC _ _ _ _ _ _ (fun _ z => z) (fun _ _ z => z.elim) (hC (qS G (fun v _ => v = .bl true) H) fun v H' rr _ _ => by cases (show RD G.K H' (.bl true) v from rr); rfl))
    refine codeAny_mono run ?_
    intro res s' h
    rcases res with e | fl
    · obtain ⟨_, _, _, _, _, _, _, _, _, _, _, _, z⟩ := h
      exact z.elim
    · cases fl with
      | ret u =>
        obtain ⟨v, H', hos, bare, un, hok', ru, ev⟩ := h
        cases (show v = .bl true from ev)
        cases (show u = Value.bool true from ru)
        have kept : ∀ b o, b ∉ cs.map (·.2) → s1.heap.get? b = some o → s'.heap.get? b = some o := by
          intro b o nb hb
          by_cases hn : H b = none
          · exact un.keep b o hb hn (by intro z; cases z) (by simp)
          · rcases only b hn with ⟨_, ob, xs, hz⟩ | e
            · obtain ⟨before, _⟩ := hok b _ hz
              obtain ⟨after, _⟩ := hok' b _ (un.frzs b ob _ hz)
              rw [before] at hb
              cases hb
              exact after
            · exact absurd e nb
        have grown : ∀ t ∈ cs, ∃ more : Array Value, s'.heap.get? t.2 = some { cls := .none, data := .fields more } := by
          intro t ht
          obtain ⟨more, z⟩ := un.tbls t.2 #[] (tabs _ (List.mem_map.mpr ⟨t, ht, rfl⟩))
          exact ⟨_, hok' t.2 _ z⟩
        refine ⟨rfl, ⟨fun b o e => ?_, fun b o e => ?_⟩, hos, bare⟩
        · by_cases hb : b ∈ cs.map (·.2)
          · obtain ⟨t, ht, et⟩ := List.mem_map.mp hb
            obtain ⟨more, hm⟩ := grown t ht
            rw [← et] at e ⊢
            rw [tE t ht] at e
            cases e
            exact .inr (.inl ⟨((tC t ht).tab (tE t ht)).isCodeTable, rfl, #[], more, rfl, by rw [Array.empty_append]; exact hm⟩)
          · exact .inl (kept b o hb e)
        · by_cases hb : b ∈ cs.map (·.2)
          · obtain ⟨t, ht, et⟩ := List.mem_map.mp hb
            obtain ⟨more, hm⟩ := grown t ht
            rw [← et]
            exact ⟨_, hm⟩
          · exact ⟨o, kept b o hb e⟩
      | _ => exact False.elim h
  by_cases hk : ∃ o, G.K.lookup a = some o
  · obtain ⟨o, hk⟩ := hk
    have e := kx a o hk
    rw [ha] at e
    cases e
    refine main (fun b => if b ∈ cs.map (·.2) then some (.tbl #[]) else none) (fun b z => ?_) (fun b hb => if_pos hb) (.inr ⟨vs, _, hk, by rw [hi.length]; exact hl, rv⟩) (fun b u z => ?_) fun z => absurd (if_neg anT) z
    · by_cases hb : b ∈ cs.map (·.2)
      · exact .inr hb
      · exact absurd (if_neg hb) z
    · by_cases hb : b ∈ cs.map (·.2)
      · have z := (if_pos hb).symm.trans z
        cases z
        exact tabOf hb
      · have z := (if_neg hb).symm.trans z
        cases z
  · have hk : G.K.lookup a = none := by
      cases e : G.K.lookup a with
      | none => rfl
      | some o => exact absurd ⟨o, e⟩ hk
    refine main (upd (fun b => if b ∈ cs.map (·.2) then some (.tbl #[]) else none) a (.frz { cls := .type "list", data := .seq vs.toArray } (.lst (ns.map V.int)))) (fun b z => ?_) (fun b hb => ?_) (.inl ⟨_, upd_same⟩) (fun b u z => ?_) fun _ => hk
    · by_cases e : b = a
      · subst e
        exact .inl ⟨rfl, _, _, upd_same⟩
      · rw [upd_ne e] at z
        by_cases hb : b ∈ cs.map (·.2)
        · exact .inr hb
        · exact absurd (if_neg hb) z
    · rw [upd_ne (fun z => anT (by rw [← z]; exact hb))]
      exact if_pos hb
    · by_cases e : b = a
      · subst e
        rw [upd_same] at z
        cases z
        exact ⟨ha, by rw [List.length_map]; exact hl, vs, _, rv, ha⟩
      · rw [upd_ne e] at z
        by_cases hb : b ∈ cs.map (·.2)
        · have z := (if_pos hb).symm.trans z
          cases z
          exact tabOf hb
        · have z := (if_neg hb).symm.trans z
          cases z
end En
/-! En33: the law's own defs at all levels. -/
namespace En
open PySem L2 PyProof.Rows
/-- the pail of a turn is made -/
def begW (ds : List D) (Q : Rv → Prop) : Prop := ∃ (ns : List Int) (t : Int), ds = [.lst (ns.map D.int), .int t] ∧ 0 ≤ t ∧ t < 64 ∧ ns.length ≤ 63 ∧ (∀ n ∈ ns, Builtin.Int.intBits n ≤ 1048576) ∧ Q (.v .pail)
/-- a draw -/
def castW (ds : List D) (Q : Rv → Prop) : Prop := ∃ n : Int, ds = [.pail, .int n] ∧ 0 < n ∧ n < 1073741824 ∧ ∀ i : Int, 0 ≤ i → i < n → Q (.v (.int i))
def pBeg : Prim := fun _ ds Q _ => begW ds Q
def pCst : Prim := fun _ ds Q _ => castW ds Q
theorem pBeg_mono : PMono pBeg := fun C hC ds Q Q' E E' hq he ⟨ns, t, e, h1, h2, h3, h4, z⟩ => ⟨ns, t, e, h1, h2, h3, h4, hq _ z⟩
theorem pCst_mono : PMono pCst := fun C hC ds Q Q' E E' hq he ⟨n, e, h1, h2, z⟩ => ⟨n, e, h1, h2, fun i a b => hq _ (z i a b)⟩
/-- what the body of the first must do -/
def BegOk (B : Lib) (n : Nat) (b : Sms) : Prop := ∀ (C : Call) ds Q E, MonoC C → begW ds Q → exSs B C b { nx := fun _ => False, rt := fun x _ => ∃ i j k : Int, x = .fr [.int i, .int j, .int k] ∧ 0 ≤ i ∧ 0 ≤ j ∧ j < 2147483648 ∧ Q (.v .pail) } (startD n ds) E
def CstOk (B : Lib) (n : Nat) (b : Sms) : Prop := ∀ (C : Call) (m : Int) (Q : Rv → Prop), MonoC C → 0 < m → m < 1073741824 → (∀ i : Int, 0 ≤ i → i < m → Q (.v (.int i))) → ∀ (a : Addr) (i j l : Int), 0 ≤ i → 0 ≤ j → j < 2147483648 →
  exSs B C b { nx := fun _ => False, rt := fun x r => ∃ i j l m : Int, x = .v (.int m) ∧ r[0]? = some (some (.own [.int i, .int j, .int l] (some a))) ∧ 0 ≤ i ∧ 0 ≤ j ∧ j < 2147483648 ∧ Q (.v (.int m)) } (startP a i j l m n) E0
/-- the same without lambdas -/
def Pg.noL (p : Pg) : Pg := { p with lq := false }
structure Lw (p : Pg) (G : Cfg) (sub : Sub) (g g' : Gi) (fs : List (Str × Fn)) (l : List (Str × Prim)) (esL : List Fe) (fdL : Fe → FuncData) (eB eC : Fe) (fdBg fdCs : FuncData) (p0 p1 : Str) : Prop where
  ct : Ct p G sub g'
  err : g'.err = []
  lmd : ∀ e ∈ esL, (FeOk G g' e (fdL e) ∧ LmV p G (e.d.qual ++ ".<locals>.") (fdL e).code) ∨ FeOk G g'.noA e (fdL e)
  lam : ∀ k, (∀ j, k = j + 2 → Kn g'.noA G (CW G fs l j) (OkX p.noL G j)) → LamOk p G g' (CW G fs l k) k
  bd : ∀ e ∈ esL, Binds G.K (fdL e) e.ps []
  fl : ∀ e ∈ esL, fs.lookup e.nm = some e.fn
  okB : FeOk G g'.noA eB fdBg
  bdB : Binds G.K fdBg eB.ps []
  psB : eB.ps.length = 2
  nmB : eB.nm = "_law_begun"
  noB : fs.lookup ("_law_begun" : Str) = none
  lB : l.lookup ("_law_begun" : Str) = some pBeg
  beg : BegOk G.B eB.N.length eB.b
  okC : FeOk G g'.noA eC fdCs
  bdC : Binds G.K fdCs eC.ps []
  psC : eC.ps = [p0, p1]
  nmC : eC.nm = "_law_cast"
  noC : fs.lookup ("_law_cast" : Str) = none
  lC : l.lookup ("_law_cast" : Str) = some pCst
  cst : CstOk G.B eC.N.length eC.b
  fn : ∀ f ∈ g'.fns, f ∈ g.fns ∨ ∃ e ∈ eB :: eC :: esL, e.nm = f ∧ p.mg f = some (.ref (e.d.ad G.K))
  kw : ∀ e ∈ g'.kws, e ∈ g.kws
  mcl : g'.mcl = g.mcl
  mkw : g'.mkw = g.mkw
  att : g'.att = g.att
structure Al (p : Pg) (G : Cfg) (fs : List (Str × Fn)) (l : List (Str × Prim)) (esL : List Fe) (fdL : Fe → FuncData) (eB eC : Fe) (fdBg fdCs : FuncData) (k : Nat) : Prop where
  defs : ∀ e ∈ esL, FnG p G (CW G fs l k) k (e.d.ad G.K) (fdL e) e.ps e.nm
  beg : FnG p G (CW G fs l k) k (eB.d.ad G.K) fdBg eB.ps eB.nm
  cst : FnG p G (CW G fs l k) k (eC.d.ad G.K) fdCs eC.ps eC.nm
section
variable {p : Pg} {G : Cfg} {sub : Sub} {g g' : Gi} {fs : List (Str × Fn)} {l : List (Str × Prim)} {esL : List Fe} {fdL : Fe → FuncData} {eB eC : Fe} {fdBg fdCs : FuncData} {p0 p1 : Str}
variable {es : List Fe} {fd : Fe → FuncData} {adB : Addr} {fdB fdI : FuncData} {sf x0 x1 x2 : Str} {nI : List Str} {bI : Sms}
theorem Lw.lenB (w : Lw p G sub g g' fs l esL fdL eB eC fdBg fdCs p0 p1) {k : Nat} {ds : List D} {Q : Rv → Prop} {E : XP} (z : CW G fs l k eB.nm ds Q E) : begW ds Q := by
  rw [w.nmB] at z
  obtain ⟨j, _, z⟩ := cw_prim w.noB w.lB z
  exact z
theorem Lw.lenC (w : Lw p G sub g g' fs l esL fdL eB eC fdBg fdCs p0 p1) {k : Nat} {ds : List D} {Q : Rv → Prop} {E : XP} (z : CW G fs l k eC.nm ds Q E) : castW ds Q := by
  rw [w.nmC] at z
  obtain ⟨j, _, z⟩ := cw_prim w.noC w.lC z
  exact z
theorem Lw.kp (w : Lw p G sub g g' fs l esL fdL eB eC fdBg fdCs p0 p1) {e : Fe} (he : e ∈ esL) : PySem.W.keepIn G.K (.ref (e.d.ad G.K)) = true := by
  rcases w.lmd e he with ⟨o, _⟩ | o
  · exact o.F.kp
  · exact o.F.kp
theorem Lw.fnc (w : Lw p G sub g g' fs l esL fdL eB eC fdBg fdCs p0 p1) {k : Nat} (a : Al p G fs l esL fdL eB eC fdBg fdCs k) : ∀ f ∈ g'.fns, f ∈ g.fns ∨ ∃ u, p.mg f = some u ∧ PySem.W.keepIn G.K u = true ∧ CalP p G (CW G fs l k) k u f := fun f hf => by
  rcases w.fn f hf with z | ⟨e, he, e1, e2⟩
  · exact .inl z
  · refine .inr ⟨_, e2, ?_⟩
    rcases List.mem_cons.mp he with rfl | he
    · refine ⟨w.okB.F.kp, ?_⟩
      rw [← e1]
      refine cal_def a.beg (fun ds Q E z => ?_) w.bdB
      obtain ⟨ns, t, e, _⟩ := w.lenB z
      rw [e, w.psB]
      rfl
    · rcases List.mem_cons.mp he with rfl | he
      · refine ⟨w.okC.F.kp, ?_⟩
        rw [← e1]
        refine cal_def a.cst (fun ds Q E z => ?_) w.bdC
        obtain ⟨n, e, _⟩ := w.lenC z
        rw [e, w.psC]
        rfl
      · refine ⟨w.kp he, ?_⟩
        rw [← e1]
        exact cal_def (a.defs e he) (fun ds Q E z => fs_len (w.fl e he) ds Q E z) (w.bd e he)
theorem Ct.noL {p : Pg} {G : Cfg} {sub : Sub} {g : Gi} (c : Ct p G sub g) : Ct p.noL G sub g.noA := ⟨c.hL, c.own, c.con, c.its, c.blt, c.rep, c.mth⟩
theorem Lw.kn0 (w : Lw p G sub g g' fs l esL fdL eB eC fdBg fdCs p0 p1) (m : Pr p.no G sub g fs l es fd adB fdB fdI sf x0 x1 x2 nI bI) {k : Nat} (a : Al p G fs l esL fdL eB eC fdBg fdCs k) : Kn g'.noA G (CW G fs l k) (OkX p.noL G k) := by
  have a' : Al p.noL G fs l esL fdL eB eC fdBg fdCs k := ⟨a.defs, a.beg, a.cst⟩
  refine kn_of (m.pm.hC k) w.ct.noL (Lv.law (p := p.noL) (m.lv (m.all k)) w.mcl w.mkw w.att (LamOk.nil rfl) (fun f hf => ?_) fun e he => .inl (w.kw e he))
  rcases w.fn f hf with z | ⟨e, he, e1, e2⟩
  · exact .inl z
  · refine .inr ⟨_, e2, ?_⟩
    rcases List.mem_cons.mp he with rfl | he
    · refine ⟨w.okB.F.kp, ?_⟩
      rw [← e1]
      refine cal_def a'.beg (fun ds Q E z => ?_) w.bdB
      obtain ⟨ns, t, e, _⟩ := w.lenB z
      rw [e, w.psB]
      rfl
    · rcases List.mem_cons.mp he with rfl | he
      · refine ⟨w.okC.F.kp, ?_⟩
        rw [← e1]
        refine cal_def a'.cst (fun ds Q E z => ?_) w.bdC
        obtain ⟨n, e, _⟩ := w.lenC z
        rw [e, w.psC]
        rfl
      · refine ⟨w.kp he, ?_⟩
        rw [← e1]
        exact cal_def (a'.defs e he) (fun ds Q E z => fs_len (w.fl e he) ds Q E z) (w.bd e he)
theorem Lw.kn (w : Lw p G sub g g' fs l esL fdL eB eC fdBg fdCs p0 p1) (m : Pr p.no G sub g fs l es fd adB fdB fdI sf x0 x1 x2 nI bI) {k : Nat} (a : ∀ j, j ≤ k → Al p G fs l esL fdL eB eC fdBg fdCs j) : Kn g' G (CW G fs l k) (OkX p G k) :=
  kn_of (m.pm.hC k) w.ct ((m.lv (m.all k)).law w.mcl w.mkw w.att (w.lam k fun j e => w.kn0 m (a j (by omega))) (w.fnc (a k (Nat.le_refl _))) fun e he => .inl (w.kw e he))
theorem Lw.step (w : Lw p G sub g g' fs l esL fdL eB eC fdBg fdCs p0 p1) (m : Pr p.no G sub g fs l es fd adB fdB fdI sf x0 x1 x2 nI bI) : ∀ k, ∀ j, j ≤ k → Al p G fs l esL fdL eB eC fdBg fdCs j
  | 0 => fun j hj => by
    have e : j = 0 := by omega
    subst e
    exact ⟨fun e _ A outer s H args us vs ds Q E _ _ _ _ _ _ _ _ z => z.elim, fun A outer s H args us vs ds Q E _ _ _ _ _ _ _ _ z => z.elim, fun A outer s H args us vs ds Q E _ _ _ _ _ _ _ _ z => z.elim⟩
  | k + 1 => fun j hj => by
    have prev := Lw.step w m k
    by_cases hjk : j ≤ k
    · exact prev j hjk
    have e : j = k + 1 := by omega
    subst e
    have kn := w.kn m prev
    have er : ErrOk p G g' (CW G fs l k) k := fun X E ok c hc => by
      rw [w.err] at hc
      cases hc
    have kn0 := w.kn0 m (prev k (Nat.le_refl _))
    have er0 : ErrOk p.noL G g'.noA (CW G fs l k) k := fun X E ok c hc => by
      have hc : c ∈ g'.err := hc
      rw [w.err] at hc
      cases hc
    refine ⟨fun e he => ?_, ?_, ?_⟩
    · rcases w.lmd e he with ⟨o, lm⟩ | o
      · refine fn_comp kn er o.F o.S o.c lm fun ds Q E z => ?_
        have z : callW G.B fs (primOf l) (k + 1) e.nm ds Q E := z
        unfold callW at z
        rw [w.fl e he] at z
        exact z.2
      · have fg : FnG p.noL G (CW G fs l (k + 1)) (k + 1) (e.d.ad G.K) (fdL e) e.ps e.nm := fn_comp kn0 er0 o.F o.S o.c (LmV.nil rfl) fun ds Q E z => by
          have z : callW G.B fs (primOf l) (k + 1) e.nm ds Q E := z
          unfold callW at z
          rw [w.fl e he] at z
          exact z.2
        exact fg
    · have fg : FnG p.noL G (CW G fs l (k + 1)) (k + 1) (eB.d.ad G.K) fdBg eB.ps eB.nm := fn_begun kn0 er0 w.okB.F w.okB.S w.okB.c (LmV.nil rfl) fun ds Q E z => w.beg _ _ _ _ (m.pm.hC k) (w.lenB z)
      exact fg
    · have S := w.okC.S
      have hps := w.psC
      rw [hps] at S
      rw [hps]
      have fg : FnG p.noL G (CW G fs l (k + 1)) (k + 1) (eC.d.ad G.K) fdCs [p0, p1] eC.nm := by
        refine fn_cast kn0 er0 w.okC.F S w.okC.c (LmV.nil rfl) fun ds Q E z => ?_
        obtain ⟨n, e, h1, h2, hq⟩ := w.lenC z
        exact ⟨n, e, fun a i j l h3 h4 h5 => w.cst _ n Q (m.pm.hC k) h1 h2 hq a i j l h3 h4 h5⟩
      exact fg
theorem Lw.all (w : Lw p G sub g g' fs l esL fdL eB eC fdBg fdCs p0 p1) (m : Pr p.no G sub g fs l es fd adB fdB fdI sf x0 x1 x2 nI bI) (k : Nat) : Al p G fs l esL fdL eB eC fdBg fdCs k := w.step m k k (Nat.le_refl k)
end
end En
namespace En
open PySem L2 PyProof.Rows TL
/-! En34: tables looked up; the head's facts. -/
theorem lookup_mem {α : Type} {f : Str} {x : α} : ∀ {l : List (Str × α)}, l.lookup f = some x → (f, x) ∈ l
  | [], h => by cases h
  | (g, y) :: l, h => by
    rw [List.lookup_cons] at h
    split at h
    · rename_i hb
      cases h
      have : f = g := by simpa using hb
      rw [this]
      exact List.mem_cons_self
    · exact List.mem_cons_of_mem _ (lookup_mem h)
theorem lookup_nodup {α : Type} : ∀ {l : List (Str × α)}, (l.map (·.1)).Nodup → ∀ e ∈ l, l.lookup e.1 = some e.2
  | [], _, e, h => by cases h
  | (g, y) :: l, hn, e, h => by
    have hn := List.nodup_cons.mp hn
    rw [List.lookup_cons]
    rcases List.mem_cons.mp h with z | z
    · subst z
      simp
    · have hne : e.1 ≠ g := fun q => hn.1 (by rw [← q]; exact List.mem_map.mpr ⟨e, z, rfl⟩)
      have : (e.1 == g) = false := by rw [beq_eq_false_iff_ne]; exact hne
      rw [this]
      exact lookup_nodup hn.2 e z
theorem lookup_fe {es : List Fe} (h : (es.map (·.nm)).Nodup) : ∀ e ∈ es, (es.map fun e => (e.nm, e.fn)).lookup e.nm = some e.fn := fun e he =>
  lookup_nodup (l := es.map fun e => (e.nm, e.fn)) (by rw [List.map_map]; exact h) (e.nm, e.fn) (List.mem_map.mpr ⟨e, he, rfl⟩)
theorem pick_fd {fn : List Df} {K : PySem.W.Frag} (h : ∀ d ∈ fn, ∃ fd, d.FunD K fd) {d0 : Df} (h0 : d0 ∈ fn) : ∃ fd : Df → FuncData, ∀ d ∈ fn, d.FunD K (fd d) := by
  classical
  obtain ⟨fd0, _⟩ := h d0 h0
  refine ⟨fun d => if hd : d ∈ fn then Classical.choose (h d hd) else fd0, fun d hd => ?_⟩
  show d.FunD K (if hd : d ∈ fn then Classical.choose (h d hd) else fd0)
  rw [dif_pos hd]
  exact Classical.choose_spec (h d hd)
/-- a def compiled: its scope, its small form -/
structure FeC (g : Gi) (e : Fe) : Prop where
  S : FnScope e.N e.ps e.d.scope
  c : compSs g e.N e.mu 60 e.d.scope e.d.body = some e.b
  pl : plainPs e.ps e.d.params = true
  nd : e.ps.Nodup
theorem FeC.ok {G : Cfg} {g : Gi} {e : Fe} {fd : FuncData} (c : FeC g e) (F : e.d.FunD G.K fd) : FeOk G g e fd := ⟨F, c.S, c.c⟩
theorem FeC.bd {K : PySem.W.Frag} {g : Gi} {e : Fe} {fd : FuncData} (c : FeC g e) (F : e.d.FunD K fd) : Binds K fd e.ps [] := Df.binds F c.pl c.nd
/-- what is asked of a program's class alone -/
def isP : D → Bool
  | .cls c => c == ("Program" : Str)
  | _ => false
/-- what isinstance of a program tells -/
def okP (c : Str) (u : D) : Option Bool := if c = ("Program" : Str) then (match u with
  | .cls c' => if c' = ("Program" : Str) then some true else none
  | .ty _ => some false
  | _ => none) else none
def isPo : D → Bool
  | .obj c _ => c == ("Program" : Str)
  | _ => false
/-- methods of programs -/
def ptM : List Str := [Str.ofString "Program.all_tests", Str.ofString "Program.changed"]
def subP : Sub := ⟨okP, [Str.ofString "Program"], fun m d => if m = ("Program.read" : Str) then isP d else decide (m ∈ ptM) && isPo d⟩
theorem subP_mok {d : D} (h : (libW subP).mok "Program.read" d = true) : d = .cls "Program" := by
  have h : (if ("Program.read" : Str) = ("Program.read" : Str) then isP d else decide (("Program.read" : Str) ∈ ptM) && isPo d) = true := h
  rw [if_pos rfl] at h
  cases d with
  | cls c =>
    have : c = "Program" := by simpa [isP] using h
    rw [this]
  | _ => cases h
theorem subP_read : (libW subP).mok "Program.read" (.cls "Program") = true := by
  show (if ("Program.read" : Str) = ("Program.read" : Str) then (("Program" : Str) == ("Program" : Str)) else decide (("Program.read" : Str) ∈ ptM) && isPo (.cls "Program")) = true
  rw [if_pos rfl]
  simp
/-- the names of the errors' values -/
def errFl (c : Str) : List Str := if c ∈ [Str.ofString "InvalidNames", Str.ofString "InvalidSayings", Str.ofString "InvalidBranches", Str.ofString "InvalidForms", Str.ofString "InvalidRanks", Str.ofString "InvalidWalk", Str.ofString "InvalidChanges", Str.ofString "InvalidWishes", Str.ofString "InUse", Str.ofString "Stuck", Str.ofString "Broken"] then ["index"] else if c = "NothingToUndo" then [] else ["given"]
def cfgT (T : List (Addr × Str)) (K : PySem.W.Frag) : Cfg := ⟨K, libW subP, T, errFl⟩
def tns : List Tn := [.int, .bool, .str, .tuple, .list, .dict, .none]
theorem tns_all (n : Tn) : n ∈ tns := by cases n <;> simp [tns]
open He in
def chkIsi (K : PySem.W.Frag) (C : Addr) : Bool := eqO (PySem.W.findIn K (.ref C) "__class__") (some (some (.builtin "object.__class__"))) && (eqO (PySem.W.specialIn K (.builtin "object.__class__") "__get__") (some (some (.builtin "getset_descriptor.__get__"))) &&
  (decide (PySem.W.takesIn K (.builtin "object.__class__") = some true) && decide (PySem.W.mroIn K C (.type "object") = some true)))
theorem chkIsi_ok {K : PySem.W.Frag} {C : Addr} (h : chkIsi K C = true) : SlX.SIsi K C := by
  obtain ⟨h1, h⟩ := He.ba h
  obtain ⟨h2, h⟩ := He.ba h
  obtain ⟨h3, h4⟩ := He.ba h
  exact ⟨He.eqO_ok h1, He.eqO_ok h2, of_decide_eq_true h3, of_decide_eq_true h4⟩
open He in
/-- isinstance and != of the class -/
def chkP (K : PySem.W.Frag) : Bool := chkIsi K (ga K "Program") && ((tns.all fun n => decide (PySem.W.kitOne K (.type n.nm) (.ref (ga K "Program")) = some false)) && ((tns.all fun n => decide (PySem.W.kitOne K (.ref (ga K "Program")) (.type n.nm) = some false)) &&
  eqO (PySem.W.findIn K (.ref (ga K "Program")) "__ne__") (some (some (.builtin "object.__ne__")))))
theorem ownP {T : List (Addr × Str)} {K : PySem.W.Frag} (hS : chkS K (He.ga K "Program") = true) (h : chkP K = true) : Own (cfgT T K) subP := by
  obtain ⟨h1, h⟩ := He.ba h
  obtain ⟨h2, h⟩ := He.ba h
  obtain ⟨h3, h4⟩ := He.ba h
  refine ⟨fun c hc a => ?_, fun c u b hb0 => ?_⟩
  · have : c = Str.ofString "Program" := by simpa [subP] using hc
    subst this
    exact of_decide_eq_true (List.all_eq_true.mp h2 a (tns_all a))
  · have hb : okP c u = some b := hb0
    clear hb0
    unfold okP at hb
    split at hb
    · rename_i hc
      subst hc
      refine ⟨chkS_ok hS, chkIsi_ok h1, ?_⟩
      split at hb
      · rename_i c'
        split at hb
        · rename_i hc'
          subst hc'
          cases hb
          refine .inr ⟨_, rfl, ?_⟩
          show PySem.W.kitOne K _ _ = _
          unfold PySem.W.kitOne
          simp
        · cases hb
      · rename_i n
        cases hb
        exact .inl ⟨n, rfl, of_decide_eq_true (List.all_eq_true.mp h3 n (tns_all n))⟩
      · cases hb
    · cases hb
theorem chkP_ne {K : PySem.W.Frag} (h : chkP K = true) : PySem.W.findIn K (.ref (He.ga K "Program")) "__ne__" = some (some (.builtin "object.__ne__")) ∧ PySem.W.mroIn K (He.ga K "Program") (.type "object") = some true := by
  obtain ⟨h1, h⟩ := He.ba h
  obtain ⟨h2, h⟩ := He.ba h
  obtain ⟨h3, h4⟩ := He.ba h
  exact ⟨He.eqO_ok h4, (chkIsi_ok h1).cm⟩
/-- a built-in name -/
def bltOk (p : Pg) (f : Str) (b : Bf) : Prop := (∃ bv, bfV b = some bv ∧ bootBuiltins f = some bv ∧ p.mg f = none) ∧ (b = .repr → p.fl = true)
theorem ct_of {T : List (Addr × Str)} {p : Pg} {K : PySem.W.Frag} {g : Gi} (ho : Own (cfgT T K) subP) (h1 : ∀ e ∈ g.con, conOk p (cfgT T K) e.1 e.2) (h2 : ∀ x ∈ g.its, p.mg x = none) (h3 : ∀ e ∈ g.blt, bltOk p e.1 e.2) (h4 : ∀ e ∈ g.mth, e.1 = mfS e.2 ∧ mfS e.2 ≠ "") : Ct p (cfgT T K) subP g where
  hL := rfl
  own := ho
  con := fun x d h => h1 _ (lookup_mem h)
  its := h2
  blt := fun f b h => (h3 _ (lookup_mem h)).1
  rep := fun f h => (h3 _ (lookup_mem h)).2 rfl
  mth := fun m b h => h4 _ (lookup_mem h)
end En
open PySem L2 PyProof.Rows
/-! the small form of the program's defs, printed by a program of this repo; each law checks it against the text. -/
namespace En
def ir_is_integer : Sms := (.cons (.ret (.and (.blt .isi (.cons (.var 0) (.cons (.glo (.ty .int)) .nil))) (.not (.blt .isi (.cons (.var 0) (.cons (.glo (.ty .bool)) .nil)))))) .nil)
def ir_is_name : Sms := (.cons (.iff (.or (.not (.blt .isi (.cons (.var 0) (.cons (.glo (.ty .str)) .nil)))) (.or (.not (.chn .LtE .LtE (.con (.int 1)) (.blt .len (.cons (.var 0) .nil)) (.con (.int 8)))) (.cmp .NotIn (.idx (.var 0) (.con (.int 0))) (.glo (.str "abcdefghijklmnopqrstuvwxyz"))))) (.cons (.ret (.con (.bl false))) .nil) .nil) (.cons (.ret (.blt .all (.cons (.lc (.or (.cmp .In (.var 1) (.glo (.str "abcdefghijklmnopqrstuvwxyz"))) (.cmp .In (.var 1) (.glo (.str "0123456789")))) (.nm 1) (.seq (.var 0)) .no [1]) .nil))) .nil))
def ir_are_integers : Sms := (.cons (.ret (.and (.blt .isi (.cons (.var 0) (.cons (.glo (.ty .tuple)) .nil))) (.and (.cmp .Eq (.blt .len (.cons (.var 0) .nil)) (.var 1)) (.blt .all (.cons (.lc (.fn "is_integer" (.cons (.var 2) .nil)) (.nm 2) (.seq (.var 0)) .no [2]) .nil))))) .nil)
def ir_written_integer : Sms := (.cons (.set 1 (.ite (.cmp .Eq (.slc (.var 0) .no (.so (.con (.int 1)))) (.con (.str "-"))) (.slc (.var 0) (.so (.con (.int 1))) .no) (.var 0))) (.cons (.iff (.or (.cmp .Eq (.var 1) (.con (.str ""))) (.or (.cmp .Gt (.blt .len (.cons (.var 1) .nil)) (.con (.int 4000))) (.not (.blt .all (.cons (.lc (.cmp .In (.var 2) (.glo (.str "0123456789"))) (.nm 2) (.seq (.var 1)) .no [2]) .nil))))) (.cons (.ret (.con .non)) .nil) .nil) (.cons (.ret (.ite (.cmp .Eq (.blt .str (.cons (.blt .int (.cons (.var 0) .nil)) .nil)) (.var 0)) (.blt .int (.cons (.var 0) .nil)) (.con .non))) .nil)))
def ir_is_form : Sms := (.cons (.ret (.and (.fn "are_integers" (.cons (.var 0) (.cons (.bin .Add (.var 1) (.con (.int 1))) .nil))) (.blt .all (.cons (.lc (.cmp .LtE (.blt .abs (.cons (.var 2) .nil)) (.glo (.int 1000000))) (.nm 2) (.seq (.var 0)) .no [2]) .nil)))) .nil)
def ir_is_saying : Sms := (.cons (.iff (.or (.not (.blt .isi (.cons (.var 0) (.cons (.glo (.ty .tuple)) .nil)))) (.cmp .NotEq (.blt .len (.cons (.var 0) .nil)) (.con (.int 2)))) (.cons (.ret (.con (.bl false))) .nil) .nil) (.cons (.ret (.and (.fn "is_name" (.cons (.idx (.var 0) (.con (.int 0))) .nil)) (.fn "is_form" (.cons (.idx (.var 0) (.con (.int 1))) (.cons (.var 1) .nil))))) .nil))
def ir_is_branch : Sms := (.cons (.iff (.or (.not (.blt .isi (.cons (.var 0) (.cons (.glo (.ty .tuple)) .nil)))) (.or (.cmp .NotEq (.blt .len (.cons (.var 0) .nil)) (.con (.int 4))) (.or (.not (.fn "is_name" (.cons (.idx (.var 0) (.con (.int 0))) .nil))) (.not (.fn "is_name" (.cons (.idx (.var 0) (.con (.int 1))) .nil)))))) (.cons (.ret (.con (.bl false))) .nil) .nil) (.cons (.iff (.or (.not (.blt .isi (.cons (.idx (.var 0) (.con (.int 2))) (.cons (.glo (.ty .tuple)) .nil)))) (.not (.blt .isi (.cons (.idx (.var 0) (.con (.int 3))) (.cons (.glo (.ty .tuple)) .nil))))) (.cons (.ret (.con (.bl false))) .nil) .nil) (.cons (.iff (.or (.cmp .Gt (.blt .len (.cons (.idx (.var 0) (.con (.int 2))) .nil)) (.glo (.int 3))) (.cmp .NotEq (.blt .len (.cons (.idx (.var 0) (.con (.int 3))) .nil)) (.var 1))) (.cons (.ret (.con (.bl false))) .nil) .nil) (.cons (.ret (.blt .all (.cons (.lc (.fn "is_form" (.cons (.var 2) (.cons (.var 1) .nil))) (.nm 2) (.seq (.tup (.star (.idx (.var 0) (.con (.int 2))) (.star (.idx (.var 0) (.con (.int 3))) .nil)))) .no [2]) .nil))) .nil))))
def ir_wrong_name : Sms := (.cons (.iff (.or (.not (.blt .isi (.cons (.var 0) (.cons (.glo (.ty .tuple)) .nil)))) (.cmp .Eq (.blt .len (.cons (.var 0) .nil)) (.con (.int 0)))) (.cons (.ret (.neg (.con (.int 1)))) .nil) .nil) (.cons (.forr (.tp (.cons (.nm 1) (.cons (.nm 2) .nil))) (.enu (.var 0)) (.cons (.iff (.or (.cmp .Eq (.var 1) (.glo (.int 3))) (.or (.not (.fn "is_name" (.cons (.var 2) .nil))) (.cmp .In (.var 2) (.slc (.var 0) .no (.so (.var 1)))))) (.cons (.ret (.var 1)) .nil) .nil) .nil)) (.cons (.ret (.con .non)) .nil)))
def ir_wrong_saying : Sms := (.cons (.iff (.not (.blt .isi (.cons (.var 0) (.cons (.glo (.ty .tuple)) .nil)))) (.cons (.ret (.neg (.con (.int 1)))) .nil) .nil) (.cons (.forr (.tp (.cons (.nm 2) (.cons (.nm 3) .nil))) (.enu (.var 0)) (.cons (.iff (.or (.cmp .Eq (.var 2) (.glo (.int 3))) (.not (.fn "is_saying" (.cons (.var 3) (.cons (.var 1) .nil))))) (.cons (.ret (.var 2)) .nil) .nil) .nil)) (.cons (.ret (.con .non)) .nil)))
def ir_places_in : Sms := (.cons (.own 2 (.lst .nil)) (.cons (.forr (.tp (.cons (.nm 3) (.cons (.nm 4) .nil))) (.seq (.var 0)) (.cons (.app 2 (.var 3)) .nil)) (.cons (.forr (.tp (.cons (.nm 5) (.cons (.nm 6) (.cons (.nm 7) (.cons (.nm 8) .nil))))) (.seq (.var 1)) (.cons (.ext 2 (.lst (.cons (.var 5) (.cons (.var 6) .nil)))) .nil)) (.cons (.ret (.blt .tup (.cons (.lc (.var 3) (.tp (.cons (.nm 9) (.cons (.nm 3) .nil))) (.enu (.var 2)) (.so (.cmp .NotIn (.var 3) (.slc (.var 2) .no (.so (.var 9))))) [9, 3]) .nil))) .nil))))
def ir_wrong_branch : Sms := (.cons (.iff (.or (.not (.blt .isi (.cons (.var 1) (.cons (.glo (.ty .tuple)) .nil)))) (.cmp .Eq (.blt .len (.cons (.var 1) .nil)) (.con (.int 0)))) (.cons (.ret (.neg (.con (.int 1)))) .nil) .nil) (.cons (.forr (.tp (.cons (.nm 3) (.cons (.nm 4) .nil))) (.enu (.var 1)) (.cons (.iff (.or (.cmp .Eq (.var 3) (.glo (.int 5))) (.not (.fn "is_branch" (.cons (.var 4) (.cons (.var 2) .nil))))) (.cons (.ret (.var 3)) .nil) .nil) (.cons (.iff (.cmp .Gt (.blt .len (.cons (.fn "places_in" (.cons (.var 0) (.cons (.slc (.var 1) .no (.so (.bin .Add (.var 3) (.con (.int 1))))) .nil))) .nil)) (.glo (.int 3))) (.cons (.ret (.var 3)) .nil) .nil) .nil))) (.cons (.ret (.con .non)) .nil)))
def ir_form_words : Sms := (.cons (.ret (.mth .join (.con (.str " ")) (.cons (.lc (.blt .str (.cons (.var 1) .nil)) (.nm 1) (.seq (.var 0)) .no [1]) .nil))) .nil)
def ir_branch_lines : Sms := (.cons (.unp (.cons (.nm 1) (.cons (.nm 2) (.cons (.nm 3) (.cons (.nm 4) .nil)))) (.var 0)) (.cons (.set 5 (.lc (.bin .Add (.con (.str "test ")) (.fn "form_words" (.cons (.var 6) .nil))) (.nm 6) (.seq (.var 3)) .no [6])) (.cons (.ret (.lst (.cons (.fst (.cons (.con (.str "branch ")) (.cons (.var 1) (.cons (.con (.str " ")) (.cons (.var 2) .nil))))) (.star (.var 5) (.cons (.bin .Add (.con (.str "then ")) (.mth .join (.con (.str "; ")) (.cons (.lc (.fn "form_words" (.cons (.var 6) .nil)) (.nm 6) (.seq (.var 4)) .no [6]) .nil))) .nil))))) .nil)))
def ir_program_lines : Sms := (.cons (.own 1 (.lst (.cons (.bin .Add (.con (.str "vars ")) (.mth .join (.con (.str " ")) (.cons (.att (.var 0) "own_names") .nil))) .nil))) (.cons (.ext 1 (.lc (.fst (.cons (.con (.str "say ")) (.cons (.var 2) (.cons (.con (.str " ")) (.cons (.fn "form_words" (.cons (.var 3) .nil)) .nil))))) (.tp (.cons (.nm 2) (.cons (.nm 3) .nil))) (.seq (.att (.var 0) "own_sayings")) .no [2, 3])) (.cons (.forr (.nm 4) (.seq (.att (.var 0) "own_branches")) (.cons (.ext 1 (.fn "branch_lines" (.cons (.var 4) .nil))) .nil)) (.cons (.retO 1) .nil))))
def ir_text_form : Sms := (.cons (.set 1 (.blt .tup (.cons (.lc (.fn "written_integer" (.cons (.var 2) .nil)) (.nm 2) (.seq (.var 0)) .no [2]) .nil))) (.cons (.ret (.ite (.cmp .In (.con .non) (.var 1)) (.con .non) (.var 1))) .nil))
def ir_text_saying : Sms := (.cons (.set 1 (.mth .split (.var 0) (.cons (.con (.str " ")) .nil))) (.cons (.ret (.ite (.cmp .Gt (.blt .len (.cons (.var 1) .nil)) (.con (.int 2))) (.tup (.cons (.idx (.var 1) (.con (.int 1))) (.cons (.fn "text_form" (.cons (.slc (.var 1) (.so (.con (.int 2))) .no) .nil)) .nil))) (.con .non))) .nil))
def ir_text_branch : Sms := (.cons (.set 1 (.mth .split (.idx (.var 0) (.con (.int 0))) (.cons (.con (.str " ")) .nil))) (.cons (.iff (.or (.cmp .NotEq (.blt .len (.cons (.var 1) .nil)) (.con (.int 3))) (.or (.cmp .NotEq (.slc (.idx (.var 0) (.neg (.con (.int 1)))) .no (.so (.con (.int 5)))) (.con (.str "then "))) (.blt .any (.cons (.lc (.cmp .NotEq (.slc (.var 2) .no (.so (.con (.int 5)))) (.con (.str "test "))) (.nm 2) (.seq (.slc (.var 0) (.so (.con (.int 1))) (.so (.neg (.con (.int 1)))))) .no [2]) .nil)))) (.cons (.ret (.con .non)) .nil) .nil) (.cons (.set 3 (.blt .tup (.cons (.lc (.fn "text_form" (.cons (.mth .split (.slc (.var 2) (.so (.con (.int 5))) .no) (.cons (.con (.str " ")) .nil)) .nil)) (.nm 2) (.seq (.slc (.var 0) (.so (.con (.int 1))) (.so (.neg (.con (.int 1)))))) .no [2]) .nil))) (.cons (.ret (.tup (.cons (.idx (.var 1) (.con (.int 1))) (.cons (.idx (.var 1) (.con (.int 2))) (.cons (.var 3) (.cons (.blt .tup (.cons (.lc (.fn "text_form" (.cons (.mth .split (.var 4) (.cons (.con (.str " ")) .nil)) .nil)) (.nm 4) (.seq (.mth .split (.slc (.idx (.var 0) (.neg (.con (.int 1)))) (.so (.con (.int 5))) .no) (.cons (.con (.str "; ")) .nil))) .no [4]) .nil)) .nil)))))) .nil))))
def ir_text_program : Sms := (.cons (.iff (.not (.blt .isi (.cons (.var 0) (.cons (.glo (.ty .str)) .nil)))) (.cons (.ret (.con .non)) .nil) .nil) (.cons (.set 1 (.mth .split (.var 0) (.cons (.con (.str "\n")) .nil))) (.cons (.set 2 (.blt .len (.cons (.lc (.var 3) (.nm 3) (.seq (.var 1)) (.so (.cmp .Eq (.slc (.var 3) .no (.so (.con (.int 4)))) (.con (.str "say ")))) [3]) .nil))) (.cons (.iff (.or (.cmp .NotEq (.slc (.idx (.var 1) (.con (.int 0))) .no (.so (.con (.int 5)))) (.con (.str "vars "))) (.blt .any (.cons (.lc (.cmp .NotEq (.slc (.var 3) .no (.so (.con (.int 4)))) (.con (.str "say "))) (.nm 3) (.seq (.slc (.var 1) (.so (.con (.int 1))) (.so (.bin .Add (.var 2) (.con (.int 1)))))) .no [3]) .nil))) (.cons (.ret (.con .non)) .nil) .nil) (.cons (.par [4, 5] (.cons (.blt .tup (.cons (.mth .split (.slc (.idx (.var 1) (.con (.int 0))) (.so (.con (.int 5))) .no) (.cons (.con (.str " ")) .nil)) .nil)) (.cons (.fn "branch_parts" (.cons (.slc (.var 1) (.so (.bin .Add (.var 2) (.con (.int 1)))) .no) .nil)) .nil))) (.cons (.iff (.or (.cmp .Is (.var 5) (.con .non)) (.cmp .IsNot (.fn "wrong_name" (.cons (.var 4) .nil)) (.con .non))) (.cons (.ret (.con .non)) .nil) .nil) (.cons (.set 6 (.blt .tup (.cons (.lc (.fn "text_saying" (.cons (.var 3) .nil)) (.nm 3) (.seq (.slc (.var 1) (.so (.con (.int 1))) (.so (.bin .Add (.var 2) (.con (.int 1)))))) .no [3]) .nil))) (.cons (.set 7 (.blt .tup (.cons (.lc (.fn "text_branch" (.cons (.var 8) .nil)) (.nm 8) (.seq (.var 5)) .no [8]) .nil))) (.cons (.iff (.or (.cmp .IsNot (.fn "wrong_saying" (.cons (.var 6) (.cons (.blt .len (.cons (.var 4) .nil)) .nil))) (.con .non)) (.cmp .IsNot (.fn "wrong_branch" (.cons (.var 6) (.cons (.var 7) (.cons (.blt .len (.cons (.var 4) .nil)) .nil)))) (.con .non))) (.cons (.ret (.con .non)) .nil) .nil) (.cons (.ret (.fn "Program" (.cons (.var 4) (.cons (.var 6) (.cons (.var 7) .nil))))) .nil))))))))))
def ir_Program___init__ : Sms := (.cons (.set 4 (.fn "wrong_name" (.cons (.var 1) .nil))) (.cons (.iff (.cmp .IsNot (.var 4) (.con .non)) (.cons (.rse "InvalidNames" (.cons (.ite (.cmp .Lt (.var 4) (.con (.int 0))) (.con .non) (.var 4)) .nil)) .nil) .nil) (.cons (.set 4 (.fn "wrong_saying" (.cons (.var 2) (.cons (.blt .len (.cons (.var 1) .nil)) .nil)))) (.cons (.iff (.cmp .IsNot (.var 4) (.con .non)) (.cons (.rse "InvalidSayings" (.cons (.ite (.cmp .Lt (.var 4) (.con (.int 0))) (.con .non) (.var 4)) .nil)) .nil) .nil) (.cons (.set 4 (.fn "wrong_branch" (.cons (.var 2) (.cons (.var 3) (.cons (.blt .len (.cons (.var 1) .nil)) .nil))))) (.cons (.iff (.cmp .IsNot (.var 4) (.con .non)) (.cons (.rse "InvalidBranches" (.cons (.ite (.cmp .Lt (.var 4) (.con (.int 0))) (.con .non) (.var 4)) .nil)) .nil) .nil) .nil))))))
def ir_Program_read : Sms := (.cons (.set 2 (.fn "text_program" (.cons (.var 1) .nil))) (.cons (.iff (.cmp .Is (.var 2) (.con .non)) (.cons (.rse "InvalidText" (.cons (.var 1) .nil)) .nil) .nil) (.cons (.ret (.var 2)) .nil)))
def ir_Program_names : Sms := (.cons (.ret (.att (.var 0) "own_names")) .nil)
def ir_Program_sayings : Sms := (.cons (.ret (.att (.var 0) "own_sayings")) .nil)
def ir_Program_branches : Sms := (.cons (.ret (.att (.var 0) "own_branches")) .nil)
def ir_Program_places : Sms := (.cons (.ret (.fn "places_in" (.cons (.att (.var 0) "own_sayings") (.cons (.att (.var 0) "own_branches") .nil)))) .nil)
def ir_Program_text : Sms := (.cons (.ret (.blt .str (.cons (.var 0) .nil))) .nil)
def ir_Program___len__ : Sms := (.cons (.ret (.blt .len (.cons (.att (.var 0) "own_branches") .nil))) .nil)
def ir_Program___eq__ : Sms := (.cons (.ret (.and (.blt .isi (.cons (.var 1) (.cons (.glo (.cls "Program")) .nil))) (.cmp .Eq (.fn "program_lines" (.cons (.var 0) .nil)) (.fn "program_lines" (.cons (.var 1) .nil))))) .nil)
def ir_Program___str__ : Sms := (.cons (.ret (.mth .join (.con (.str "\n")) (.cons (.fn "program_lines" (.cons (.var 0) .nil)) .nil))) .nil)
def ir_Program___repr__ : Sms := (.cons (.ret (.fst (.cons (.con (.str "Program of ")) (.cons (.blt .len (.cons (.att (.var 0) "own_branches") .nil)) (.cons (.con (.str " branches")) .nil))))) .nil)
/-- the program in a table of defs -/
structure PfH (fs : List (Str × Fn)) : Prop where
  f_is_integer : fs.lookup ("is_integer" : Str) = some ⟨1, 1, ir_is_integer⟩
  f_is_name : fs.lookup ("is_name" : Str) = some ⟨1, 2, ir_is_name⟩
  f_are_integers : fs.lookup ("are_integers" : Str) = some ⟨2, 3, ir_are_integers⟩
  f_written_integer : fs.lookup ("written_integer" : Str) = some ⟨1, 3, ir_written_integer⟩
  f_is_form : fs.lookup ("is_form" : Str) = some ⟨2, 3, ir_is_form⟩
  f_is_saying : fs.lookup ("is_saying" : Str) = some ⟨2, 2, ir_is_saying⟩
  f_is_branch : fs.lookup ("is_branch" : Str) = some ⟨2, 3, ir_is_branch⟩
  f_wrong_name : fs.lookup ("wrong_name" : Str) = some ⟨1, 3, ir_wrong_name⟩
  f_wrong_saying : fs.lookup ("wrong_saying" : Str) = some ⟨2, 4, ir_wrong_saying⟩
  f_places_in : fs.lookup ("places_in" : Str) = some ⟨2, 10, ir_places_in⟩
  f_wrong_branch : fs.lookup ("wrong_branch" : Str) = some ⟨3, 5, ir_wrong_branch⟩
  f_form_words : fs.lookup ("form_words" : Str) = some ⟨1, 2, ir_form_words⟩
  f_branch_lines : fs.lookup ("branch_lines" : Str) = some ⟨1, 7, ir_branch_lines⟩
  f_program_lines : fs.lookup ("program_lines" : Str) = some ⟨1, 5, ir_program_lines⟩
  f_text_form : fs.lookup ("text_form" : Str) = some ⟨1, 3, ir_text_form⟩
  f_text_saying : fs.lookup ("text_saying" : Str) = some ⟨1, 2, ir_text_saying⟩
  f_text_branch : fs.lookup ("text_branch" : Str) = some ⟨1, 5, ir_text_branch⟩
  f_text_program : fs.lookup ("text_program" : Str) = some ⟨1, 9, ir_text_program⟩
  f_Program_read : fs.lookup ("Program.read" : Str) = some ⟨2, 3, ir_Program_read⟩
  f_Program_names : fs.lookup ("Program.names" : Str) = some ⟨1, 1, ir_Program_names⟩
  f_Program_sayings : fs.lookup ("Program.sayings" : Str) = some ⟨1, 1, ir_Program_sayings⟩
  f_Program_branches : fs.lookup ("Program.branches" : Str) = some ⟨1, 1, ir_Program_branches⟩
  f_Program_places : fs.lookup ("Program.places" : Str) = some ⟨1, 1, ir_Program_places⟩
  f_Program_text : fs.lookup ("Program.text" : Str) = some ⟨1, 1, ir_Program_text⟩
  f_Program___len__ : fs.lookup ("Program.__len__" : Str) = some ⟨1, 1, ir_Program___len__⟩
  f_Program___eq__ : fs.lookup ("Program.__eq__" : Str) = some ⟨2, 2, ir_Program___eq__⟩
  f_Program___str__ : fs.lookup ("Program.__str__" : Str) = some ⟨1, 1, ir_Program___str__⟩
  f_Program___repr__ : fs.lookup ("Program.__repr__" : Str) = some ⟨1, 1, ir_Program___repr__⟩
end En
/-! Wp: how the meaning of the small form is worked out. -/
namespace En
open PySem L2 PyProof.Rows TL
/-! ### names -/
theorem varW_z {d : D} {r : Env} {Q : D → Prop} : varW 0 (some (.val d) :: r) Q ↔ Q d := by
  unfold varW
  simp
theorem varW_s {x : Option Slot} {i : Nat} {r : Env} {Q : D → Prop} : varW (i + 1) (x :: r) Q ↔ varW i r Q := by
  unfold varW
  simp
theorem barW_z {d : D} {r : Env} {Q : D → Prop} : barW 0 (some (.val d) :: r) Q ↔ Q d := by
  unfold barW
  simp
theorem barW_zo {xs : List D} {t : Option Addr} {r : Env} {Q : D → Prop} : barW 0 (some (.own xs t) :: r) Q ↔ Q (.lst xs) := by
  unfold barW
  simp
theorem barW_s {x : Option Slot} {i : Nat} {r : Env} {Q : D → Prop} : barW (i + 1) (x :: r) Q ↔ barW i r Q := by
  unfold barW
  simp
theorem Rvd_v {d : D} : (Rv.v d).d = d := rfl
theorem Rvd_f {xs : List D} : (Rv.fr xs).d = .lst xs := rfl
theorem cut_take {xs : List D} {i : Nat} : cutD xs none (some (i : Int)) = xs.take i := by
  unfold cutD
  rw [HT.sIx_none, HT.sIx_nat, List.drop_zero, Nat.sub_zero]
  rcases Nat.le_total i xs.length with h | h
  · rw [Nat.min_eq_left h]
  · rw [Nat.min_eq_right h, List.take_length, List.take_of_length_le h]
theorem cut_drop {xs : List D} {i : Nat} : cutD xs (some (i : Int)) none = xs.drop i := by
  unfold cutD
  rw [HT.sIx_none, HT.sIx_nat]
  rcases Nat.le_total i xs.length with h | h
  · rw [Nat.min_eq_left h, List.take_of_length_le (by simp)]
  · rw [Nat.min_eq_right h, List.drop_length, List.drop_eq_nil_of_le h]
    simp
theorem cut_mid {xs : List D} {i j : Nat} : cutD xs (some (i : Int)) (some (j : Int)) = (xs.drop i).take (j - i) := by
  unfold cutD
  rw [HT.sIx_nat, HT.sIx_nat]
  rcases Nat.le_total i xs.length with h | h
  · rw [Nat.min_eq_left h]
    rcases Nat.le_total j xs.length with h2 | h2
    · rw [Nat.min_eq_left h2]
    · rw [Nat.min_eq_right h2, List.take_of_length_le (by simp), List.take_of_length_le (by simp; omega)]
  · rw [Nat.min_eq_right h, List.drop_length, List.drop_eq_nil_of_le h]
    simp
theorem strs_flat (l : List Str) : (l.map D.str).all flatD = true := by
  rw [List.all_eq_true]
  intro x hx
  obtain ⟨s, _, rfl⟩ := List.mem_map.mp hx
  rfl
theorem strs_any (l : List Str) (s : Str) : ((l.map D.str).any fun y => eqF y (.str s)) = decide (s ∈ l) := by
  induction l with
  | nil => rfl
  | cons x xs ih =>
    rw [List.map_cons, List.any_cons, ih]
    show ((x == s) || decide (s ∈ xs)) = decide (s ∈ x :: xs)
    by_cases h : x = s
    · subst h; simp
    · have : (x == s) = false := by rw [beq_eq_false_iff_ne]; exact h
      rw [this]
      by_cases h2 : s ∈ xs
      · simp [h2]
      · simp [h2, Ne.symm h]
/-! ### tests -/
theorem ex_bl {b : Bool} {P : Bool → Prop} : (∃ c, D.bl b = D.bl c ∧ P c) ↔ P b := by simp
theorem isi_ty {sub : Sub} {x : D} {a n : Tn} (h : tyN x = some a) {Q : Bool → Prop} : isiW sub x (.ty n) Q ↔ Q (subT a n) := by
  cases x <;> first
    | (cases h; done)
    | (simp only [isiW, h, Option.some.injEq, exists_eq_left'])
theorem isi_i {sub : Sub} {i : Int} {n : Tn} {Q : Bool → Prop} : isiW sub (.int i) (.ty n) Q ↔ Q (subT .int n) := isi_ty rfl
theorem isi_s {sub : Sub} {i : Str} {n : Tn} {Q : Bool → Prop} : isiW sub (.str i) (.ty n) Q ↔ Q (subT .str n) := isi_ty rfl
theorem isi_t {sub : Sub} {i : List D} {n : Tn} {Q : Bool → Prop} : isiW sub (.tup i) (.ty n) Q ↔ Q (subT .tuple n) := isi_ty rfl
theorem eqW_i {C : Call} {i j : Int} {Q : Bool → Prop} : eqW C (.int i) (.int j) Q ↔ Q (decide (i = j)) := by
  have e : (i == j) = decide (i = j) := by
    by_cases h : i = j
    · subst h; simp
    · rw [decide_eq_false h, beq_eq_false_iff_ne]; exact h
  unfold eqW
  constructor
  · rintro (⟨a, b, e1, _⟩ | ⟨_, _, _, _, z⟩ | ⟨z, _⟩ | ⟨_, z, _⟩ | ⟨_, z, _⟩)
    · cases e1
    · simp only [toPy, PyData.eqv, e] at z
      exact z
    · cases z
    · cases z
    · cases z
  · intro z
    refine .inr (.inl ⟨rfl, rfl, rfl, rfl, ?_⟩)
    simp only [toPy, PyData.eqv, e]
    exact z
theorem eqW_ss {C : Call} {i j : Str} {Q : Bool → Prop} : eqW C (.str i) (.str j) Q ↔ Q (decide (i = j)) := by
  unfold eqW
  constructor
  · rintro (⟨a, b, e1, e2, z⟩ | ⟨_, _, _, _, z⟩ | ⟨z, _⟩ | ⟨_, z, _⟩ | ⟨_, z, _⟩)
    · cases e1
      cases e2
      exact z
    · have e : (i == j) = decide (i = j) := by
        by_cases h : i = j
        · subst h; simp
        · rw [decide_eq_false h, beq_eq_false_iff_ne]; exact h
      simp only [toPy, PyData.eqv, e] at z
      exact z
    · cases z
    · cases z
    · cases z
  · exact fun z => .inl ⟨_, _, rfl, rfl, z⟩
theorem eqW_s {C : Call} {i j : Str} {Q : Bool → Prop} (_ : PyData.strOk i = true) (_ : PyData.strOk j = true) : eqW C (.str i) (.str j) Q ↔ Q (decide (i = j)) := eqW_ss
/-! ### what built-ins and operators do with data -/
section
variable {sub : Sub} {C : Call} {x y u : D} {xs ys fs : List D} {a s t z c : Str} {i j : Int} {b : Bool} {Q : Rv → Prop} {P : Bool → Prop} {R : List D → Prop} {lo hi : Option Int}
theorem b_isi : bltW sub C .isi [x, u] Q = isiW sub x u fun b => Q (.v (.bl b)) := rfl
theorem b_lenL : bltW sub C .len [.lst xs] Q = Q (.v (.int xs.length)) := rfl
theorem b_lenT : bltW sub C .len [.tup xs] Q = Q (.v (.int xs.length)) := rfl
theorem b_lenS : bltW sub C .len [.str s] Q = (s.length ≤ sizeLine ∧ Q (.v (.int s.length))) := rfl
theorem b_lenO : bltW sub C .len [.obj c fs] Q = C "__len__" [.obj c fs] (fun r => ∃ n : Int, r = .v (.int n) ∧ 0 ≤ n ∧ n < 1000000 ∧ Q (.v (.int n))) E0 := rfl
theorem b_all : bltW sub C .all [.lst xs] Q = ∃ bs, unBl xs = some bs ∧ Q (.v (.bl (bs.all id))) := rfl
theorem b_any : bltW sub C .any [.lst xs] Q = ∃ bs, unBl xs = some bs ∧ Q (.v (.bl (bs.any id))) := rfl
theorem b_tupL : bltW sub C .tup [.lst xs] Q = Q (.v (.tup xs)) := rfl
theorem b_tupT : bltW sub C .tup [.tup xs] Q = Q (.v (.tup xs)) := rfl
theorem b_lstL : bltW sub C .lst [.lst xs] Q = Q (.fr xs) := rfl
theorem b_lstT : bltW sub C .lst [.tup xs] Q = Q (.fr xs) := rfl
theorem b_strO : bltW sub C .str [.obj c fs] Q = C "__str__" [.obj c fs] (fun r => ∃ x, r = .v (.str x) ∧ Q (.v (.str x))) E0 := rfl
theorem b_strI : bltW sub C .str [.int i] Q = (i.natAbs.log2 < 1920 ∧ Q (.v (.str (toString i)))) := rfl
theorem b_strS : bltW sub C .str [.str s] Q = Q (.v (.str s)) := rfl
theorem b_intI : bltW sub C .int [.int i] Q = Q (.v (.int i)) := rfl
theorem b_intS : bltW sub C .int [.str s] Q = ∃ n, PySem.intText? s = some n ∧ s.length ≤ 640 ∧ Q (.v (.int n)) := rfl
theorem b_abs : bltW sub C .abs [.int i] Q = Q (.v (.int (if i < 0 then -i else i))) := rfl
theorem b_min : bltW sub C .min [.int i, .int j] Q = Q (.v (.int (if j < i then j else i))) := rfl
theorem b_max : bltW sub C .max [.int i, .int j] Q = Q (.v (.int (if j > i then j else i))) := rfl
theorem b_sum : bltW sub C .sum [.lst xs] Q = ∃ ns, unInt xs = some ns ∧ Q (.v (.int ns.sum)) := rfl
theorem b_dvm : bltW sub C .divmod [.int i, .int j] Q = (CDiv i j ∧ Q (.v (.tup [.int (i / j), .int (i % j)]))) := rfl
theorem b_boolO : bltW sub C .bool [.obj c fs] Q = C "__bool__" [.obj c fs] (fun r => ∃ n : Int, r = .v (.int n) ∧ 0 ≤ n ∧ n < 1000000 ∧ Q (.v (.bl (n != 0)))) E0 := rfl
theorem b_reprO : bltW sub C .repr [.obj c fs] Q = C "__repr__" [.obj c fs] (fun r => ∃ x, r = .v (.str x) ∧ Q (.v (.str x))) E0 := rfl
theorem b_reprL : bltW sub C .repr [.lst xs] Q = (isDat (.lst xs) = true ∧ (toPy (.lst xs)).showable = true ∧ (toPy (.lst xs)).depth ≤ 60 ∧ (toPy (.lst xs)).shown.length ≤ sizeLine ∧ Q (.v (.str (toPy (.lst xs)).shown))) := rfl
theorem m_joinL : mthW .join (.str a) [.lst xs] Q = ∃ ys, unStr xs = some ys ∧ (ys.map (·.length)).sum + ys.length * a.length ≤ 16777216 ∧ Q (.v (.str (Txt.join a ys))) := rfl
theorem m_joinT : mthW .join (.str a) [.tup xs] Q = ∃ ys, unStr xs = some ys ∧ (ys.map (·.length)).sum + ys.length * a.length ≤ 16777216 ∧ Q (.v (.str (Txt.join a ys))) := rfl
theorem m_split : mthW .split (.str a) [.str t] Q = ((t.length == 0) = false ∧ a.length + 2 ≤ sizeLine ∧ Q (.fr ((Txt.split a t).map D.str))) := rfl
theorem y_join : mtyW .join (.str a) = true := rfl
theorem y_split : mtyW .split (.str a) = true := rfl
theorem c_lt : cmpW C .Lt (.int i) (.int j) P = P (decide (i < j)) := rfl
theorem c_le : cmpW C .LtE (.int i) (.int j) P = P (decide (i ≤ j)) := rfl
theorem c_gt : cmpW C .Gt (.int i) (.int j) P = P (decide (j < i)) := rfl
theorem c_ge : cmpW C .GtE (.int i) (.int j) P = P (decide (j ≤ i)) := rfl
theorem c_is : cmpW C .Is x .non P = P (isNon x) := rfl
theorem c_isn : cmpW C .IsNot x .non P = P (!isNon x) := rfl
theorem c_eq : cmpW C .Eq x y P = eqW C x y P := rfl
theorem c_ne : cmpW C .NotEq x y P = eqW C x y fun b => P (!b) := rfl
theorem c_in : cmpW C .In x y P = inW x y P := rfl
theorem c_nin : cmpW C .NotIn x y P = inW x y fun b => P (!b) := rfl
theorem i_str : inW x (.str z) P = ∃ c, x = .str ⟨#[c]⟩ ∧ P (decide (c ∈ z.cps.toList)) := rfl
theorem i_tup : inW x (.tup ys) P = (flatD x = true ∧ ys.all flatD = true ∧ P (ys.any fun y => eqF y x)) := rfl
theorem i_lst : inW x (.lst ys) P = (flatD x = true ∧ ys.all flatD = true ∧ P (ys.any fun y => eqF y x)) := rfl
theorem t_bl : truW (.bl b) P = P b := rfl
theorem t_int : truW (.int i) P = P (i != 0) := rfl
theorem n_int : negW (.int i) Q = Q (.v (.int (-i))) := rfl
theorem o_addI : binW .Add (.int i) (.int j) Q = Q (.v (.int (i + j))) := rfl
theorem o_addS : binW .Add (.str s) (.str t) Q = (s.length + t.length ≤ sizeLine ∧ Q (.v (.str (s ++ t)))) := rfl
theorem o_addT : binW .Add (.tup xs) (.tup ys) Q = (xs.length + ys.length ≤ sizeLine ∧ Q (.v (.tup (xs ++ ys)))) := rfl
theorem o_addL : binW .Add (.lst xs) (.lst ys) Q = (xs.length + ys.length ≤ sizeLine ∧ Q (.fr (xs ++ ys))) := rfl
theorem o_sub : binW .Sub (.int i) (.int j) Q = Q (.v (.int (i - j))) := rfl
theorem o_mul : binW .Mult (.int i) (.int j) Q = (IntMulOk i j ∧ Q (.v (.int (i * j)))) := rfl
theorem o_fdv : binW .FloorDiv (.int i) (.int j) Q = (CDiv i j ∧ Q (.v (.int (i / j)))) := rfl
theorem o_mod : binW .Mod (.int i) (.int j) Q = (0 < j ∧ Q (.v (.int (i % j)))) := rfl
theorem o_pow : binW .Pow (.int i) (.int j) Q = (CPow i j ∧ Q (.v (.int (i ^ j.toNat)))) := rfl
theorem x_lst : idxW (.lst xs) (.int i) Q = ∃ d, atI xs i = some d ∧ Q (.v d) := rfl
theorem x_tup : idxW (.tup xs) (.int i) Q = ∃ d, atI xs i = some d ∧ Q (.v d) := rfl
theorem x_str : idxW (.str s) (.int i) Q = (s.length ≤ sizeLine ∧ ∃ c, atI s.cps.toList i = some c ∧ Q (.v (.str ⟨#[c]⟩))) := rfl
theorem l_lst : slcW (.lst xs) lo hi Q = Q (.fr (cutD xs lo hi)) := rfl
theorem l_tup : slcW (.tup xs) lo hi Q = Q (.v (.tup (cutD xs lo hi))) := rfl
theorem l_str : slcW (.str s) lo hi Q = (s.length ≤ sizeLine ∧ Q (.v (.str (cutS s lo hi)))) := rfl
theorem q_lst : seqW (.lst xs) R = R xs := rfl
theorem q_tup : seqW (.tup xs) R = R xs := rfl
theorem q_str : seqW (.str s) R = (s.length ≤ sizeLine ∧ R (s.cps.toList.map fun c => .str ⟨#[c]⟩)) := rfl
theorem e_lst : enuW (.lst xs) R = R xs := rfl
theorem e_tup : enuW (.tup xs) R = R xs := rfl
end
/-! ### comprehensions -/
/-- each item gives one thing -/
theorem fold_map {step : D → List D → (List D → Prop) → Prop} {f : D → D} {Q : List D → Prop} : ∀ (items : List D) (acc : List D), (∀ x ∈ items, ∀ acc K, K (acc ++ [f x]) → step x acc K) → Q (acc ++ items.map f) → foldW step items acc Q
  | [], acc, _, q => by
    unfold foldW
    simpa using q
  | x :: xs, acc, h, q => by
    unfold foldW
    refine h x List.mem_cons_self acc _ (fold_map xs _ (fun y hy => h y (List.mem_cons_of_mem _ hy)) ?_)
    simpa using q
/-- .. some of them -/
theorem fold_filter {step : D → List D → (List D → Prop) → Prop} {p : D → Bool} {f : D → D} {Q : List D → Prop} : ∀ (items : List D) (acc : List D), (∀ x ∈ items, ∀ acc K, K (if p x then acc ++ [f x] else acc) → step x acc K) → Q (acc ++ (items.filter p).map f) → foldW step items acc Q
  | [], acc, _, q => by
    unfold foldW
    simpa using q
  | x :: xs, acc, h, q => by
    unfold foldW
    refine h x List.mem_cons_self acc _ (fold_filter xs _ (fun y hy => h y (List.mem_cons_of_mem _ hy)) ?_)
    cases e : p x with
    | true => simpa [e] using q
    | false => simpa [e] using q
theorem unBl_map {α : Type} {f : α → Bool} : ∀ l : List α, unBl (l.map fun x => D.bl (f x)) = some (l.map f)
  | [] => rfl
  | x :: l => by
    simp only [List.map_cons, unBl, unBl_map l]
    rfl
theorem unStr_map : ∀ l : List Str, unStr (l.map D.str) = some l
  | [] => rfl
  | x :: l => by
    simp only [List.map_cons, unStr, unStr_map l]
    rfl
/-! ### texts -/
def asc (s : Str) : Prop := ∀ c ∈ tl s, c < 128
theorem asc.ok {s : Str} (h : asc s) : PyData.strOk s = true := by
  unfold PyData.strOk
  rw [Array.all_eq_true_iff_forall_mem]
  intro c hc
  have := h c (by simpa [TL.tl] using hc)
  simp
  omega
/-! ### walks -/
theorem for_inv_go {turn : D → Env → (Env → Prop) → Prop} {P : Nat → Env → Prop} {items : List D} {K0 : Env → Prop} (hs : ∀ i x r, items[i]? = some x → P i r → ∀ K : Env → Prop, (∀ r', P (i + 1) r' → K r') → turn x r K) (he : ∀ r, P items.length r → K0 r) :
    ∀ (rest : List D) (i : Nat) (r : Env), i ≤ items.length → items.drop i = rest → P i r → forW turn rest r K0
  | [], i, r, hi, hd, hp => by
    unfold forW
    have h2 : items.length ≤ i := by simpa using List.drop_eq_nil_iff.mp hd
    have e : i = items.length := by omega
    subst e
    exact he r hp
  | x :: rest, i, r, hi, hd, hp => by
    unfold forW
    have hlt : i < items.length := by
      rcases Nat.lt_or_ge i items.length with z | z
      · exact z
      · rw [List.drop_eq_nil_of_le z] at hd; cases hd
    rw [List.drop_eq_getElem_cons hlt] at hd
    injection hd with h1 h2
    refine hs i x r (by rw [List.getElem?_eq_getElem hlt, h1]) hp _ fun r' hp' => ?_
    exact for_inv_go hs he rest (i + 1) r' hlt h2 hp'
theorem for_inv {turn : D → Env → (Env → Prop) → Prop} (P : Nat → Env → Prop) {items : List D} {K0 : Env → Prop} {r : Env} (h0 : P 0 r) (hs : ∀ i x r, items[i]? = some x → P i r → ∀ K : Env → Prop, (∀ r', P (i + 1) r' → K r') → turn x r K) (he : ∀ r, P items.length r → K0 r) : forW turn items r K0 :=
  for_inv_go hs he items 0 r (Nat.zero_le _) rfl h0
theorem enum_at {xs : List D} {i : Nat} {e : D} (h : (enumD xs)[i]? = some e) : ∃ x, xs[i]? = some x ∧ e = .tup [.int (i : Nat), x] := by
  have hlt : i < xs.length := by
    rw [← enumD_len xs]
    rcases Nat.lt_or_ge i (enumD xs).length with z | z
    · exact z
    · rw [List.getElem?_eq_none z] at h; cases h
  have := enumD_get (List.getElem?_eq_getElem hlt)
  rw [this] at h
  exact ⟨_, List.getElem?_eq_getElem hlt, (Option.some.inj h).symm⟩
/-! ### one step at a time -/
section
variable {B : Lib} {C : Call} (hB : B.Mono) (hC : MonoC C)
include hB hC
theorem T_is {t : Ex} {r : Env} {F : Bool → Prop} {E : XP} (b0 : Bool) (h : (evP B C t r).T (fun b => b = b0) E) (q : F b0) : (evP B C t r).T F E := (evP_mono hB hC t r).T _ _ _ _ (fun b e => by rw [e]; exact q) (fun _ _ z => z) h
theorem R_is {t : Ex} {r : Env} {F : Rv → Prop} {E : XP} (x0 : Rv) (h : (evP B C t r).R (fun x => x = x0) E) (q : F x0) : (evP B C t r).R F E := (evP_mono hB hC t r).R _ _ _ _ (fun b e => by rw [e]; exact q) (fun _ _ z => z) h
theorem S_is {t : Ex} {r : Env} {F : D → Prop} {E : XP} (x0 : D) (h : (evP B C t r).S (fun x => x = x0) E) (q : F x0) : (evP B C t r).S F E := (evP_mono hB hC t r).S _ _ _ _ (fun b e => by rw [e]; exact q) (fun _ _ z => z) h
theorem s_if {t : Ex} {a b : Sms} {N : Nd} {r : Env} {E : XP} (b0 : Bool) (h : (evP B C t r).T (fun b => b = b0) E) (q : exSs B C (if b0 = true then a else b) N r E) : exS B C (.iff t a b) N r E := by
  unfold exS
  refine T_is hB hC b0 h ?_
  cases b0 <;> exact q
theorem s_ret {e : Ex} {N : Nd} {r : Env} {E : XP} (x0 : Rv) (h : (evP B C e r).R (fun x => x = x0) E) (q : N.rt x0 r) : exS B C (.ret e) N r E := by
  unfold exS
  exact R_is hB hC x0 h q
theorem s_set {e : Ex} {i : Nat} {N : Nd} {r : Env} {E : XP} (x0 : Rv) (h : (evP B C e r).R (fun x => x = x0) E) (q : N.nx (r.set i (some (.val x0.d)))) : exS B C (.set i e) N r E := by
  unfold exS
  exact R_is hB hC x0 h q
theorem s_own {e : Ex} {i : Nat} {N : Nd} {r : Env} {E : XP} (x0 : Rv) (h : (evP B C e r).R (fun x => x = x0) E) (q : N.nx (r.set i (some (slotOf x0)))) : exS B C (.own i e) N r E := by
  unfold exS
  exact R_is hB hC x0 h q
end
theorem ss_c {B : Lib} {C : Call} {s : Sm} {q : Sms} {N : Nd} {r : Env} {E : XP} (h : exS B C s { N with nx := fun r' => exSs B C q N r' E } r E) : exSs B C (.cons s q) N r E := by
  unfold exSs
  exact h
theorem ss_n {B : Lib} {C : Call} {N : Nd} {r : Env} {E : XP} (h : N.nx r) : exSs B C .nil N r E := by
  unfold exSs
  exact h
end En
namespace En
open PySem L2 PyProof.Rows TL
/-! ### names -/
def lowS : Str := "abcdefghijklmnopqrstuvwxyz"
def digS : Str := "0123456789"
def lowB (c : Nat) : Bool := decide (c ∈ tl lowS)
def digB (c : Nat) : Bool := decide (c ∈ tl digS)
def nmS (s : Str) : Bool := decide (1 ≤ s.length) && (decide (s.length ≤ 8) && ((match tl s with
  | c :: _ => lowB c
  | [] => false) && (tl s).all fun c => lowB c || digB c))
def frm (n : Nat) (f : List Int) : Prop := f.length = n + 1 ∧ ∀ c ∈ f, -1000000 ≤ c ∧ c ≤ 1000000
def formD (f : List Int) : D := .tup (f.map D.int)
theorem sl_le {n : Nat} (h : n ≤ 100000) : n ≤ sizeLine := by rw [sizeLine_eq]; omega
theorem atI_zero {α : Type} {x : α} {xs : List α} : atI (x :: xs) 0 = some x := by
  unfold atI ixN
  simp
theorem atI_nat {α : Type} {xs : List α} {i : Nat} {x : α} (h : xs[i]? = some x) : atI xs (i : Int) = some x := by
  have hl : i < xs.length := by
    rcases Nat.lt_or_ge i xs.length with z | z
    · exact z
    · rw [List.getElem?_eq_none z] at h; cases h
  unfold atI ixN
  rw [if_pos (by omega), if_pos (by omega)]
  simpa using h
section
variable {sub : Sub} {fs : List (Str × Fn)} {l : List (Str × Prim)} {G : Cfg} (hG : G.B = libW sub) (H : PfH fs) (hm : ∀ k, MonoC (CW G fs l k))
include hG H hm
theorem is_integer_ok {k : Nat} {i : Int} {Q : Rv → Prop} {E : XP} (q : Q (.v (.bl true))) : CW G fs l (k + 1) "is_integer" [.int i] Q E := by
  refine cw_fn_mk H.f_is_integer rfl ?_
  rw [hG]
  simp only [ir_is_integer, exSs, exS, evR, evT, evS, evP, evAs, evO, evC, evI, evIF, evF, mkV, mkT, Rvd_v, Rvd_f, varW_z, varW_s, barW_z, barW_zo, barW_s, ex_bl, libW, isi_i, isi_s, isi_t, eqW_i, fzE, fzV, slotOf, bindTg, bindTgs, wip, startD, List.map_cons, List.map_nil, List.replicate, List.length_cons, List.length_nil, List.cons_append, List.nil_append, List.set_cons_zero, List.set_cons_succ, Nat.reduceAdd, Nat.reduceSub, Nat.sub_self, Nat.add_sub_cancel, List.getElem?_cons_zero, List.getElem?_cons_succ, setAll, b_isi, b_lenL, b_lenT, b_lenS, b_lenO, b_all, b_any, b_tupL, b_tupT, b_lstL, b_lstT, b_strO, b_strI, b_strS, b_intI, b_intS, b_abs, b_min, b_max, b_sum, b_dvm, b_boolO, b_reprO, b_reprL, m_joinL, m_joinT, m_split, y_join, y_split, c_lt, c_le, c_gt, c_ge, c_is, c_isn, c_eq, c_ne, c_in, c_nin, i_str, i_tup, i_lst, t_bl, t_int, n_int, o_addI, o_addS, o_addT, o_addL, o_sub, o_mul, o_fdv, o_mod, o_pow, x_lst, x_tup, x_str, l_lst, l_tup, l_str, q_lst, q_tup, q_str, e_lst, e_tup]
  exact q
theorem is_name_ok {k : Nat} {s : Str} (hs : nmS s = true) {Q : Rv → Prop} {E : XP} (q : Q (.v (.bl true))) : CW G fs l (k + 1) "is_name" [.str s] Q E := by
  have hB : G.B.Mono := by rw [hG]; exact libW_mono sub
  unfold nmS at hs
  simp only [Bool.and_eq_true, decide_eq_true_eq] at hs
  obtain ⟨h1, h2, h3, h4⟩ := hs
  have hsz : s.length ≤ sizeLine := sl_le (by omega)
  refine cw_fn_mk H.f_is_name rfl ?_
  refine ss_c (s_if hB (hm k) false ?_ (ss_n (ss_c (s_ret hB (hm k) (.v (.bl true)) ?_ q))))
  · rw [hG]
    cases hc : tl s with
    | nil => rw [hc] at h3; cases h3
    | cons c cs =>
      rw [hc] at h3
      have hc' : s.cps.toList = c :: cs := hc
      have e3 : (decide (c ∈ (Str.ofString "abcdefghijklmnopqrstuvwxyz").cps.toList)) = true := h3
      have e1 : (1 : Int) ≤ s.length := by omega
      have e2 : (s.length : Int) ≤ 8 := by omega
      simp only [exSs, exS, evR, evT, evS, evP, evAs, evO, evC, evI, evIF, evF, mkV, mkT, Rvd_v, Rvd_f, varW_z, varW_s, barW_z, barW_zo, barW_s, ex_bl, libW, isi_i, isi_s, isi_t, eqW_i, fzE, fzV, slotOf, bindTg, bindTgs, wip, startD, List.map_cons, List.map_nil, List.replicate, List.length_cons, List.length_nil, List.cons_append, List.nil_append, List.set_cons_zero, List.set_cons_succ, Nat.reduceAdd, Nat.reduceSub, Nat.sub_self, Nat.add_sub_cancel, List.getElem?_cons_zero, List.getElem?_cons_succ, setAll, b_isi, b_lenL, b_lenT, b_lenS, b_lenO, b_all, b_any, b_tupL, b_tupT, b_lstL, b_lstT, b_strO, b_strI, b_strS, b_intI, b_intS, b_abs, b_min, b_max, b_sum, b_dvm, b_boolO, b_reprO, b_reprL, m_joinL, m_joinT, m_split, y_join, y_split, c_lt, c_le, c_gt, c_ge, c_is, c_isn, c_eq, c_ne, c_in, c_nin, i_str, i_tup, i_lst, t_bl, t_int, n_int, o_addI, o_addS, o_addT, o_addL, o_sub, o_mul, o_fdv, o_mod, o_pow, x_lst, x_tup, x_str, l_lst, l_tup, l_str, q_lst, q_tup, q_str, e_lst, e_tup, subT, hsz, hc', atI_zero, e1, e2, decide_true, Bool.not_true, Bool.false_or, Bool.true_or, if_true, Bool.false_eq_true, if_false, true_and, Option.some.injEq, exists_eq_left']
      refine ⟨c, rfl, ?_⟩
      rw [e3]
      rfl
  · rw [hG]
    have hl : (tl s).length ≤ sizeLine := by simpa [TL.tl, Str.length] using hsz
    simp only [exSs, exS, evR, evT, evS, evP, evAs, evO, evC, evI, evIF, evF, mkV, mkT, Rvd_v, Rvd_f, varW_z, varW_s, barW_z, barW_zo, barW_s, ex_bl, libW, isi_i, isi_s, isi_t, eqW_i, fzE, fzV, slotOf, bindTg, bindTgs, wip, startD, List.map_cons, List.map_nil, List.replicate, List.length_cons, List.length_nil, List.cons_append, List.nil_append, List.set_cons_zero, List.set_cons_succ, Nat.reduceAdd, Nat.reduceSub, Nat.sub_self, Nat.add_sub_cancel, List.getElem?_cons_zero, List.getElem?_cons_succ, setAll, b_isi, b_lenL, b_lenT, b_lenS, b_lenO, b_all, b_any, b_tupL, b_tupT, b_lstL, b_lstT, b_strO, b_strI, b_strS, b_intI, b_intS, b_abs, b_min, b_max, b_sum, b_dvm, b_boolO, b_reprO, b_reprL, m_joinL, m_joinT, m_split, y_join, y_split, c_lt, c_le, c_gt, c_ge, c_is, c_isn, c_eq, c_ne, c_in, c_nin, i_str, i_tup, i_lst, t_bl, t_int, n_int, o_addI, o_addS, o_addT, o_addL, o_sub, o_mul, o_fdv, o_mod, o_pow, x_lst, x_tup, x_str, l_lst, l_tup, l_str, q_lst, q_tup, q_str, e_lst, e_tup, hsz, true_and, List.length_map]
    refine ⟨hl, ?_⟩
    have e : ∀ c ∈ tl s, (lowB c || digB c) = true := fun c hc => List.all_eq_true.mp h4 c hc
    refine fold_map (f := fun _ => D.bl true) _ _ (fun x hx acc K hk => ?_) ?_
    · obtain ⟨c, hc, rfl⟩ := List.mem_map.mp hx
      have := e c hc
      simp only [if_true]
      refine ⟨c, rfl, ?_⟩
      by_cases h : c ∈ (Str.ofString "abcdefghijklmnopqrstuvwxyz").cps.toList
      · rw [decide_eq_true h, if_pos rfl]
        exact hk
      · rw [decide_eq_false h, if_neg (by decide)]
        refine ⟨c, rfl, ?_⟩
        have h2 : digB c = true := by
          have : (decide (c ∈ tl lowS) || digB c) = true := this
          rw [decide_eq_false (show ¬ c ∈ tl lowS from h)] at this
          exact this
        have h3 : decide (c ∈ (Str.ofString "0123456789").cps.toList) = true := h2
        rw [h3]
        exact hk
    · simp only [exSs, exS, evR, evT, evS, evP, evAs, evO, evC, evI, evIF, evF, mkV, mkT, Rvd_v, Rvd_f, varW_z, varW_s, barW_z, barW_zo, barW_s, ex_bl, libW, isi_i, isi_s, isi_t, eqW_i, fzE, fzV, slotOf, bindTg, bindTgs, wip, startD, List.map_cons, List.map_nil, List.replicate, List.length_cons, List.length_nil, List.cons_append, List.nil_append, List.set_cons_zero, List.set_cons_succ, Nat.reduceAdd, Nat.reduceSub, Nat.sub_self, Nat.add_sub_cancel, List.getElem?_cons_zero, List.getElem?_cons_succ, setAll, b_isi, b_lenL, b_lenT, b_lenS, b_lenO, b_all, b_any, b_tupL, b_tupT, b_lstL, b_lstT, b_strO, b_strI, b_strS, b_intI, b_intS, b_abs, b_min, b_max, b_sum, b_dvm, b_boolO, b_reprO, b_reprL, m_joinL, m_joinT, m_split, y_join, y_split, c_lt, c_le, c_gt, c_ge, c_is, c_isn, c_eq, c_ne, c_in, c_nin, i_str, i_tup, i_lst, t_bl, t_int, n_int, o_addI, o_addS, o_addT, o_addL, o_sub, o_mul, o_fdv, o_mod, o_pow, x_lst, x_tup, x_str, l_lst, l_tup, l_str, q_lst, q_tup, q_str, e_lst, e_tup, List.map_map]
      refine ⟨_, unBl_map (f := fun _ => true) _, ?_⟩
      simp
theorem are_integers_ok {k : Nat} {xs : List Int} {n : Int} (hn : (xs.length : Int) = n) (hl : xs.length ≤ 1000) {Q : Rv → Prop} {E : XP} (q : Q (.v (.bl true))) : CW G fs l (k + 2) "are_integers" [.tup (xs.map D.int), .int n] Q E := by
  have hB : G.B.Mono := by rw [hG]; exact libW_mono sub
  refine cw_fn_mk H.f_are_integers rfl ?_
  refine ss_c (s_ret hB (hm _) (.v (.bl true)) ?_ q)
  rw [hG]
  simp only [exSs, exS, evR, evT, evS, evP, evAs, evO, evC, evI, evIF, evF, mkV, mkT, Rvd_v, Rvd_f, varW_z, varW_s, barW_z, barW_zo, barW_s, ex_bl, libW, isi_i, isi_s, isi_t, eqW_i, fzE, fzV, slotOf, bindTg, bindTgs, wip, startD, List.map_cons, List.map_nil, List.replicate, List.length_cons, List.length_nil, List.cons_append, List.nil_append, List.set_cons_zero, List.set_cons_succ, Nat.reduceAdd, Nat.reduceSub, Nat.sub_self, Nat.add_sub_cancel, List.getElem?_cons_zero, List.getElem?_cons_succ, setAll, b_isi, b_lenL, b_lenT, b_lenS, b_lenO, b_all, b_any, b_tupL, b_tupT, b_lstL, b_lstT, b_strO, b_strI, b_strS, b_intI, b_intS, b_abs, b_min, b_max, b_sum, b_dvm, b_boolO, b_reprO, b_reprL, m_joinL, m_joinT, m_split, y_join, y_split, c_lt, c_le, c_gt, c_ge, c_is, c_isn, c_eq, c_ne, c_in, c_nin, i_str, i_tup, i_lst, t_bl, t_int, n_int, o_addI, o_addS, o_addT, o_addL, o_sub, o_mul, o_fdv, o_mod, o_pow, x_lst, x_tup, x_str, l_lst, l_tup, l_str, q_lst, q_tup, q_str, e_lst, e_tup, subT, List.length_map, hn, decide_true, if_true, true_and, decide_true, Bool.true_or]
  refine ⟨sl_le (by omega), ?_⟩
  refine fold_map (f := fun _ => D.bl true) _ _ (fun x hx acc K hk => ?_) ?_
  · obtain ⟨c, hc, rfl⟩ := List.mem_map.mp hx
    exact is_integer_ok hG H hm hk
  · simp only [exSs, exS, evR, evT, evS, evP, evAs, evO, evC, evI, evIF, evF, mkV, mkT, Rvd_v, Rvd_f, varW_z, varW_s, barW_z, barW_zo, barW_s, ex_bl, libW, isi_i, isi_s, isi_t, eqW_i, fzE, fzV, slotOf, bindTg, bindTgs, wip, startD, List.map_cons, List.map_nil, List.replicate, List.length_cons, List.length_nil, List.cons_append, List.nil_append, List.set_cons_zero, List.set_cons_succ, Nat.reduceAdd, Nat.reduceSub, Nat.sub_self, Nat.add_sub_cancel, List.getElem?_cons_zero, List.getElem?_cons_succ, setAll, b_isi, b_lenL, b_lenT, b_lenS, b_lenO, b_all, b_any, b_tupL, b_tupT, b_lstL, b_lstT, b_strO, b_strI, b_strS, b_intI, b_intS, b_abs, b_min, b_max, b_sum, b_dvm, b_boolO, b_reprO, b_reprL, m_joinL, m_joinT, m_split, y_join, y_split, c_lt, c_le, c_gt, c_ge, c_is, c_isn, c_eq, c_ne, c_in, c_nin, i_str, i_tup, i_lst, t_bl, t_int, n_int, o_addI, o_addS, o_addT, o_addL, o_sub, o_mul, o_fdv, o_mod, o_pow, x_lst, x_tup, x_str, l_lst, l_tup, l_str, q_lst, q_tup, q_str, e_lst, e_tup, List.map_map]
    exact ⟨_, unBl_map (f := fun _ => true) xs, by simp⟩
theorem is_form_ok {k n : Nat} {f : List Int} (hf : frm n f) (hn : n ≤ 100) {Q : Rv → Prop} {E : XP} (q : Q (.v (.bl true))) : CW G fs l (k + 3) "is_form" [formD f, .int n] Q E := by
  have hB : G.B.Mono := by rw [hG]; exact libW_mono sub
  refine cw_fn_mk H.f_is_form rfl ?_
  refine ss_c (s_ret hB (hm _) (.v (.bl true)) ?_ q)
  rw [hG]
  unfold formD
  simp only [exSs, exS, evR, evT, evS, evP, evAs, evO, evC, evI, evIF, evF, mkV, mkT, Rvd_v, Rvd_f, varW_z, varW_s, barW_z, barW_zo, barW_s, ex_bl, libW, isi_i, isi_s, isi_t, eqW_i, fzE, fzV, slotOf, bindTg, bindTgs, wip, startD, List.map_cons, List.map_nil, List.replicate, List.length_cons, List.length_nil, List.cons_append, List.nil_append, List.set_cons_zero, List.set_cons_succ, Nat.reduceAdd, Nat.reduceSub, Nat.sub_self, Nat.add_sub_cancel, List.getElem?_cons_zero, List.getElem?_cons_succ, setAll, b_isi, b_lenL, b_lenT, b_lenS, b_lenO, b_all, b_any, b_tupL, b_tupT, b_lstL, b_lstT, b_strO, b_strI, b_strS, b_intI, b_intS, b_abs, b_min, b_max, b_sum, b_dvm, b_boolO, b_reprO, b_reprL, m_joinL, m_joinT, m_split, y_join, y_split, c_lt, c_le, c_gt, c_ge, c_is, c_isn, c_eq, c_ne, c_in, c_nin, i_str, i_tup, i_lst, t_bl, t_int, n_int, o_addI, o_addS, o_addT, o_addL, o_sub, o_mul, o_fdv, o_mod, o_pow, x_lst, x_tup, x_str, l_lst, l_tup, l_str, q_lst, q_tup, q_str, e_lst, e_tup]
  have hl : f.length ≤ 1000 := by have := hf.1; omega
  refine are_integers_ok hG H hm (by rw [hf.1]; omega) hl ?_
  simp only [exSs, exS, evR, evT, evS, evP, evAs, evO, evC, evI, evIF, evF, mkV, mkT, Rvd_v, Rvd_f, varW_z, varW_s, barW_z, barW_zo, barW_s, ex_bl, libW, isi_i, isi_s, isi_t, eqW_i, fzE, fzV, slotOf, bindTg, bindTgs, wip, startD, List.map_cons, List.map_nil, List.replicate, List.length_cons, List.length_nil, List.cons_append, List.nil_append, List.set_cons_zero, List.set_cons_succ, Nat.reduceAdd, Nat.reduceSub, Nat.sub_self, Nat.add_sub_cancel, List.getElem?_cons_zero, List.getElem?_cons_succ, setAll, b_isi, b_lenL, b_lenT, b_lenS, b_lenO, b_all, b_any, b_tupL, b_tupT, b_lstL, b_lstT, b_strO, b_strI, b_strS, b_intI, b_intS, b_abs, b_min, b_max, b_sum, b_dvm, b_boolO, b_reprO, b_reprL, m_joinL, m_joinT, m_split, y_join, y_split, c_lt, c_le, c_gt, c_ge, c_is, c_isn, c_eq, c_ne, c_in, c_nin, i_str, i_tup, i_lst, t_bl, t_int, n_int, o_addI, o_addS, o_addT, o_addL, o_sub, o_mul, o_fdv, o_mod, o_pow, x_lst, x_tup, x_str, l_lst, l_tup, l_str, q_lst, q_tup, q_str, e_lst, e_tup, if_true, List.length_map]
  refine ⟨sl_le (by omega), ?_⟩
  refine fold_map (f := fun _ => D.bl true) _ _ (fun x hx acc K hk => ?_) ?_
  · obtain ⟨c, hc, rfl⟩ := List.mem_map.mp hx
    have := hf.2 c hc
    simp only [exSs, exS, evR, evT, evS, evP, evAs, evO, evC, evI, evIF, evF, mkV, mkT, Rvd_v, Rvd_f, varW_z, varW_s, barW_z, barW_zo, barW_s, ex_bl, libW, isi_i, isi_s, isi_t, eqW_i, fzE, fzV, slotOf, bindTg, bindTgs, wip, startD, List.map_cons, List.map_nil, List.replicate, List.length_cons, List.length_nil, List.cons_append, List.nil_append, List.set_cons_zero, List.set_cons_succ, Nat.reduceAdd, Nat.reduceSub, Nat.sub_self, Nat.add_sub_cancel, List.getElem?_cons_zero, List.getElem?_cons_succ, setAll, b_isi, b_lenL, b_lenT, b_lenS, b_lenO, b_all, b_any, b_tupL, b_tupT, b_lstL, b_lstT, b_strO, b_strI, b_strS, b_intI, b_intS, b_abs, b_min, b_max, b_sum, b_dvm, b_boolO, b_reprO, b_reprL, m_joinL, m_joinT, m_split, y_join, y_split, c_lt, c_le, c_gt, c_ge, c_is, c_isn, c_eq, c_ne, c_in, c_nin, i_str, i_tup, i_lst, t_bl, t_int, n_int, o_addI, o_addS, o_addT, o_addL, o_sub, o_mul, o_fdv, o_mod, o_pow, x_lst, x_tup, x_str, l_lst, l_tup, l_str, q_lst, q_tup, q_str, e_lst, e_tup, if_true]
    have e : decide ((if c < 0 then -c else c) ≤ 1000000) = true := decide_eq_true (by split <;> omega)
    rw [e]
    exact hk
  · simp only [exSs, exS, evR, evT, evS, evP, evAs, evO, evC, evI, evIF, evF, mkV, mkT, Rvd_v, Rvd_f, varW_z, varW_s, barW_z, barW_zo, barW_s, ex_bl, libW, isi_i, isi_s, isi_t, eqW_i, fzE, fzV, slotOf, bindTg, bindTgs, wip, startD, List.map_cons, List.map_nil, List.replicate, List.length_cons, List.length_nil, List.cons_append, List.nil_append, List.set_cons_zero, List.set_cons_succ, Nat.reduceAdd, Nat.reduceSub, Nat.sub_self, Nat.add_sub_cancel, List.getElem?_cons_zero, List.getElem?_cons_succ, setAll, b_isi, b_lenL, b_lenT, b_lenS, b_lenO, b_all, b_any, b_tupL, b_tupT, b_lstL, b_lstT, b_strO, b_strI, b_strS, b_intI, b_intS, b_abs, b_min, b_max, b_sum, b_dvm, b_boolO, b_reprO, b_reprL, m_joinL, m_joinT, m_split, y_join, y_split, c_lt, c_le, c_gt, c_ge, c_is, c_isn, c_eq, c_ne, c_in, c_nin, i_str, i_tup, i_lst, t_bl, t_int, n_int, o_addI, o_addS, o_addT, o_addL, o_sub, o_mul, o_fdv, o_mod, o_pow, x_lst, x_tup, x_str, l_lst, l_tup, l_str, q_lst, q_tup, q_str, e_lst, e_tup, List.map_map]
    exact ⟨_, unBl_map (f := fun _ => true) f, by simp⟩
theorem is_saying_ok {k n : Nat} {s : Str} {f : List Int} (hs : nmS s = true) (hf : frm n f) (hn : n ≤ 100) {Q : Rv → Prop} {E : XP} (q : Q (.v (.bl true))) : CW G fs l (k + 4) "is_saying" [.tup [.str s, formD f], .int n] Q E := by
  have hB : G.B.Mono := by rw [hG]; exact libW_mono sub
  refine cw_fn_mk H.f_is_saying rfl ?_
  refine ss_c (s_if hB (hm _) false ?_ (ss_n (ss_c (s_ret hB (hm _) (.v (.bl true)) ?_ q))))
  · rw [hG]
    simp only [exSs, exS, evR, evT, evS, evP, evAs, evO, evC, evI, evIF, evF, mkV, mkT, Rvd_v, Rvd_f, varW_z, varW_s, barW_z, barW_zo, barW_s, ex_bl, libW, isi_i, isi_s, isi_t, eqW_i, fzE, fzV, slotOf, bindTg, bindTgs, wip, startD, List.map_cons, List.map_nil, List.replicate, List.length_cons, List.length_nil, List.cons_append, List.nil_append, List.set_cons_zero, List.set_cons_succ, Nat.reduceAdd, Nat.reduceSub, Nat.sub_self, Nat.add_sub_cancel, List.getElem?_cons_zero, List.getElem?_cons_succ, setAll, b_isi, b_lenL, b_lenT, b_lenS, b_lenO, b_all, b_any, b_tupL, b_tupT, b_lstL, b_lstT, b_strO, b_strI, b_strS, b_intI, b_intS, b_abs, b_min, b_max, b_sum, b_dvm, b_boolO, b_reprO, b_reprL, m_joinL, m_joinT, m_split, y_join, y_split, c_lt, c_le, c_gt, c_ge, c_is, c_isn, c_eq, c_ne, c_in, c_nin, i_str, i_tup, i_lst, t_bl, t_int, n_int, o_addI, o_addS, o_addT, o_addL, o_sub, o_mul, o_fdv, o_mod, o_pow, x_lst, x_tup, x_str, l_lst, l_tup, l_str, q_lst, q_tup, q_str, e_lst, e_tup, subT]
    simp
  · rw [hG]
    simp only [exSs, exS, evR, evT, evS, evP, evAs, evO, evC, evI, evIF, evF, mkV, mkT, Rvd_v, Rvd_f, varW_z, varW_s, barW_z, barW_zo, barW_s, ex_bl, libW, isi_i, isi_s, isi_t, eqW_i, fzE, fzV, slotOf, bindTg, bindTgs, wip, startD, List.map_cons, List.map_nil, List.replicate, List.length_cons, List.length_nil, List.cons_append, List.nil_append, List.set_cons_zero, List.set_cons_succ, Nat.reduceAdd, Nat.reduceSub, Nat.sub_self, Nat.add_sub_cancel, List.getElem?_cons_zero, List.getElem?_cons_succ, setAll, b_isi, b_lenL, b_lenT, b_lenS, b_lenO, b_all, b_any, b_tupL, b_tupT, b_lstL, b_lstT, b_strO, b_strI, b_strS, b_intI, b_intS, b_abs, b_min, b_max, b_sum, b_dvm, b_boolO, b_reprO, b_reprL, m_joinL, m_joinT, m_split, y_join, y_split, c_lt, c_le, c_gt, c_ge, c_is, c_isn, c_eq, c_ne, c_in, c_nin, i_str, i_tup, i_lst, t_bl, t_int, n_int, o_addI, o_addS, o_addT, o_addL, o_sub, o_mul, o_fdv, o_mod, o_pow, x_lst, x_tup, x_str, l_lst, l_tup, l_str, q_lst, q_tup, q_str, e_lst, e_tup, atI_zero, Option.some.injEq, exists_eq_left']
    refine is_name_ok hG H hm hs ?_
    simp only [exSs, exS, evR, evT, evS, evP, evAs, evO, evC, evI, evIF, evF, mkV, mkT, Rvd_v, Rvd_f, varW_z, varW_s, barW_z, barW_zo, barW_s, ex_bl, libW, isi_i, isi_s, isi_t, eqW_i, fzE, fzV, slotOf, bindTg, bindTgs, wip, startD, List.map_cons, List.map_nil, List.replicate, List.length_cons, List.length_nil, List.cons_append, List.nil_append, List.set_cons_zero, List.set_cons_succ, Nat.reduceAdd, Nat.reduceSub, Nat.sub_self, Nat.add_sub_cancel, List.getElem?_cons_zero, List.getElem?_cons_succ, setAll, b_isi, b_lenL, b_lenT, b_lenS, b_lenO, b_all, b_any, b_tupL, b_tupT, b_lstL, b_lstT, b_strO, b_strI, b_strS, b_intI, b_intS, b_abs, b_min, b_max, b_sum, b_dvm, b_boolO, b_reprO, b_reprL, m_joinL, m_joinT, m_split, y_join, y_split, c_lt, c_le, c_gt, c_ge, c_is, c_isn, c_eq, c_ne, c_in, c_nin, i_str, i_tup, i_lst, t_bl, t_int, n_int, o_addI, o_addS, o_addT, o_addL, o_sub, o_mul, o_fdv, o_mod, o_pow, x_lst, x_tup, x_str, l_lst, l_tup, l_str, q_lst, q_tup, q_str, e_lst, e_tup, if_true]
    have e : atI [D.str s, formD f] 1 = some (formD f) := rfl
    simp only [e, Option.some.injEq, exists_eq_left']
    exact is_form_ok hG H hm hf hn rfl
theorem is_branch_ok {k n : Nat} {s t : Str} {us ws : List (List Int)} (hs : nmS s = true) (ht : nmS t = true) (hu : us.length ≤ 3) (hw : ws.length = n) (h1 : ∀ f ∈ us, frm n f) (h2 : ∀ f ∈ ws, frm n f) (hn : n ≤ 100) {Q : Rv → Prop} {E : XP} (q : Q (.v (.bl true))) :
    CW G fs l (k + 4) "is_branch" [.tup [.str s, .str t, .tup (us.map formD), .tup (ws.map formD)], .int n] Q E := by
  have hB : G.B.Mono := by rw [hG]; exact libW_mono sub
  have e0 : atI [D.str s, D.str t, D.tup (us.map formD), D.tup (ws.map formD)] 0 = some (D.str s) := rfl
  have e1 : atI [D.str s, D.str t, D.tup (us.map formD), D.tup (ws.map formD)] 1 = some (D.str t) := rfl
  have e2 : atI [D.str s, D.str t, D.tup (us.map formD), D.tup (ws.map formD)] 2 = some (D.tup (us.map formD)) := rfl
  have e3 : atI [D.str s, D.str t, D.tup (us.map formD), D.tup (ws.map formD)] 3 = some (D.tup (ws.map formD)) := rfl
  refine cw_fn_mk H.f_is_branch rfl ?_
  refine ss_c (s_if hB (hm _) false ?_ (ss_n (ss_c (s_if hB (hm _) false ?_ (ss_n (ss_c (s_if hB (hm _) false ?_ (ss_n (ss_c (s_ret hB (hm _) (.v (.bl true)) ?_ q))))))))))
  · rw [hG]
    simp only [exSs, exS, evR, evT, evS, evP, evAs, evO, evC, evI, evIF, evF, mkV, mkT, Rvd_v, Rvd_f, varW_z, varW_s, barW_z, barW_zo, barW_s, ex_bl, libW, isi_i, isi_s, isi_t, eqW_i, fzE, fzV, slotOf, bindTg, bindTgs, wip, startD, List.map_cons, List.map_nil, List.replicate, List.length_cons, List.length_nil, List.cons_append, List.nil_append, List.set_cons_zero, List.set_cons_succ, Nat.reduceAdd, Nat.reduceSub, Nat.sub_self, Nat.add_sub_cancel, List.getElem?_cons_zero, List.getElem?_cons_succ, setAll, b_isi, b_lenL, b_lenT, b_lenS, b_lenO, b_all, b_any, b_tupL, b_tupT, b_lstL, b_lstT, b_strO, b_strI, b_strS, b_intI, b_intS, b_abs, b_min, b_max, b_sum, b_dvm, b_boolO, b_reprO, b_reprL, m_joinL, m_joinT, m_split, y_join, y_split, c_lt, c_le, c_gt, c_ge, c_is, c_isn, c_eq, c_ne, c_in, c_nin, i_str, i_tup, i_lst, t_bl, t_int, n_int, o_addI, o_addS, o_addT, o_addL, o_sub, o_mul, o_fdv, o_mod, o_pow, x_lst, x_tup, x_str, l_lst, l_tup, l_str, q_lst, q_tup, q_str, e_lst, e_tup, subT, e0, e1, Option.some.injEq, exists_eq_left']
    simp only [decide_true, Bool.true_or, Bool.not_true, Bool.false_eq_true, if_false]
    have e : decide ((0 + 1 + 1 + 1 + 1 : Nat) = (4 : Int)) = true := rfl
    refine iff_ ?_
    refine is_name_ok hG H hm hs ?_
    simp only [exSs, exS, evR, evT, evS, evP, evAs, evO, evC, evI, evIF, evF, mkV, mkT, Rvd_v, Rvd_f, varW_z, varW_s, barW_z, barW_zo, barW_s, ex_bl, libW, isi_i, isi_s, isi_t, eqW_i, fzE, fzV, slotOf, bindTg, bindTgs, wip, startD, List.map_cons, List.map_nil, List.replicate, List.length_cons, List.length_nil, List.cons_append, List.nil_append, List.set_cons_zero, List.set_cons_succ, Nat.reduceAdd, Nat.reduceSub, Nat.sub_self, Nat.add_sub_cancel, List.getElem?_cons_zero, List.getElem?_cons_succ, setAll, b_isi, b_lenL, b_lenT, b_lenS, b_lenO, b_all, b_any, b_tupL, b_tupT, b_lstL, b_lstT, b_strO, b_strI, b_strS, b_intI, b_intS, b_abs, b_min, b_max, b_sum, b_dvm, b_boolO, b_reprO, b_reprL, m_joinL, m_joinT, m_split, y_join, y_split, c_lt, c_le, c_gt, c_ge, c_is, c_isn, c_eq, c_ne, c_in, c_nin, i_str, i_tup, i_lst, t_bl, t_int, n_int, o_addI, o_addS, o_addT, o_addL, o_sub, o_mul, o_fdv, o_mod, o_pow, x_lst, x_tup, x_str, l_lst, l_tup, l_str, q_lst, q_tup, q_str, e_lst, e_tup, Bool.not_true, Bool.false_eq_true, if_false]
    refine is_name_ok hG H hm ht ?_
    simp only [exSs, exS, evR, evT, evS, evP, evAs, evO, evC, evI, evIF, evF, mkV, mkT, Rvd_v, Rvd_f, varW_z, varW_s, barW_z, barW_zo, barW_s, ex_bl, libW, isi_i, isi_s, isi_t, eqW_i, fzE, fzV, slotOf, bindTg, bindTgs, wip, startD, List.map_cons, List.map_nil, List.replicate, List.length_cons, List.length_nil, List.cons_append, List.nil_append, List.set_cons_zero, List.set_cons_succ, Nat.reduceAdd, Nat.reduceSub, Nat.sub_self, Nat.add_sub_cancel, List.getElem?_cons_zero, List.getElem?_cons_succ, setAll, b_isi, b_lenL, b_lenT, b_lenS, b_lenO, b_all, b_any, b_tupL, b_tupT, b_lstL, b_lstT, b_strO, b_strI, b_strS, b_intI, b_intS, b_abs, b_min, b_max, b_sum, b_dvm, b_boolO, b_reprO, b_reprL, m_joinL, m_joinT, m_split, y_join, y_split, c_lt, c_le, c_gt, c_ge, c_is, c_isn, c_eq, c_ne, c_in, c_nin, i_str, i_tup, i_lst, t_bl, t_int, n_int, o_addI, o_addS, o_addT, o_addL, o_sub, o_mul, o_fdv, o_mod, o_pow, x_lst, x_tup, x_str, l_lst, l_tup, l_str, q_lst, q_tup, q_str, e_lst, e_tup, Bool.not_true, Bool.false_eq_true, if_false]
  · rw [hG]
    simp only [exSs, exS, evR, evT, evS, evP, evAs, evO, evC, evI, evIF, evF, mkV, mkT, Rvd_v, Rvd_f, varW_z, varW_s, barW_z, barW_zo, barW_s, ex_bl, libW, isi_i, isi_s, isi_t, eqW_i, fzE, fzV, slotOf, bindTg, bindTgs, wip, startD, List.map_cons, List.map_nil, List.replicate, List.length_cons, List.length_nil, List.cons_append, List.nil_append, List.set_cons_zero, List.set_cons_succ, Nat.reduceAdd, Nat.reduceSub, Nat.sub_self, Nat.add_sub_cancel, List.getElem?_cons_zero, List.getElem?_cons_succ, setAll, b_isi, b_lenL, b_lenT, b_lenS, b_lenO, b_all, b_any, b_tupL, b_tupT, b_lstL, b_lstT, b_strO, b_strI, b_strS, b_intI, b_intS, b_abs, b_min, b_max, b_sum, b_dvm, b_boolO, b_reprO, b_reprL, m_joinL, m_joinT, m_split, y_join, y_split, c_lt, c_le, c_gt, c_ge, c_is, c_isn, c_eq, c_ne, c_in, c_nin, i_str, i_tup, i_lst, t_bl, t_int, n_int, o_addI, o_addS, o_addT, o_addL, o_sub, o_mul, o_fdv, o_mod, o_pow, x_lst, x_tup, x_str, l_lst, l_tup, l_str, q_lst, q_tup, q_str, e_lst, e_tup, subT, e2, e3, Option.some.injEq, exists_eq_left']
    simp
  · rw [hG]
    simp only [exSs, exS, evR, evT, evS, evP, evAs, evO, evC, evI, evIF, evF, mkV, mkT, Rvd_v, Rvd_f, varW_z, varW_s, barW_z, barW_zo, barW_s, ex_bl, libW, isi_i, isi_s, isi_t, eqW_i, fzE, fzV, slotOf, bindTg, bindTgs, wip, startD, List.map_cons, List.map_nil, List.replicate, List.length_cons, List.length_nil, List.cons_append, List.nil_append, List.set_cons_zero, List.set_cons_succ, Nat.reduceAdd, Nat.reduceSub, Nat.sub_self, Nat.add_sub_cancel, List.getElem?_cons_zero, List.getElem?_cons_succ, setAll, b_isi, b_lenL, b_lenT, b_lenS, b_lenO, b_all, b_any, b_tupL, b_tupT, b_lstL, b_lstT, b_strO, b_strI, b_strS, b_intI, b_intS, b_abs, b_min, b_max, b_sum, b_dvm, b_boolO, b_reprO, b_reprL, m_joinL, m_joinT, m_split, y_join, y_split, c_lt, c_le, c_gt, c_ge, c_is, c_isn, c_eq, c_ne, c_in, c_nin, i_str, i_tup, i_lst, t_bl, t_int, n_int, o_addI, o_addS, o_addT, o_addL, o_sub, o_mul, o_fdv, o_mod, o_pow, x_lst, x_tup, x_str, l_lst, l_tup, l_str, q_lst, q_tup, q_str, e_lst, e_tup, e2, e3, Option.some.injEq, exists_eq_left', List.length_map]
    have a1 : decide ((3 : Int) < us.length) = false := decide_eq_false (by omega)
    have a2 : decide ((ws.length : Int) = (n : Int)) = true := decide_eq_true (by omega)
    rw [a1, a2]
    simp
  · rw [hG]
    simp only [exSs, exS, evR, evT, evS, evP, evAs, evO, evC, evI, evIF, evF, mkV, mkT, Rvd_v, Rvd_f, varW_z, varW_s, barW_z, barW_zo, barW_s, ex_bl, libW, isi_i, isi_s, isi_t, eqW_i, fzE, fzV, slotOf, bindTg, bindTgs, wip, startD, List.map_cons, List.map_nil, List.replicate, List.length_cons, List.length_nil, List.cons_append, List.nil_append, List.set_cons_zero, List.set_cons_succ, Nat.reduceAdd, Nat.reduceSub, Nat.sub_self, Nat.add_sub_cancel, List.getElem?_cons_zero, List.getElem?_cons_succ, setAll, b_isi, b_lenL, b_lenT, b_lenS, b_lenO, b_all, b_any, b_tupL, b_tupT, b_lstL, b_lstT, b_strO, b_strI, b_strS, b_intI, b_intS, b_abs, b_min, b_max, b_sum, b_dvm, b_boolO, b_reprO, b_reprL, m_joinL, m_joinT, m_split, y_join, y_split, c_lt, c_le, c_gt, c_ge, c_is, c_isn, c_eq, c_ne, c_in, c_nin, i_str, i_tup, i_lst, t_bl, t_int, n_int, o_addI, o_addS, o_addT, o_addL, o_sub, o_mul, o_fdv, o_mod, o_pow, x_lst, x_tup, x_str, l_lst, l_tup, l_str, q_lst, q_tup, q_str, e_lst, e_tup, e2, e3, Option.some.injEq, exists_eq_left', List.append_nil, List.length_append, List.length_map]
    have hl : us.length + ws.length ≤ sizeLine := sl_le (by omega)
    refine ⟨hl, hl, ?_⟩
    rw [← List.map_append]
    refine fold_map (f := fun _ => D.bl true) _ _ (fun x hx acc K hk => ?_) ?_
    · obtain ⟨f, hf, rfl⟩ := List.mem_map.mp hx
      have hf2 : frm n f := by
        rcases List.mem_append.mp hf with z | z
        · exact h1 f z
        · exact h2 f z
      simp only [if_true]
      refine is_form_ok hG H hm hf2 hn ?_
      exact hk
    · simp only [exSs, exS, evR, evT, evS, evP, evAs, evO, evC, evI, evIF, evF, mkV, mkT, Rvd_v, Rvd_f, varW_z, varW_s, barW_z, barW_zo, barW_s, ex_bl, libW, isi_i, isi_s, isi_t, eqW_i, fzE, fzV, slotOf, bindTg, bindTgs, wip, startD, List.map_cons, List.map_nil, List.replicate, List.length_cons, List.length_nil, List.cons_append, List.nil_append, List.set_cons_zero, List.set_cons_succ, Nat.reduceAdd, Nat.reduceSub, Nat.sub_self, Nat.add_sub_cancel, List.getElem?_cons_zero, List.getElem?_cons_succ, setAll, b_isi, b_lenL, b_lenT, b_lenS, b_lenO, b_all, b_any, b_tupL, b_tupT, b_lstL, b_lstT, b_strO, b_strI, b_strS, b_intI, b_intS, b_abs, b_min, b_max, b_sum, b_dvm, b_boolO, b_reprO, b_reprL, m_joinL, m_joinT, m_split, y_join, y_split, c_lt, c_le, c_gt, c_ge, c_is, c_isn, c_eq, c_ne, c_in, c_nin, i_str, i_tup, i_lst, t_bl, t_int, n_int, o_addI, o_addS, o_addT, o_addL, o_sub, o_mul, o_fdv, o_mod, o_pow, x_lst, x_tup, x_str, l_lst, l_tup, l_str, q_lst, q_tup, q_str, e_lst, e_tup, List.map_map]
      exact ⟨_, unBl_map (f := fun _ => true) _, by simp⟩
/-! ### rows that are judged -/
theorem wrong_name_ok {k : Nat} {ns : List Str} (h1 : ns ≠ []) (h2 : ns.length ≤ 3) (h3 : ∀ s ∈ ns, nmS s = true) (h4 : ns.Nodup) {Q : Rv → Prop} {E : XP} (q : Q (.v .non)) : CW G fs l (k + 2) "wrong_name" [.tup (ns.map D.str)] Q E := by
  have hB : G.B.Mono := by rw [hG]; exact libW_mono sub
  have h0 : ns.length ≠ 0 := fun e => h1 (List.length_eq_zero_iff.mp e)
  refine cw_fn_mk H.f_wrong_name rfl ?_
  refine ss_c (s_if hB (hm _) false ?_ (ss_n (ss_c ?_)))
  · rw [hG]
    simp only [exSs, exS, evR, evT, evS, evP, evAs, evO, evC, evI, evIF, evF, mkV, mkT, Rvd_v, Rvd_f, varW_z, varW_s, barW_z, barW_zo, barW_s, ex_bl, libW, isi_i, isi_s, isi_t, eqW_i, fzE, fzV, slotOf, bindTg, bindTgs, wip, startD, List.map_cons, List.map_nil, List.replicate, List.length_cons, List.length_nil, List.cons_append, List.nil_append, List.set_cons_zero, List.set_cons_succ, Nat.reduceAdd, Nat.reduceSub, Nat.sub_self, Nat.add_sub_cancel, List.getElem?_cons_zero, List.getElem?_cons_succ, setAll, b_isi, b_lenL, b_lenT, b_lenS, b_lenO, b_all, b_any, b_tupL, b_tupT, b_lstL, b_lstT, b_strO, b_strI, b_strS, b_intI, b_intS, b_abs, b_min, b_max, b_sum, b_dvm, b_boolO, b_reprO, b_reprL, m_joinL, m_joinT, m_split, y_join, y_split, c_lt, c_le, c_gt, c_ge, c_is, c_isn, c_eq, c_ne, c_in, c_nin, i_str, i_tup, i_lst, t_bl, t_int, n_int, o_addI, o_addS, o_addT, o_addL, o_sub, o_mul, o_fdv, o_mod, o_pow, x_lst, x_tup, x_str, l_lst, l_tup, l_str, q_lst, q_tup, q_str, e_lst, e_tup, subT, List.length_map]
    have e : decide ((ns.length : Int) = 0) = false := decide_eq_false (by omega)
    rw [e]
    simp
  · unfold exS
    rw [hG]
    simp only [exSs, exS, evR, evT, evS, evP, evAs, evO, evC, evI, evIF, evF, mkV, mkT, Rvd_v, Rvd_f, varW_z, varW_s, barW_z, barW_zo, barW_s, ex_bl, libW, isi_i, isi_s, isi_t, eqW_i, fzE, fzV, slotOf, bindTg, bindTgs, wip, startD, List.map_cons, List.map_nil, List.replicate, List.length_cons, List.length_nil, List.cons_append, List.nil_append, List.set_cons_zero, List.set_cons_succ, Nat.reduceAdd, Nat.reduceSub, Nat.sub_self, Nat.add_sub_cancel, List.getElem?_cons_zero, List.getElem?_cons_succ, setAll, b_isi, b_lenL, b_lenT, b_lenS, b_lenO, b_all, b_any, b_tupL, b_tupT, b_lstL, b_lstT, b_strO, b_strI, b_strS, b_intI, b_intS, b_abs, b_min, b_max, b_sum, b_dvm, b_boolO, b_reprO, b_reprL, m_joinL, m_joinT, m_split, y_join, y_split, c_lt, c_le, c_gt, c_ge, c_is, c_isn, c_eq, c_ne, c_in, c_nin, i_str, i_tup, i_lst, t_bl, t_int, n_int, o_addI, o_addS, o_addT, o_addL, o_sub, o_mul, o_fdv, o_mod, o_pow, x_lst, x_tup, x_str, l_lst, l_tup, l_str, q_lst, q_tup, q_str, e_lst, e_tup]
    refine for_inv (fun i r => ∃ a b, r = [some (.val (.tup (ns.map D.str))), a, b]) ⟨_, _, rfl⟩ (fun i x r hx hp K hk => ?_) fun r _ => ?_
    · obtain ⟨a, b, rfl⟩ := hp
      obtain ⟨y, hy, rfl⟩ := enum_at hx
      rw [List.getElem?_map] at hy
      obtain ⟨s, hs, rfl⟩ := Option.map_eq_some_iff.mp hy
      have hsm := List.mem_of_getElem? hs
      have hi : i < ns.length := by
        rcases Nat.lt_or_ge i ns.length with z | z
        · exact z
        · rw [List.getElem?_eq_none z] at hs; cases hs
      refine ⟨_, rfl, ?_⟩
      simp only [exSs, exS, evR, evT, evS, evP, evAs, evO, evC, evI, evIF, evF, mkV, mkT, Rvd_v, Rvd_f, varW_z, varW_s, barW_z, barW_zo, barW_s, ex_bl, libW, isi_i, isi_s, isi_t, eqW_i, fzE, fzV, slotOf, bindTg, bindTgs, wip, startD, List.map_cons, List.map_nil, List.replicate, List.length_cons, List.length_nil, List.cons_append, List.nil_append, List.set_cons_zero, List.set_cons_succ, Nat.reduceAdd, Nat.reduceSub, Nat.sub_self, Nat.add_sub_cancel, List.getElem?_cons_zero, List.getElem?_cons_succ, setAll, b_isi, b_lenL, b_lenT, b_lenS, b_lenO, b_all, b_any, b_tupL, b_tupT, b_lstL, b_lstT, b_strO, b_strI, b_strS, b_intI, b_intS, b_abs, b_min, b_max, b_sum, b_dvm, b_boolO, b_reprO, b_reprL, m_joinL, m_joinT, m_split, y_join, y_split, c_lt, c_le, c_gt, c_ge, c_is, c_isn, c_eq, c_ne, c_in, c_nin, i_str, i_tup, i_lst, t_bl, t_int, n_int, o_addI, o_addS, o_addT, o_addL, o_sub, o_mul, o_fdv, o_mod, o_pow, x_lst, x_tup, x_str, l_lst, l_tup, l_str, q_lst, q_tup, q_str, e_lst, e_tup]
      refine ⟨_, _, rfl, _, _, rfl, rfl, ?_⟩
      have e : decide ((i : Int) = 3) = false := decide_eq_false (by omega)
      rw [eqW_i, e]
      refine iff_ ?_
      refine is_name_ok hG H hm (h3 s hsm) ?_
      simp only [exSs, exS, evR, evT, evS, evP, evAs, evO, evC, evI, evIF, evF, mkV, mkT, Rvd_v, Rvd_f, varW_z, varW_s, barW_z, barW_zo, barW_s, ex_bl, libW, isi_i, isi_s, isi_t, eqW_i, fzE, fzV, slotOf, bindTg, bindTgs, wip, startD, List.map_cons, List.map_nil, List.replicate, List.length_cons, List.length_nil, List.cons_append, List.nil_append, List.set_cons_zero, List.set_cons_succ, Nat.reduceAdd, Nat.reduceSub, Nat.sub_self, Nat.add_sub_cancel, List.getElem?_cons_zero, List.getElem?_cons_succ, setAll, b_isi, b_lenL, b_lenT, b_lenS, b_lenO, b_all, b_any, b_tupL, b_tupT, b_lstL, b_lstT, b_strO, b_strI, b_strS, b_intI, b_intS, b_abs, b_min, b_max, b_sum, b_dvm, b_boolO, b_reprO, b_reprL, m_joinL, m_joinT, m_split, y_join, y_split, c_lt, c_le, c_gt, c_ge, c_is, c_isn, c_eq, c_ne, c_in, c_nin, i_str, i_tup, i_lst, t_bl, t_int, n_int, o_addI, o_addS, o_addT, o_addL, o_sub, o_mul, o_fdv, o_mod, o_pow, x_lst, x_tup, x_str, l_lst, l_tup, l_str, q_lst, q_tup, q_str, e_lst, e_tup, Bool.not_true, Bool.false_eq_true, if_false]
      refine ⟨_, rfl, rfl, ?_⟩
      rw [cut_take, ← List.map_take]
      refine ⟨strs_flat _, ?_⟩
      rw [strs_any]
      have e2 : decide (s ∈ ns.take i) = false := decide_eq_false fun hin => by
        obtain ⟨j, hj, ej⟩ := List.mem_iff_getElem.mp hin
        simp only [List.length_take] at hj
        have h5 : ns[j]? = ns[i]? := by
          rw [hs, ← ej, List.getElem_take]
          exact List.getElem?_eq_getElem (by omega)
        have := (List.getElem?_inj (by omega) h4).mp h5
        omega
      rw [e2]
      refine iff_ ?_
      exact hk _ ⟨_, _, rfl⟩
    · exact q
theorem wrong_saying_ok {k n : Nat} {ss : List (Str × List Int)} (h2 : ss.length ≤ 3) (h3 : ∀ s ∈ ss, nmS s.1 = true ∧ frm n s.2) (hn : n ≤ 100) {Q : Rv → Prop} {E : XP} (q : Q (.v .non)) : CW G fs l (k + 5) "wrong_saying" [.tup (ss.map fun s => .tup [.str s.1, formD s.2]), .int n] Q E := by
  have hB : G.B.Mono := by rw [hG]; exact libW_mono sub
  refine cw_fn_mk H.f_wrong_saying rfl ?_
  refine ss_c (s_if hB (hm _) false ?_ (ss_n (ss_c ?_)))
  · rw [hG]
    simp only [exSs, exS, evR, evT, evS, evP, evAs, evO, evC, evI, evIF, evF, mkV, mkT, Rvd_v, Rvd_f, varW_z, varW_s, barW_z, barW_zo, barW_s, ex_bl, libW, isi_i, isi_s, isi_t, eqW_i, fzE, fzV, slotOf, bindTg, bindTgs, wip, startD, List.map_cons, List.map_nil, List.replicate, List.length_cons, List.length_nil, List.cons_append, List.nil_append, List.set_cons_zero, List.set_cons_succ, Nat.reduceAdd, Nat.reduceSub, Nat.sub_self, Nat.add_sub_cancel, List.getElem?_cons_zero, List.getElem?_cons_succ, setAll, b_isi, b_lenL, b_lenT, b_lenS, b_lenO, b_all, b_any, b_tupL, b_tupT, b_lstL, b_lstT, b_strO, b_strI, b_strS, b_intI, b_intS, b_abs, b_min, b_max, b_sum, b_dvm, b_boolO, b_reprO, b_reprL, m_joinL, m_joinT, m_split, y_join, y_split, c_lt, c_le, c_gt, c_ge, c_is, c_isn, c_eq, c_ne, c_in, c_nin, i_str, i_tup, i_lst, t_bl, t_int, n_int, o_addI, o_addS, o_addT, o_addL, o_sub, o_mul, o_fdv, o_mod, o_pow, x_lst, x_tup, x_str, l_lst, l_tup, l_str, q_lst, q_tup, q_str, e_lst, e_tup, subT]
    rfl
  · unfold exS
    rw [hG]
    simp only [exSs, exS, evR, evT, evS, evP, evAs, evO, evC, evI, evIF, evF, mkV, mkT, Rvd_v, Rvd_f, varW_z, varW_s, barW_z, barW_zo, barW_s, ex_bl, libW, isi_i, isi_s, isi_t, eqW_i, fzE, fzV, slotOf, bindTg, bindTgs, wip, startD, List.map_cons, List.map_nil, List.replicate, List.length_cons, List.length_nil, List.cons_append, List.nil_append, List.set_cons_zero, List.set_cons_succ, Nat.reduceAdd, Nat.reduceSub, Nat.sub_self, Nat.add_sub_cancel, List.getElem?_cons_zero, List.getElem?_cons_succ, setAll, b_isi, b_lenL, b_lenT, b_lenS, b_lenO, b_all, b_any, b_tupL, b_tupT, b_lstL, b_lstT, b_strO, b_strI, b_strS, b_intI, b_intS, b_abs, b_min, b_max, b_sum, b_dvm, b_boolO, b_reprO, b_reprL, m_joinL, m_joinT, m_split, y_join, y_split, c_lt, c_le, c_gt, c_ge, c_is, c_isn, c_eq, c_ne, c_in, c_nin, i_str, i_tup, i_lst, t_bl, t_int, n_int, o_addI, o_addS, o_addT, o_addL, o_sub, o_mul, o_fdv, o_mod, o_pow, x_lst, x_tup, x_str, l_lst, l_tup, l_str, q_lst, q_tup, q_str, e_lst, e_tup]
    refine for_inv (fun i r => ∃ a b, r = [some (.val (.tup (ss.map fun s => .tup [.str s.1, formD s.2]))), some (.val (.int n)), a, b]) ⟨_, _, rfl⟩ (fun i x r hx hp K hk => ?_) fun r _ => ?_
    · obtain ⟨a, b, rfl⟩ := hp
      obtain ⟨y, hy, rfl⟩ := enum_at hx
      rw [List.getElem?_map] at hy
      obtain ⟨s, hs, rfl⟩ := Option.map_eq_some_iff.mp hy
      have hsm := List.mem_of_getElem? hs
      have hi : i < ss.length := by
        rcases Nat.lt_or_ge i ss.length with z | z
        · exact z
        · rw [List.getElem?_eq_none z] at hs; cases hs
      refine ⟨_, rfl, ?_⟩
      simp only [exSs, exS, evR, evT, evS, evP, evAs, evO, evC, evI, evIF, evF, mkV, mkT, Rvd_v, Rvd_f, varW_z, varW_s, barW_z, barW_zo, barW_s, ex_bl, libW, isi_i, isi_s, isi_t, eqW_i, fzE, fzV, slotOf, bindTg, bindTgs, wip, startD, List.map_cons, List.map_nil, List.replicate, List.length_cons, List.length_nil, List.cons_append, List.nil_append, List.set_cons_zero, List.set_cons_succ, Nat.reduceAdd, Nat.reduceSub, Nat.sub_self, Nat.add_sub_cancel, List.getElem?_cons_zero, List.getElem?_cons_succ, setAll, b_isi, b_lenL, b_lenT, b_lenS, b_lenO, b_all, b_any, b_tupL, b_tupT, b_lstL, b_lstT, b_strO, b_strI, b_strS, b_intI, b_intS, b_abs, b_min, b_max, b_sum, b_dvm, b_boolO, b_reprO, b_reprL, m_joinL, m_joinT, m_split, y_join, y_split, c_lt, c_le, c_gt, c_ge, c_is, c_isn, c_eq, c_ne, c_in, c_nin, i_str, i_tup, i_lst, t_bl, t_int, n_int, o_addI, o_addS, o_addT, o_addL, o_sub, o_mul, o_fdv, o_mod, o_pow, x_lst, x_tup, x_str, l_lst, l_tup, l_str, q_lst, q_tup, q_str, e_lst, e_tup]
      refine ⟨_, _, rfl, _, _, rfl, rfl, ?_⟩
      have e : decide ((i : Int) = 3) = false := decide_eq_false (by omega)
      rw [eqW_i, e]
      refine iff_ ?_
      refine is_saying_ok hG H hm (h3 s hsm).1 (h3 s hsm).2 hn ?_
      simp only [exSs, exS, evR, evT, evS, evP, evAs, evO, evC, evI, evIF, evF, mkV, mkT, Rvd_v, Rvd_f, varW_z, varW_s, barW_z, barW_zo, barW_s, ex_bl, libW, isi_i, isi_s, isi_t, eqW_i, fzE, fzV, slotOf, bindTg, bindTgs, wip, startD, List.map_cons, List.map_nil, List.replicate, List.length_cons, List.length_nil, List.cons_append, List.nil_append, List.set_cons_zero, List.set_cons_succ, Nat.reduceAdd, Nat.reduceSub, Nat.sub_self, Nat.add_sub_cancel, List.getElem?_cons_zero, List.getElem?_cons_succ, setAll, b_isi, b_lenL, b_lenT, b_lenS, b_lenO, b_all, b_any, b_tupL, b_tupT, b_lstL, b_lstT, b_strO, b_strI, b_strS, b_intI, b_intS, b_abs, b_min, b_max, b_sum, b_dvm, b_boolO, b_reprO, b_reprL, m_joinL, m_joinT, m_split, y_join, y_split, c_lt, c_le, c_gt, c_ge, c_is, c_isn, c_eq, c_ne, c_in, c_nin, i_str, i_tup, i_lst, t_bl, t_int, n_int, o_addI, o_addS, o_addT, o_addL, o_sub, o_mul, o_fdv, o_mod, o_pow, x_lst, x_tup, x_str, l_lst, l_tup, l_str, q_lst, q_tup, q_str, e_lst, e_tup, Bool.not_true, Bool.false_eq_true, if_false]
      exact hk _ ⟨_, _, rfl⟩
    · exact q
end
end En
namespace En
open PySem L2 PyProof.Rows TL
/-! ### places -/
abbrev Say := Str × List Int
abbrev Arm := Str × Str × List (List Int) × List (List Int)
def sayD (s : Say) : D := .tup [.str s.1, formD s.2]
def armD (a : Arm) : D := .tup [.str a.1, .str a.2.1, .tup (a.2.2.1.map formD), .tup (a.2.2.2.map formD)]
def spots (ss : List Say) (as : List Arm) : List Str := ss.map (·.1) ++ as.flatMap fun a => [a.1, a.2.1]
def plcGo : List Str → List Str → List Str
  | acc, [] => acc
  | acc, x :: xs => plcGo (if x ∈ acc then acc else acc ++ [x]) xs
def plc (xs : List Str) : List Str := plcGo [] xs
theorem plcGo_app : ∀ (xs : List Str) (acc : List Str) (y : Str), plcGo acc (xs ++ [y]) = if y ∈ plcGo acc xs then plcGo acc xs else plcGo acc xs ++ [y]
  | [], acc, y => rfl
  | x :: xs, acc, y => by
    show plcGo _ (xs ++ [y]) = _
    rw [plcGo_app xs]
    rfl
theorem plcGo_mem : ∀ (xs : List Str) (acc : List Str) (y : Str), y ∈ plcGo acc xs ↔ y ∈ acc ∨ y ∈ xs
  | [], acc, y => by simp [plcGo]
  | x :: xs, acc, y => by
    show y ∈ plcGo _ xs ↔ _
    rw [plcGo_mem xs]
    by_cases h : x ∈ acc
    · rw [if_pos h]
      constructor
      · rintro (z | z)
        · exact .inl z
        · exact .inr (List.mem_cons_of_mem _ z)
      · rintro (z | z)
        · exact .inl z
        · rcases List.mem_cons.mp z with e | e
          · rw [e]; exact .inl h
          · exact .inr e
    · rw [if_neg h]
      rw [List.mem_append, List.mem_singleton, List.mem_cons, or_assoc]
/-- one that stands for the first time -/
def fst1 (xs : List Str) : D → Bool
  | .tup [.int i, .str s] => !decide (s ∈ xs.take i.toNat)
  | _ => false
def snd1 : D → D
  | .tup [_, y] => y
  | _ => .non
theorem plc_enum (xs : List Str) : ((enumD (xs.map D.str)).filter (fst1 xs)).map snd1 = (plc xs).map D.str := by
  have go : ∀ k, k ≤ xs.length → (((List.range k).map fun i => D.tup [.int (i : Nat), ((xs.map D.str).getD i .non)]).filter (fst1 xs)).map snd1 = (plcGo [] (xs.take k)).map D.str := by
    intro k
    induction k with
    | zero => intro _; rfl
    | succ k ih =>
      intro hk
      have hk' : k < xs.length := hk
      rw [List.range_succ, List.map_append, List.filter_append, List.map_append, ih (by omega), List.take_succ, List.getElem?_eq_getElem hk']
      show _ = (plcGo [] (xs.take k ++ [xs[k]])).map D.str
      rw [plcGo_app]
      have e1 : (xs.map D.str).getD k .non = D.str xs[k] := by
        rw [List.getD_eq_getElem?_getD, List.getElem?_map, List.getElem?_eq_getElem hk']
        rfl
      rw [List.map_cons, List.map_nil, e1]
      have e2 : fst1 xs (.tup [.int (k : Nat), .str xs[k]]) = !decide (xs[k] ∈ xs.take k) := rfl
      have e3 : (xs[k] ∈ plcGo [] (xs.take k)) ↔ xs[k] ∈ xs.take k := by rw [plcGo_mem]; simp
      by_cases h : xs[k] ∈ xs.take k
      · rw [if_pos (e3.mpr h), List.filter_cons, e2, decide_eq_true h]
        simp
      · rw [if_neg (fun z => h (e3.mp z)), List.filter_cons, e2, decide_eq_false h]
        simp [snd1]
  have := go xs.length (Nat.le_refl _)
  rw [List.take_length] at this
  unfold enumD
  rw [List.length_map]
  exact this
theorem spots_len (ss : List Say) (as : List Arm) : (spots ss as).length = ss.length + 2 * as.length := by
  unfold spots
  rw [List.length_append, List.length_map]
  congr 1
  induction as with
  | nil => rfl
  | cons a as ih => rw [List.flatMap_cons, List.length_append, ih]; simp; omega
section
variable {sub : Sub} {fs : List (Str × Fn)} {l : List (Str × Prim)} {G : Cfg} (hG : G.B = libW sub) (H : PfH fs) (hm : ∀ k, MonoC (CW G fs l k))
include hG H hm
theorem places_in_ok {k : Nat} {ss : List Say} {as : List Arm} (h1 : ss.length ≤ 1000) (h2 : as.length ≤ 1000) {Q : Rv → Prop} {E : XP} (q : Q (.v (.tup ((plc (spots ss as)).map D.str)))) : CW G fs l (k + 1) "places_in" [.tup (ss.map sayD), .tup (as.map armD)] Q E := by
  have hB : G.B.Mono := by rw [hG]; exact libW_mono sub
  refine cw_fn_mk H.f_places_in rfl ?_
  refine ss_c (s_own hB (hm _) (.fr []) ?_ ?_)
  · rw [hG]
    simp only [exSs, exS, evR, evT, evS, evP, evAs, evO, evC, evI, evIF, evF, mkV, mkT, Rvd_v, Rvd_f, varW_z, varW_s, barW_z, barW_zo, barW_s, ex_bl, libW, isi_i, isi_s, isi_t, eqW_i, fzE, fzV, slotOf, bindTg, bindTgs, wip, startD, List.map_cons, List.map_nil, List.replicate, List.length_cons, List.length_nil, List.cons_append, List.nil_append, List.set_cons_zero, List.set_cons_succ, Nat.reduceAdd, Nat.reduceSub, Nat.sub_self, Nat.add_sub_cancel, List.getElem?_cons_zero, List.getElem?_cons_succ, setAll, b_isi, b_lenL, b_lenT, b_lenS, b_lenO, b_all, b_any, b_tupL, b_tupT, b_lstL, b_lstT, b_strO, b_strI, b_strS, b_intI, b_intS, b_abs, b_min, b_max, b_sum, b_dvm, b_boolO, b_reprO, b_reprL, m_joinL, m_joinT, m_split, y_join, y_split, c_lt, c_le, c_gt, c_ge, c_is, c_isn, c_eq, c_ne, c_in, c_nin, i_str, i_tup, i_lst, t_bl, t_int, n_int, o_addI, o_addS, o_addT, o_addL, o_sub, o_mul, o_fdv, o_mod, o_pow, x_lst, x_tup, x_str, l_lst, l_tup, l_str, q_lst, q_tup, q_str, e_lst, e_tup]
    exact ⟨sl_le (by omega), trivial⟩
  refine ss_c ?_
  unfold exS
  rw [hG]
  simp only [exSs, exS, evR, evT, evS, evP, evAs, evO, evC, evI, evIF, evF, mkV, mkT, Rvd_v, Rvd_f, varW_z, varW_s, barW_z, barW_zo, barW_s, ex_bl, libW, isi_i, isi_s, isi_t, eqW_i, fzE, fzV, slotOf, bindTg, bindTgs, wip, startD, List.map_cons, List.map_nil, List.replicate, List.length_cons, List.length_nil, List.cons_append, List.nil_append, List.set_cons_zero, List.set_cons_succ, Nat.reduceAdd, Nat.reduceSub, Nat.sub_self, Nat.add_sub_cancel, List.getElem?_cons_zero, List.getElem?_cons_succ, setAll, b_isi, b_lenL, b_lenT, b_lenS, b_lenO, b_all, b_any, b_tupL, b_tupT, b_lstL, b_lstT, b_strO, b_strI, b_strS, b_intI, b_intS, b_abs, b_min, b_max, b_sum, b_dvm, b_boolO, b_reprO, b_reprL, m_joinL, m_joinT, m_split, y_join, y_split, c_lt, c_le, c_gt, c_ge, c_is, c_isn, c_eq, c_ne, c_in, c_nin, i_str, i_tup, i_lst, t_bl, t_int, n_int, o_addI, o_addS, o_addT, o_addL, o_sub, o_mul, o_fdv, o_mod, o_pow, x_lst, x_tup, x_str, l_lst, l_tup, l_str, q_lst, q_tup, q_str, e_lst, e_tup]
  refine for_inv (fun i r => ∃ a b c d e f g, r = [some (.val (.tup (ss.map sayD))), some (.val (.tup (as.map armD))), some (.own ((ss.take i).map fun s => D.str s.1) none), a, b, c, d, e, f, g]) ⟨_, _, _, _, _, _, _, rfl⟩ (fun i x r hx hp K hk => ?_) fun r hp => ?_
  · obtain ⟨a, b, c, d, e, f, g, rfl⟩ := hp
    rw [List.getElem?_map] at hx
    obtain ⟨s, hs, rfl⟩ := Option.map_eq_some_iff.mp hx
    have hi : i < ss.length := by
      rcases Nat.lt_or_ge i ss.length with z | z
      · exact z
      · rw [List.getElem?_eq_none z] at hs; cases hs
    refine ⟨_, rfl, ?_⟩
    simp only [exSs, exS, evR, evT, evS, evP, evAs, evO, evC, evI, evIF, evF, mkV, mkT, Rvd_v, Rvd_f, varW_z, varW_s, barW_z, barW_zo, barW_s, ex_bl, libW, isi_i, isi_s, isi_t, eqW_i, fzE, fzV, slotOf, bindTg, bindTgs, wip, startD, List.map_cons, List.map_nil, List.replicate, List.length_cons, List.length_nil, List.cons_append, List.nil_append, List.set_cons_zero, List.set_cons_succ, Nat.reduceAdd, Nat.reduceSub, Nat.sub_self, Nat.add_sub_cancel, List.getElem?_cons_zero, List.getElem?_cons_succ, setAll, b_isi, b_lenL, b_lenT, b_lenS, b_lenO, b_all, b_any, b_tupL, b_tupT, b_lstL, b_lstT, b_strO, b_strI, b_strS, b_intI, b_intS, b_abs, b_min, b_max, b_sum, b_dvm, b_boolO, b_reprO, b_reprL, m_joinL, m_joinT, m_split, y_join, y_split, c_lt, c_le, c_gt, c_ge, c_is, c_isn, c_eq, c_ne, c_in, c_nin, i_str, i_tup, i_lst, t_bl, t_int, n_int, o_addI, o_addS, o_addT, o_addL, o_sub, o_mul, o_fdv, o_mod, o_pow, x_lst, x_tup, x_str, l_lst, l_tup, l_str, q_lst, q_tup, q_str, e_lst, e_tup]
    refine ⟨_, _, rfl, _, _, rfl, rfl, _, _, rfl, ?_, ?_⟩
    · rw [List.length_map, List.length_take, sizeLine_eq]
      omega
    · have e : (ss.take (i + 1)).map (fun s => D.str s.1) = (ss.take i).map (fun s => D.str s.1) ++ [.str s.1] := by
        rw [List.take_succ, hs]
        simp
      rw [e] at hk
      exact hk _ ⟨_, _, _, _, _, _, _, rfl⟩
  · obtain ⟨a, b, c, d, e, f, g, rfl⟩ := hp
    rw [List.length_map, List.take_length]
    simp only [exSs, exS, evR, evT, evS, evP, evAs, evO, evC, evI, evIF, evF, mkV, mkT, Rvd_v, Rvd_f, varW_z, varW_s, barW_z, barW_zo, barW_s, ex_bl, libW, isi_i, isi_s, isi_t, eqW_i, fzE, fzV, slotOf, bindTg, bindTgs, wip, startD, List.map_cons, List.map_nil, List.replicate, List.length_cons, List.length_nil, List.cons_append, List.nil_append, List.set_cons_zero, List.set_cons_succ, Nat.reduceAdd, Nat.reduceSub, Nat.sub_self, Nat.add_sub_cancel, List.getElem?_cons_zero, List.getElem?_cons_succ, setAll, b_isi, b_lenL, b_lenT, b_lenS, b_lenO, b_all, b_any, b_tupL, b_tupT, b_lstL, b_lstT, b_strO, b_strI, b_strS, b_intI, b_intS, b_abs, b_min, b_max, b_sum, b_dvm, b_boolO, b_reprO, b_reprL, m_joinL, m_joinT, m_split, y_join, y_split, c_lt, c_le, c_gt, c_ge, c_is, c_isn, c_eq, c_ne, c_in, c_nin, i_str, i_tup, i_lst, t_bl, t_int, n_int, o_addI, o_addS, o_addT, o_addL, o_sub, o_mul, o_fdv, o_mod, o_pow, x_lst, x_tup, x_str, l_lst, l_tup, l_str, q_lst, q_tup, q_str, e_lst, e_tup]
    have e0 : (ss.map fun s => D.str s.1) = (spots ss (as.take 0)).map D.str := by simp [spots]
    rw [e0]
    refine for_inv (fun i r => ∃ a b c d e f g, r = [some (.val (.tup (ss.map sayD))), some (.val (.tup (as.map armD))), some (.own ((spots ss (as.take i)).map D.str) none), a, b, c, d, e, f, g]) ⟨_, _, _, _, _, _, _, rfl⟩ (fun i x r hx hp K hk => ?_) fun r hp => ?_
    · obtain ⟨a, b, c, d, e, f, g, rfl⟩ := hp
      rw [List.getElem?_map] at hx
      obtain ⟨s, hs, rfl⟩ := Option.map_eq_some_iff.mp hx
      have hi : i < as.length := by
        rcases Nat.lt_or_ge i as.length with z | z
        · exact z
        · rw [List.getElem?_eq_none z] at hs; cases hs
      refine ⟨_, rfl, ?_⟩
      simp only [exSs, exS, evR, evT, evS, evP, evAs, evO, evC, evI, evIF, evF, mkV, mkT, Rvd_v, Rvd_f, varW_z, varW_s, barW_z, barW_zo, barW_s, ex_bl, libW, isi_i, isi_s, isi_t, eqW_i, fzE, fzV, slotOf, bindTg, bindTgs, wip, startD, List.map_cons, List.map_nil, List.replicate, List.length_cons, List.length_nil, List.cons_append, List.nil_append, List.set_cons_zero, List.set_cons_succ, Nat.reduceAdd, Nat.reduceSub, Nat.sub_self, Nat.add_sub_cancel, List.getElem?_cons_zero, List.getElem?_cons_succ, setAll, b_isi, b_lenL, b_lenT, b_lenS, b_lenO, b_all, b_any, b_tupL, b_tupT, b_lstL, b_lstT, b_strO, b_strI, b_strS, b_intI, b_intS, b_abs, b_min, b_max, b_sum, b_dvm, b_boolO, b_reprO, b_reprL, m_joinL, m_joinT, m_split, y_join, y_split, c_lt, c_le, c_gt, c_ge, c_is, c_isn, c_eq, c_ne, c_in, c_nin, i_str, i_tup, i_lst, t_bl, t_int, n_int, o_addI, o_addS, o_addT, o_addL, o_sub, o_mul, o_fdv, o_mod, o_pow, x_lst, x_tup, x_str, l_lst, l_tup, l_str, q_lst, q_tup, q_str, e_lst, e_tup]
      refine ⟨_, _, rfl, _, _, rfl, _, _, rfl, _, _, rfl, rfl, _, _, rfl, sl_le (by omega), _, rfl, ?_, ?_⟩
      · have := spots_len ss (as.take i)
        rw [List.length_map, this, List.length_take]
        exact sl_le (by simp; omega)
      · have e : (spots ss (as.take (i + 1))).map D.str = (spots ss (as.take i)).map D.str ++ [.str s.1, .str s.2.1] := by
          rw [List.take_succ, hs]
          simp [spots]
        rw [e] at hk
        exact hk _ ⟨_, _, _, _, _, _, _, rfl⟩
    · obtain ⟨a, b, c, d, e, f, g, rfl⟩ := hp
      rw [List.length_map, List.take_length]
      simp only [exSs, exS, evR, evT, evS, evP, evAs, evO, evC, evI, evIF, evF, mkV, mkT, Rvd_v, Rvd_f, varW_z, varW_s, barW_z, barW_zo, barW_s, ex_bl, libW, isi_i, isi_s, isi_t, eqW_i, fzE, fzV, slotOf, bindTg, bindTgs, wip, startD, List.map_cons, List.map_nil, List.replicate, List.length_cons, List.length_nil, List.cons_append, List.nil_append, List.set_cons_zero, List.set_cons_succ, Nat.reduceAdd, Nat.reduceSub, Nat.sub_self, Nat.add_sub_cancel, List.getElem?_cons_zero, List.getElem?_cons_succ, setAll, b_isi, b_lenL, b_lenT, b_lenS, b_lenO, b_all, b_any, b_tupL, b_tupT, b_lstL, b_lstT, b_strO, b_strI, b_strS, b_intI, b_intS, b_abs, b_min, b_max, b_sum, b_dvm, b_boolO, b_reprO, b_reprL, m_joinL, m_joinT, m_split, y_join, y_split, c_lt, c_le, c_gt, c_ge, c_is, c_isn, c_eq, c_ne, c_in, c_nin, i_str, i_tup, i_lst, t_bl, t_int, n_int, o_addI, o_addS, o_addT, o_addL, o_sub, o_mul, o_fdv, o_mod, o_pow, x_lst, x_tup, x_str, l_lst, l_tup, l_str, q_lst, q_tup, q_str, e_lst, e_tup]
      rw [enumD_len, List.length_map]
      have := spots_len ss as
      refine ⟨sl_le (by omega), ?_⟩
      refine fold_filter (p := fst1 (spots ss as)) (f := snd1) _ _ (fun x hx acc K hk => ?_) ?_
      · obtain ⟨i, hi, ei⟩ := List.mem_iff_getElem.mp hx
        obtain ⟨y, hy, rfl⟩ := enum_at (by rw [List.getElem?_eq_getElem hi, ei])
        rw [List.getElem?_map] at hy
        obtain ⟨s, hs, rfl⟩ := Option.map_eq_some_iff.mp hy
        refine ⟨_, rfl, _, _, rfl, _, _, rfl, rfl, ?_⟩
        refine ⟨_, rfl, rfl, ?_⟩
        rw [cut_take, ← List.map_take]
        refine ⟨strs_flat _, ?_⟩
        rw [strs_any]
        have e : fst1 (spots ss as) (.tup [.int (i : Nat), .str s]) = !decide (s ∈ (spots ss as).take i) := rfl
        rw [e] at hk
        by_cases h : s ∈ (spots ss as).take i
        · rw [decide_eq_true h] at hk ⊢
          exact hk
        · rw [decide_eq_false h] at hk ⊢
          exact hk
      · simp only [exSs, exS, evR, evT, evS, evP, evAs, evO, evC, evI, evIF, evF, mkV, mkT, Rvd_v, Rvd_f, varW_z, varW_s, barW_z, barW_zo, barW_s, ex_bl, libW, isi_i, isi_s, isi_t, eqW_i, fzE, fzV, slotOf, bindTg, bindTgs, wip, startD, List.map_cons, List.map_nil, List.replicate, List.length_cons, List.length_nil, List.cons_append, List.nil_append, List.set_cons_zero, List.set_cons_succ, Nat.reduceAdd, Nat.reduceSub, Nat.sub_self, Nat.add_sub_cancel, List.getElem?_cons_zero, List.getElem?_cons_succ, setAll, b_isi, b_lenL, b_lenT, b_lenS, b_lenO, b_all, b_any, b_tupL, b_tupT, b_lstL, b_lstT, b_strO, b_strI, b_strS, b_intI, b_intS, b_abs, b_min, b_max, b_sum, b_dvm, b_boolO, b_reprO, b_reprL, m_joinL, m_joinT, m_split, y_join, y_split, c_lt, c_le, c_gt, c_ge, c_is, c_isn, c_eq, c_ne, c_in, c_nin, i_str, i_tup, i_lst, t_bl, t_int, n_int, o_addI, o_addS, o_addT, o_addL, o_sub, o_mul, o_fdv, o_mod, o_pow, x_lst, x_tup, x_str, l_lst, l_tup, l_str, q_lst, q_tup, q_str, e_lst, e_tup]
        rw [plc_enum]
        exact q
end
end En
namespace En
open PySem L2 PyProof.Rows TL
/-! ### places of a beginning -/
theorem plcGo_len : ∀ (ys xs : List Str) (acc : List Str), (plcGo acc xs).length ≤ (plcGo acc (xs ++ ys)).length := by
  intro ys
  induction ys with
  | nil => intro xs acc; rw [List.append_nil]; exact Nat.le_refl _
  | cons y ys ih =>
    intro xs acc
    have e : xs ++ y :: ys = (xs ++ [y]) ++ ys := by simp
    rw [e]
    refine Nat.le_trans ?_ (ih (xs ++ [y]) acc)
    rw [plcGo_app]
    split
    · exact Nat.le_refl _
    · simp
theorem plc_take (ss : List Say) (as : List Arm) (k : Nat) : (plc (spots ss (as.take k))).length ≤ (plc (spots ss as)).length := by
  have e : spots ss as = spots ss (as.take k) ++ (as.drop k).flatMap fun a => [a.1, a.2.1] := by
    unfold spots
    rw [List.append_assoc, ← List.flatMap_append, List.take_append_drop]
  rw [e]
  exact plcGo_len _ _ _
theorem plcGo_nodup : ∀ (xs acc : List Str), acc.Nodup → (plcGo acc xs).Nodup
  | [], acc, h => h
  | x :: xs, acc, h => by
    show (plcGo _ xs).Nodup
    refine plcGo_nodup xs _ ?_
    split
    · exact h
    · rename_i hx
      rw [List.nodup_append]
      refine ⟨h, by simp, ?_⟩
      intro a ha b hb e
      rw [List.mem_singleton] at hb
      subst e hb
      exact hx ha
theorem nodup_le {α : Type} [DecidableEq α] : ∀ (xs ys : List α), xs.Nodup → (∀ x ∈ xs, x ∈ ys) → xs.length ≤ ys.length
  | [], ys, _, _ => Nat.zero_le _
  | x :: xs, ys, h, hs => by
    have h1 := List.nodup_cons.mp h
    have hx : x ∈ ys := hs x List.mem_cons_self
    have := nodup_le xs (ys.erase x) h1.2 fun z hz => by
      have hne : z ≠ x := fun e => h1.1 (e ▸ hz)
      exact (List.mem_erase_of_ne hne).mpr (hs z (List.mem_cons_of_mem _ hz))
    rw [List.length_erase_of_mem hx] at this
    have hp : 0 < ys.length := List.length_pos_of_mem hx
    simp only [List.length_cons]
    omega
theorem plc_le {xs ys : List Str} (h : ∀ x ∈ xs, x ∈ ys) : (plc xs).length ≤ ys.length := by
  refine nodup_le _ _ (plcGo_nodup xs [] List.nodup_nil) fun x hx => h x ?_
  rcases (plcGo_mem xs [] x).mp hx with z | z
  · cases z
  · exact z
/-- parts that a program is made of -/
structure Good (ns : List Str) (ss : List Say) (as : List Arm) : Prop where
  n1 : ns ≠ []
  n2 : ns.length ≤ 3
  n3 : ∀ s ∈ ns, nmS s = true
  n4 : ns.Nodup
  s1 : ss.length ≤ 3
  s2 : ∀ s ∈ ss, nmS s.1 = true ∧ frm ns.length s.2
  a1 : as ≠ []
  a2 : as.length ≤ 5
  a3 : ∀ a ∈ as, nmS a.1 = true ∧ nmS a.2.1 = true ∧ a.2.2.1.length ≤ 3 ∧ a.2.2.2.length = ns.length ∧ (∀ f ∈ a.2.2.1, frm ns.length f) ∧ ∀ f ∈ a.2.2.2, frm ns.length f
  p : (plc (spots ss as)).length ≤ 3
def sysD (ss : List Say) : D := .tup (ss.map sayD)
def armsD (as : List Arm) : D := .tup (as.map armD)
def nmsD (ns : List Str) : D := .tup (ns.map D.str)
section
variable {sub : Sub} {fs : List (Str × Fn)} {l : List (Str × Prim)} {G : Cfg} (hG : G.B = libW sub) (H : PfH fs) (hm : ∀ k, MonoC (CW G fs l k))
include hG H hm
theorem wrong_branch_ok {k : Nat} {ns : List Str} {ss : List Say} {as : List Arm} (g : Good ns ss as) {Q : Rv → Prop} {E : XP} (q : Q (.v .non)) : CW G fs l (k + 5) "wrong_branch" [sysD ss, armsD as, .int ns.length] Q E := by
  have hB : G.B.Mono := by rw [hG]; exact libW_mono sub
  have h0 : as.length ≠ 0 := fun e => g.a1 (List.length_eq_zero_iff.mp e)
  have h2 := g.a2
  have h2s := g.s1
  refine cw_fn_mk H.f_wrong_branch rfl ?_
  refine ss_c (s_if hB (hm _) false ?_ (ss_n (ss_c ?_)))
  · rw [hG]
    unfold armsD
    simp only [exSs, exS, evR, evT, evS, evP, evAs, evO, evC, evI, evIF, evF, mkV, mkT, Rvd_v, Rvd_f, varW_z, varW_s, barW_z, barW_zo, barW_s, ex_bl, libW, isi_i, isi_s, isi_t, eqW_i, fzE, fzV, slotOf, bindTg, bindTgs, wip, startD, List.map_cons, List.map_nil, List.replicate, List.length_cons, List.length_nil, List.cons_append, List.nil_append, List.set_cons_zero, List.set_cons_succ, Nat.reduceAdd, Nat.reduceSub, Nat.sub_self, Nat.add_sub_cancel, List.getElem?_cons_zero, List.getElem?_cons_succ, setAll, b_isi, b_lenL, b_lenT, b_lenS, b_lenO, b_all, b_any, b_tupL, b_tupT, b_lstL, b_lstT, b_strO, b_strI, b_strS, b_intI, b_intS, b_abs, b_min, b_max, b_sum, b_dvm, b_boolO, b_reprO, b_reprL, m_joinL, m_joinT, m_split, y_join, y_split, c_lt, c_le, c_gt, c_ge, c_is, c_isn, c_eq, c_ne, c_in, c_nin, i_str, i_tup, i_lst, t_bl, t_int, n_int, o_addI, o_addS, o_addT, o_addL, o_sub, o_mul, o_fdv, o_mod, o_pow, x_lst, x_tup, x_str, l_lst, l_tup, l_str, q_lst, q_tup, q_str, e_lst, e_tup, subT, List.length_map]
    have e : decide ((as.length : Int) = 0) = false := decide_eq_false (by omega)
    rw [e]
    simp
  · unfold exS
    rw [hG]
    unfold armsD sysD
    simp only [exSs, exS, evR, evT, evS, evP, evAs, evO, evC, evI, evIF, evF, mkV, mkT, Rvd_v, Rvd_f, varW_z, varW_s, barW_z, barW_zo, barW_s, ex_bl, libW, isi_i, isi_s, isi_t, eqW_i, fzE, fzV, slotOf, bindTg, bindTgs, wip, startD, List.map_cons, List.map_nil, List.replicate, List.length_cons, List.length_nil, List.cons_append, List.nil_append, List.set_cons_zero, List.set_cons_succ, Nat.reduceAdd, Nat.reduceSub, Nat.sub_self, Nat.add_sub_cancel, List.getElem?_cons_zero, List.getElem?_cons_succ, setAll, b_isi, b_lenL, b_lenT, b_lenS, b_lenO, b_all, b_any, b_tupL, b_tupT, b_lstL, b_lstT, b_strO, b_strI, b_strS, b_intI, b_intS, b_abs, b_min, b_max, b_sum, b_dvm, b_boolO, b_reprO, b_reprL, m_joinL, m_joinT, m_split, y_join, y_split, c_lt, c_le, c_gt, c_ge, c_is, c_isn, c_eq, c_ne, c_in, c_nin, i_str, i_tup, i_lst, t_bl, t_int, n_int, o_addI, o_addS, o_addT, o_addL, o_sub, o_mul, o_fdv, o_mod, o_pow, x_lst, x_tup, x_str, l_lst, l_tup, l_str, q_lst, q_tup, q_str, e_lst, e_tup]
    refine for_inv (fun i r => ∃ a b, r = [some (.val (.tup (ss.map sayD))), some (.val (.tup (as.map armD))), some (.val (.int ns.length)), a, b]) ⟨_, _, rfl⟩ (fun i x r hx hp K hk => ?_) fun r _ => ?_
    · obtain ⟨a, b, rfl⟩ := hp
      obtain ⟨y, hy, rfl⟩ := enum_at hx
      rw [List.getElem?_map] at hy
      obtain ⟨s, hs, rfl⟩ := Option.map_eq_some_iff.mp hy
      have hsm := List.mem_of_getElem? hs
      have hi : i < as.length := by
        rcases Nat.lt_or_ge i as.length with z | z
        · exact z
        · rw [List.getElem?_eq_none z] at hs; cases hs
      refine ⟨_, rfl, ?_⟩
      simp only [exSs, exS, evR, evT, evS, evP, evAs, evO, evC, evI, evIF, evF, mkV, mkT, Rvd_v, Rvd_f, varW_z, varW_s, barW_z, barW_zo, barW_s, ex_bl, libW, isi_i, isi_s, isi_t, eqW_i, fzE, fzV, slotOf, bindTg, bindTgs, wip, startD, List.map_cons, List.map_nil, List.replicate, List.length_cons, List.length_nil, List.cons_append, List.nil_append, List.set_cons_zero, List.set_cons_succ, Nat.reduceAdd, Nat.reduceSub, Nat.sub_self, Nat.add_sub_cancel, List.getElem?_cons_zero, List.getElem?_cons_succ, setAll, b_isi, b_lenL, b_lenT, b_lenS, b_lenO, b_all, b_any, b_tupL, b_tupT, b_lstL, b_lstT, b_strO, b_strI, b_strS, b_intI, b_intS, b_abs, b_min, b_max, b_sum, b_dvm, b_boolO, b_reprO, b_reprL, m_joinL, m_joinT, m_split, y_join, y_split, c_lt, c_le, c_gt, c_ge, c_is, c_isn, c_eq, c_ne, c_in, c_nin, i_str, i_tup, i_lst, t_bl, t_int, n_int, o_addI, o_addS, o_addT, o_addL, o_sub, o_mul, o_fdv, o_mod, o_pow, x_lst, x_tup, x_str, l_lst, l_tup, l_str, q_lst, q_tup, q_str, e_lst, e_tup]
      refine ⟨_, _, rfl, _, _, rfl, rfl, ?_⟩
      have e : decide ((i : Int) = 5) = false := decide_eq_false (by omega)
      rw [eqW_i, e]
      refine iff_ ?_
      obtain ⟨b1, b2, b3, b4, b5, b6⟩ := g.a3 s hsm
      refine is_branch_ok hG H hm b1 b2 b3 b4 b5 b6 (by have := g.n2; omega) ?_
      simp only [exSs, exS, evR, evT, evS, evP, evAs, evO, evC, evI, evIF, evF, mkV, mkT, Rvd_v, Rvd_f, varW_z, varW_s, barW_z, barW_zo, barW_s, ex_bl, libW, isi_i, isi_s, isi_t, eqW_i, fzE, fzV, slotOf, bindTg, bindTgs, wip, startD, List.map_cons, List.map_nil, List.replicate, List.length_cons, List.length_nil, List.cons_append, List.nil_append, List.set_cons_zero, List.set_cons_succ, Nat.reduceAdd, Nat.reduceSub, Nat.sub_self, Nat.add_sub_cancel, List.getElem?_cons_zero, List.getElem?_cons_succ, setAll, b_isi, b_lenL, b_lenT, b_lenS, b_lenO, b_all, b_any, b_tupL, b_tupT, b_lstL, b_lstT, b_strO, b_strI, b_strS, b_intI, b_intS, b_abs, b_min, b_max, b_sum, b_dvm, b_boolO, b_reprO, b_reprL, m_joinL, m_joinT, m_split, y_join, y_split, c_lt, c_le, c_gt, c_ge, c_is, c_isn, c_eq, c_ne, c_in, c_nin, i_str, i_tup, i_lst, t_bl, t_int, n_int, o_addI, o_addS, o_addT, o_addL, o_sub, o_mul, o_fdv, o_mod, o_pow, x_lst, x_tup, x_str, l_lst, l_tup, l_str, q_lst, q_tup, q_str, e_lst, e_tup, Bool.not_true, Bool.false_eq_true, if_false]
      refine ⟨_, rfl, ?_⟩
      have ec : (((i : Nat) : Int) + 1) = ((i + 1 : Nat) : Int) := by omega
      rw [ec, cut_take, ← List.map_take]
      refine places_in_ok hG H hm (by omega) (by rw [List.length_take]; omega) ?_
      simp only [exSs, exS, evR, evT, evS, evP, evAs, evO, evC, evI, evIF, evF, mkV, mkT, Rvd_v, Rvd_f, varW_z, varW_s, barW_z, barW_zo, barW_s, ex_bl, libW, isi_i, isi_s, isi_t, eqW_i, fzE, fzV, slotOf, bindTg, bindTgs, wip, startD, List.map_cons, List.map_nil, List.replicate, List.length_cons, List.length_nil, List.cons_append, List.nil_append, List.set_cons_zero, List.set_cons_succ, Nat.reduceAdd, Nat.reduceSub, Nat.sub_self, Nat.add_sub_cancel, List.getElem?_cons_zero, List.getElem?_cons_succ, setAll, b_isi, b_lenL, b_lenT, b_lenS, b_lenO, b_all, b_any, b_tupL, b_tupT, b_lstL, b_lstT, b_strO, b_strI, b_strS, b_intI, b_intS, b_abs, b_min, b_max, b_sum, b_dvm, b_boolO, b_reprO, b_reprL, m_joinL, m_joinT, m_split, y_join, y_split, c_lt, c_le, c_gt, c_ge, c_is, c_isn, c_eq, c_ne, c_in, c_nin, i_str, i_tup, i_lst, t_bl, t_int, n_int, o_addI, o_addS, o_addT, o_addL, o_sub, o_mul, o_fdv, o_mod, o_pow, x_lst, x_tup, x_str, l_lst, l_tup, l_str, q_lst, q_tup, q_str, e_lst, e_tup, List.length_map]
      have e3 : decide ((3 : Int) < (plc (spots ss (as.take (i + 1)))).length) = false := decide_eq_false (by have := plc_take ss as (i + 1); have := g.p; omega)
      rw [e3]
      refine iff_ ?_
      exact hk _ ⟨_, _, rfl⟩
    · exact q
end
end En
namespace En
open PySem L2 PyProof.Rows TL
/-! ### texts of numbers and lines, plain -/
def numS (i : Int) : Str := toString i
theorem numS_nat (n : Nat) : tl (numS (n : Nat)) = numL n := tl_num n
theorem numS_neg (n : Nat) : tl (numS (Int.negSucc n)) = 45 :: numL (n + 1) := by
  have e : toString (Int.negSucc n) = "-" ++ toString (((n + 1 : Nat) : Int)) := rfl
  unfold numS
  rw [e, tl_ofString, String.toList_append, List.map_append, ← tl_ofString, ← tl_ofString]
  have := tl_num (n + 1)
  unfold TL.tl at this ⊢
  rw [this]
  rfl
theorem numS_ok {i : Int} {c : Nat} (h : c ∈ tl (numS i)) : c = 45 ∨ (48 ≤ c ∧ c ≤ 57) := by
  cases i with
  | ofNat n =>
    have h : c ∈ tl (numS (n : Nat)) := h
    rw [numS_nat] at h
    exact .inr (numL_digits n c h)
  | negSucc n =>
    rw [numS_neg] at h
    rcases List.mem_cons.mp h with e | e
    · exact .inl e
    · exact .inr (numL_digits _ c e)
theorem numS_len {i : Int} (h1 : -1000000 ≤ i) (h2 : i ≤ 1000000) : (numS i).length ≤ 8 := by
  rw [len_tl]
  cases i with
  | ofNat n =>
    show (tl (numS (n : Nat))).length ≤ 8
    rw [numS_nat]
    have h2 : (n : Int) ≤ 1000000 := h2
    exact Nat.le_trans (numL_len (k := 7) (by omega) (by omega)) (by omega)
  | negSucc n =>
    rw [numS_neg]
    have := numL_len (n := n + 1) (k := 7) (by omega) (by omega)
    simp only [List.length_cons]
    omega
theorem numS_int {i : Int} (h1 : -1000000 ≤ i) (h2 : i ≤ 1000000) : intText? (numS i) = some i := by
  have hl := numS_len h1 h2
  cases i with
  | ofNat n =>
    have h2 : (n : Int) ≤ 1000000 := h2
    have hn : (numL n).length ≤ 7 := numL_len (k := 7) (by omega) (by omega)
    exact int_num (by omega)
  | negSucc n =>
    rw [intText_neg (cs := numL (n + 1)) (numS_neg n) (numL_digits _) (numL_ne _) (by omega), numL_val]
    rfl
/-- signs of a text -/
def sg (p : Nat → Prop) (s : Str) : Prop := ∀ c ∈ tl s, p c
theorem sg.app {p : Nat → Prop} {s t : Str} (h1 : sg p s) (h2 : sg p t) : sg p (s ++ t) := by
  intro c hc
  rw [tl_append] at hc
  rcases List.mem_append.mp hc with z | z
  · exact h1 c z
  · exact h2 c z
theorem joinL_mem {S : List Nat} {p : Nat → Prop} (hS : ∀ c ∈ S, p c) : ∀ {l : List (List Nat)}, (∀ x ∈ l, ∀ c ∈ x, p c) → ∀ c ∈ joinL S l, p c
  | [], _, c, hc => by cases hc
  | [x], h, c, hc => h x List.mem_cons_self c hc
  | x :: y :: r, h, c, hc => by
    have hc : c ∈ x ++ (S ++ joinL S (y :: r)) := hc
    rcases List.mem_append.mp hc with z | z
    · exact h x List.mem_cons_self c z
    · rcases List.mem_append.mp z with z | z
      · exact hS c z
      · exact joinL_mem hS (fun u hu => h u (List.mem_cons_of_mem _ hu)) c z
theorem sg.join {p : Nat → Prop} {y : Str} {l : List Str} (hy : sg p y) (h : ∀ x ∈ l, sg p x) : sg p (Txt.join y l) := by
  intro c hc
  rw [join_eq, tl_join] at hc
  refine joinL_mem hy (fun x hx => ?_) c hc
  obtain ⟨s, hs, rfl⟩ := List.mem_map.mp hx
  exact h s hs
theorem joinL_len {S : List Nat} {b : Nat} : ∀ {l : List (List Nat)}, (∀ x ∈ l, x.length ≤ b) → (joinL S l).length ≤ l.length * (b + S.length)
  | [], _ => Nat.zero_le _
  | [x], h => by
    have := h x List.mem_cons_self
    show x.length ≤ 1 * (b + S.length)
    omega
  | x :: y :: r, h => by
    have h1 := h x List.mem_cons_self
    have h2 := joinL_len (S := S) (l := y :: r) fun u hu => h u (List.mem_cons_of_mem _ hu)
    show (x ++ (S ++ joinL S (y :: r))).length ≤ _
    rw [List.length_append, List.length_append, List.length_cons, Nat.succ_mul]
    omega
theorem join_len {y : Str} {b : Nat} {l : List Str} (h : ∀ x ∈ l, x.length ≤ b) : (Txt.join y l).length ≤ l.length * (b + y.length) := by
  rw [len_tl, join_eq, tl_join, len_tl y]
  have := joinL_len (S := tl y) (b := b) (l := l.map tl) fun x hx => by
    obtain ⟨s, hs, rfl⟩ := List.mem_map.mp hx
    rw [← len_tl]
    exact h s hs
  rw [List.length_map] at this
  exact this
theorem sum_len {b : Nat} : ∀ {l : List Str}, (∀ x ∈ l, x.length ≤ b) → (l.map (·.length)).sum ≤ l.length * b
  | [], _ => Nat.zero_le _
  | x :: r, h => by
    have h1 := h x List.mem_cons_self
    have h2 := sum_len (l := r) fun u hu => h u (List.mem_cons_of_mem _ hu)
    rw [List.map_cons, List.sum_cons, List.length_cons, Nat.succ_mul]
    omega
theorem app_len (s t : Str) : (s ++ t).length = s.length + t.length := by rw [len_tl, tl_append, List.length_append, ← len_tl, ← len_tl]
theorem cut_pre (z : Str) (k : Nat) : tl (cutS z none (some (k : Int))) = (tl z).take k := by
  show ((z.cps.toList.drop (HT.sIx z.length 0 none)).take (HT.sIx z.length z.length (some (k : Int)) - HT.sIx z.length 0 none)) = _
  rw [HT.sIx_none, HT.sIx_nat, List.drop_zero, Nat.sub_zero]
  show (tl z).take (min k z.length) = _
  rw [len_tl]
  rcases Nat.le_total k (tl z).length with h | h
  · rw [Nat.min_eq_left h]
  · rw [Nat.min_eq_right h, List.take_length, List.take_of_length_le h]
theorem cut_suf (z : Str) (k : Nat) : tl (cutS z (some (k : Int)) none) = (tl z).drop k := by
  show ((z.cps.toList.drop (HT.sIx z.length 0 (some (k : Int)))).take (HT.sIx z.length z.length none - HT.sIx z.length 0 (some (k : Int)))) = _
  rw [HT.sIx_none, HT.sIx_nat]
  show ((tl z).drop (min k z.length)).take (z.length - min k z.length) = _
  rw [len_tl]
  rcases Nat.le_total k (tl z).length with h | h
  · rw [Nat.min_eq_left h, List.take_of_length_le (by simp)]
  · rw [Nat.min_eq_right h, List.drop_length, List.drop_eq_nil_of_le h]
    simp
/-- the beginning of a text that begins so -/
theorem cut_app {a b : Str} {k : Nat} (h : a.length = k) : cutS (a ++ b) none (some (k : Int)) = a := by
  refine ext_tl ?_
  rw [cut_pre, tl_append, ← h, len_tl, List.take_left']
  rfl
theorem cut_rest {a b : Str} {k : Nat} (h : a.length = k) : cutS (a ++ b) (some (k : Int)) none = b := by
  refine ext_tl ?_
  rw [cut_suf, tl_append, ← h, len_tl, List.drop_left']
  rfl
theorem app_asc (a b c : Str) : a ++ b ++ c = a ++ (b ++ c) := by
  refine ext_tl ?_
  simp only [tl_append, List.append_assoc]
/-! ### the lines of a program -/
def wordsS (f : List Int) : Str := Txt.join " " (f.map numS)
def sayL (s : Say) : Str := "say " ++ (s.1 ++ (" " ++ wordsS s.2))
def armL (a : Arm) : List Str := ("branch " ++ (a.1 ++ (" " ++ a.2.1))) :: (a.2.2.1.map (fun f => "test " ++ wordsS f) ++ ["then " ++ Txt.join "; " (a.2.2.2.map wordsS)])
def varL (ns : List Str) : Str := "vars " ++ Txt.join " " ns
def linesP (ns : List Str) (ss : List Say) (as : List Arm) : List Str := varL ns :: (ss.map sayL ++ as.flatMap armL)
def textP (ns : List Str) (ss : List Say) (as : List Arm) : Str := Txt.join "\n" (linesP ns ss as)
theorem wordsS_len {n : Nat} {f : List Int} (h : frm n f) (hn : n ≤ 3) : (wordsS f).length ≤ 36 := by
  have := join_len (y := (" " : Str)) (b := 8) (l := f.map numS) fun x hx => by
    obtain ⟨i, hi, rfl⟩ := List.mem_map.mp hx
    exact numS_len (h.2 i hi).1 (h.2 i hi).2
  rw [List.length_map, h.1] at this
  have e : (" " : Str).length = 1 := rfl
  rw [e] at this
  unfold wordsS
  omega
theorem nmS_len {s : Str} (h : nmS s = true) : s.length ≤ 8 := by
  unfold nmS at h
  simp only [Bool.and_eq_true, decide_eq_true_eq] at h
  exact h.2.1
theorem nmS_sg {s : Str} (h : nmS s = true) : sg (fun c => (97 ≤ c ∧ c ≤ 122) ∨ (48 ≤ c ∧ c ≤ 57)) s := by
  unfold nmS at h
  simp only [Bool.and_eq_true, decide_eq_true_eq] at h
  intro c hc
  have := List.all_eq_true.mp h.2.2.2 c hc
  rcases Bool.or_eq_true_iff.mp this with z | z
  · refine .inl ?_
    unfold lowB at z
    rw [decide_eq_true_eq, lowS, tl_ofString] at z
    revert z
    simp
    omega
  · refine .inr ?_
    unfold digB at z
    rw [decide_eq_true_eq, digS, tl_ofString] at z
    revert z
    simp
    omega
end En
namespace En
open PySem L2 PyProof.Rows TL
/-! ### the program's class -/
structure PlH (B : Lib) (fs : List (Str × Fn)) (l : List (Str × Prim)) : Prop where
  no : ∀ f ∈ pnames, fs.lookup f = none
  lp : ∀ e ∈ prmP B 5 ir_Program___init__, l.lookup e.1 = some e.2
def progD (ns : List Str) (ss : List Say) (as : List Arm) : D := .obj "Program" [armsD as, nmsD ns, sysD ss]
theorem Good.len1 {ns : List Str} {ss : List Say} {as : List Arm} (g : Good ns ss as) {s : Str} (h : s ∈ linesP ns ss as) : s.length ≤ 150 := by
  have hn := g.n2
  have b0 : ∀ f, frm ns.length f → (wordsS f).length ≤ 36 := fun f hf => wordsS_len hf hn
  rcases List.mem_cons.mp h with e | h
  · subst e
    unfold varL
    rw [app_len]
    have := join_len (y := (" " : Str)) (b := 8) (l := ns) fun x hx => nmS_len (g.n3 x hx)
    have e : (" " : Str).length = 1 := rfl
    have e2 : ("vars " : Str).length = 5 := rfl
    rw [e] at this
    omega
  · rcases List.mem_append.mp h with h | h
    · obtain ⟨s, hs, rfl⟩ := List.mem_map.mp h
      have h1 := nmS_len (g.s2 s hs).1
      have h2 := b0 _ (g.s2 s hs).2
      unfold sayL
      rw [app_len, app_len, app_len]
      have e : (" " : Str).length = 1 := rfl
      have e2 : ("say " : Str).length = 4 := rfl
      omega
    · obtain ⟨a, ha, h⟩ := List.mem_flatMap.mp h
      obtain ⟨h1, h2, h3, h4, h5, h6⟩ := g.a3 a ha
      rcases List.mem_cons.mp h with e | h
      · subst e
        have h1 := nmS_len h1
        have h2 := nmS_len h2
        rw [app_len, app_len, app_len]
        have e : (" " : Str).length = 1 := rfl
        have e2 : ("branch " : Str).length = 7 := rfl
        omega
      · rcases List.mem_append.mp h with h | h
        · obtain ⟨f, hf, rfl⟩ := List.mem_map.mp h
          have := b0 f (h5 f hf)
          rw [app_len]
          have e2 : ("test " : Str).length = 5 := rfl
          omega
        · rw [List.mem_singleton] at h
          subst h
          rw [app_len]
          have := join_len (y := ("; " : Str)) (b := 36) (l := a.2.2.2.map wordsS) fun x hx => by
            obtain ⟨f, hf, rfl⟩ := List.mem_map.mp hx
            exact b0 f (h6 f hf)
          rw [List.length_map, h4] at this
          have e : ("; " : Str).length = 2 := rfl
          have e2 : ("then " : Str).length = 5 := rfl
          rw [e] at this
          have := Nat.mul_le_mul_right (36 + 2) hn
          omega
theorem arm_len {n : Nat} {a : Arm} (h : a.2.2.1.length ≤ 3) : (armL a).length ≤ 5 := by
  unfold armL
  simp
  omega
theorem arms_len : ∀ {as : List Arm}, (∀ a ∈ as, a.2.2.1.length ≤ 3) → (as.flatMap armL).length ≤ as.length * 5
  | [], _ => Nat.zero_le _
  | a :: as, h => by
    have h1 := arm_len (n := 0) (h a List.mem_cons_self)
    have h2 := arms_len (as := as) fun x hx => h x (List.mem_cons_of_mem _ hx)
    rw [List.flatMap_cons, List.length_append, List.length_cons, Nat.succ_mul]
    omega
theorem Good.lenL {ns : List Str} {ss : List Say} {as : List Arm} (g : Good ns ss as) : (linesP ns ss as).length ≤ 29 := by
  have h1 := g.s1
  have h2 := g.a2
  have h3 := arms_len (as := as) fun a ha => (g.a3 a ha).2.2.1
  have := Nat.mul_le_mul_right 5 h2
  unfold linesP
  rw [List.length_cons, List.length_append, List.length_map]
  omega
theorem log2_small {n : Nat} (h : n ≤ 1000000) : n.log2 < 1920 := by
  rcases Nat.eq_zero_or_pos n with e | e
  · subst e
    decide
  · have : n.log2 < 20 := (Nat.log2_lt (by omega)).mpr (by omega)
    omega
theorem noEs_map {α : Type} {f : α → D} : ∀ (l : List α), (∀ x ∈ l, noE (f x) = true) → noEs (l.map f) = true
  | [], _ => rfl
  | x :: r, h => by
    rw [List.map_cons, noEs, h x List.mem_cons_self, noEs_map r fun y hy => h y (List.mem_cons_of_mem _ hy)]
    rfl
theorem noE_form (f : List Int) : noE (formD f) = true := noEs_map f fun _ _ => rfl
theorem noE_nms (l : List Str) : noE (nmsD l) = true := noEs_map l fun _ _ => rfl
theorem noE_sys (l : List Say) : noE (sysD l) = true := noEs_map l fun s _ => by
  show (true && (noE (formD s.2) && true)) = true
  rw [noE_form]
  rfl
theorem noE_arms (l : List Arm) : noE (armsD l) = true := noEs_map l fun a _ => by
  show (true && (true && (noEs (a.2.2.1.map formD) && (noEs (a.2.2.2.map formD) && true)))) = true
  rw [noEs_map _ fun f _ => noE_form f, noEs_map _ fun f _ => noE_form f]
  rfl
section
variable {sub : Sub} {fs : List (Str × Fn)} {l : List (Str × Prim)} {G : Cfg} (hG : G.B = libW sub) (H : PfH fs) (P : PlH G.B fs l) (hm : ∀ k, MonoC (CW G fs l k))
include hG H P hm
theorem own_branches_ok {k : Nat} {ns : List Str} {ss : List Say} {as : List Arm} {Q : Rv → Prop} {E : XP} (q : Q (.v (armsD as))) : CW G fs l (k + 1) "own_branches" [progD ns ss as] Q E :=
  cw_prim_mk (P := pSl "Program" 0) (P.no _ (by simp [pnames])) (P.lp ("own_branches", pSl "Program" 0) (by simp [prmP])) ⟨_, _, rfl, rfl, q⟩
theorem own_sayings_ok {k : Nat} {ns : List Str} {ss : List Say} {as : List Arm} {Q : Rv → Prop} {E : XP} (q : Q (.v (sysD ss))) : CW G fs l (k + 1) "own_sayings" [progD ns ss as] Q E :=
  cw_prim_mk (P := pSl "Program" 2) (P.no _ (by simp [pnames])) (P.lp ("own_sayings", pSl "Program" 2) (by simp [prmP])) ⟨_, _, rfl, rfl, q⟩
theorem init_ok {k : Nat} {ns : List Str} {ss : List Say} {as : List Arm} (g : Good ns ss as) {Q : Rv → Prop} {E : XP} (q : Q (.v (progD ns ss as))) : CW G fs l (k + 7) "Program" [nmsD ns, sysD ss, armsD as] Q E := by
  have hB : G.B.Mono := by rw [hG]; exact libW_mono sub
  refine cw_prim_mk (P := pTo "Program.__init__") (P.no _ (by simp [pnames])) (P.lp ("Program", pTo "Program.__init__") (by simp [prmP])) ?_
  refine cw_prim_mk (P := pIn G.B "Program" 5 ir_Program___init__) (P.no _ (by simp [pnames])) (P.lp ("Program.__init__", pIn G.B "Program" 5 ir_Program___init__) (by simp [prmP])) ?_
  refine ⟨rfl, ?_, fun x => ?_⟩
  · simp only [noEs, noE_nms, noE_sys, noE_arms]
    rfl
  unfold ir_Program___init__ startI
  refine ss_c (s_set hB (hm _) (.v .non) ?_ ?_)
  · rw [hG]
    simp only [exSs, exS, evR, evT, evS, evP, evAs, evO, evC, evI, evIF, evF, mkV, mkT, Rvd_v, Rvd_f, varW_z, varW_s, barW_z, barW_zo, barW_s, ex_bl, libW, isi_i, isi_s, isi_t, eqW_i, fzE, fzV, slotOf, bindTg, bindTgs, wip, startD, List.map_cons, List.map_nil, List.replicate, List.length_cons, List.length_nil, List.cons_append, List.nil_append, List.set_cons_zero, List.set_cons_succ, Nat.reduceAdd, Nat.reduceSub, Nat.sub_self, Nat.add_sub_cancel, List.getElem?_cons_zero, List.getElem?_cons_succ, setAll, b_isi, b_lenL, b_lenT, b_lenS, b_lenO, b_all, b_any, b_tupL, b_tupT, b_lstL, b_lstT, b_strO, b_strI, b_strS, b_intI, b_intS, b_abs, b_min, b_max, b_sum, b_dvm, b_boolO, b_reprO, b_reprL, m_joinL, m_joinT, m_split, y_join, y_split, c_lt, c_le, c_gt, c_ge, c_is, c_isn, c_eq, c_ne, c_in, c_nin, i_str, i_tup, i_lst, t_bl, t_int, n_int, o_addI, o_addS, o_addT, o_addL, o_sub, o_mul, o_fdv, o_mod, o_pow, x_lst, x_tup, x_str, l_lst, l_tup, l_str, q_lst, q_tup, q_str, e_lst, e_tup]
    exact wrong_name_ok hG H hm g.n1 g.n2 g.n3 g.n4 rfl
  refine ss_c (s_if hB (hm _) false ?_ (ss_n (ss_c (s_set hB (hm _) (.v .non) ?_ ?_))))
  · rw [hG]
    simp only [exSs, exS, evR, evT, evS, evP, evAs, evO, evC, evI, evIF, evF, mkV, mkT, Rvd_v, Rvd_f, varW_z, varW_s, barW_z, barW_zo, barW_s, ex_bl, libW, isi_i, isi_s, isi_t, eqW_i, fzE, fzV, slotOf, bindTg, bindTgs, wip, startD, List.map_cons, List.map_nil, List.replicate, List.length_cons, List.length_nil, List.cons_append, List.nil_append, List.set_cons_zero, List.set_cons_succ, Nat.reduceAdd, Nat.reduceSub, Nat.sub_self, Nat.add_sub_cancel, List.getElem?_cons_zero, List.getElem?_cons_succ, setAll, b_isi, b_lenL, b_lenT, b_lenS, b_lenO, b_all, b_any, b_tupL, b_tupT, b_lstL, b_lstT, b_strO, b_strI, b_strS, b_intI, b_intS, b_abs, b_min, b_max, b_sum, b_dvm, b_boolO, b_reprO, b_reprL, m_joinL, m_joinT, m_split, y_join, y_split, c_lt, c_le, c_gt, c_ge, c_is, c_isn, c_eq, c_ne, c_in, c_nin, i_str, i_tup, i_lst, t_bl, t_int, n_int, o_addI, o_addS, o_addT, o_addL, o_sub, o_mul, o_fdv, o_mod, o_pow, x_lst, x_tup, x_str, l_lst, l_tup, l_str, q_lst, q_tup, q_str, e_lst, e_tup, isNon]
    rfl
  · rw [hG]
    unfold nmsD sysD
    simp only [exSs, exS, evR, evT, evS, evP, evAs, evO, evC, evI, evIF, evF, mkV, mkT, Rvd_v, Rvd_f, varW_z, varW_s, barW_z, barW_zo, barW_s, ex_bl, libW, isi_i, isi_s, isi_t, eqW_i, fzE, fzV, slotOf, bindTg, bindTgs, wip, startD, List.map_cons, List.map_nil, List.replicate, List.length_cons, List.length_nil, List.cons_append, List.nil_append, List.set_cons_zero, List.set_cons_succ, Nat.reduceAdd, Nat.reduceSub, Nat.sub_self, Nat.add_sub_cancel, List.getElem?_cons_zero, List.getElem?_cons_succ, setAll, b_isi, b_lenL, b_lenT, b_lenS, b_lenO, b_all, b_any, b_tupL, b_tupT, b_lstL, b_lstT, b_strO, b_strI, b_strS, b_intI, b_intS, b_abs, b_min, b_max, b_sum, b_dvm, b_boolO, b_reprO, b_reprL, m_joinL, m_joinT, m_split, y_join, y_split, c_lt, c_le, c_gt, c_ge, c_is, c_isn, c_eq, c_ne, c_in, c_nin, i_str, i_tup, i_lst, t_bl, t_int, n_int, o_addI, o_addS, o_addT, o_addL, o_sub, o_mul, o_fdv, o_mod, o_pow, x_lst, x_tup, x_str, l_lst, l_tup, l_str, q_lst, q_tup, q_str, e_lst, e_tup, List.length_map]
    exact wrong_saying_ok hG H hm g.s1 g.s2 (by have := g.n2; omega) rfl
  refine ss_c (s_if hB (hm _) false ?_ (ss_n (ss_c (s_set hB (hm _) (.v .non) ?_ ?_))))
  · rw [hG]
    simp only [exSs, exS, evR, evT, evS, evP, evAs, evO, evC, evI, evIF, evF, mkV, mkT, Rvd_v, Rvd_f, varW_z, varW_s, barW_z, barW_zo, barW_s, ex_bl, libW, isi_i, isi_s, isi_t, eqW_i, fzE, fzV, slotOf, bindTg, bindTgs, wip, startD, List.map_cons, List.map_nil, List.replicate, List.length_cons, List.length_nil, List.cons_append, List.nil_append, List.set_cons_zero, List.set_cons_succ, Nat.reduceAdd, Nat.reduceSub, Nat.sub_self, Nat.add_sub_cancel, List.getElem?_cons_zero, List.getElem?_cons_succ, setAll, b_isi, b_lenL, b_lenT, b_lenS, b_lenO, b_all, b_any, b_tupL, b_tupT, b_lstL, b_lstT, b_strO, b_strI, b_strS, b_intI, b_intS, b_abs, b_min, b_max, b_sum, b_dvm, b_boolO, b_reprO, b_reprL, m_joinL, m_joinT, m_split, y_join, y_split, c_lt, c_le, c_gt, c_ge, c_is, c_isn, c_eq, c_ne, c_in, c_nin, i_str, i_tup, i_lst, t_bl, t_int, n_int, o_addI, o_addS, o_addT, o_addL, o_sub, o_mul, o_fdv, o_mod, o_pow, x_lst, x_tup, x_str, l_lst, l_tup, l_str, q_lst, q_tup, q_str, e_lst, e_tup, isNon]
    rfl
  · rw [hG]
    unfold nmsD
    simp only [exSs, exS, evR, evT, evS, evP, evAs, evO, evC, evI, evIF, evF, mkV, mkT, Rvd_v, Rvd_f, varW_z, varW_s, barW_z, barW_zo, barW_s, ex_bl, libW, isi_i, isi_s, isi_t, eqW_i, fzE, fzV, slotOf, bindTg, bindTgs, wip, startD, List.map_cons, List.map_nil, List.replicate, List.length_cons, List.length_nil, List.cons_append, List.nil_append, List.set_cons_zero, List.set_cons_succ, Nat.reduceAdd, Nat.reduceSub, Nat.sub_self, Nat.add_sub_cancel, List.getElem?_cons_zero, List.getElem?_cons_succ, setAll, b_isi, b_lenL, b_lenT, b_lenS, b_lenO, b_all, b_any, b_tupL, b_tupT, b_lstL, b_lstT, b_strO, b_strI, b_strS, b_intI, b_intS, b_abs, b_min, b_max, b_sum, b_dvm, b_boolO, b_reprO, b_reprL, m_joinL, m_joinT, m_split, y_join, y_split, c_lt, c_le, c_gt, c_ge, c_is, c_isn, c_eq, c_ne, c_in, c_nin, i_str, i_tup, i_lst, t_bl, t_int, n_int, o_addI, o_addS, o_addT, o_addL, o_sub, o_mul, o_fdv, o_mod, o_pow, x_lst, x_tup, x_str, l_lst, l_tup, l_str, q_lst, q_tup, q_str, e_lst, e_tup, List.length_map]
    exact wrong_branch_ok hG H hm g rfl
  refine ss_c (s_if hB (hm _) false ?_ (ss_n ?_))
  · rw [hG]
    simp only [exSs, exS, evR, evT, evS, evP, evAs, evO, evC, evI, evIF, evF, mkV, mkT, Rvd_v, Rvd_f, varW_z, varW_s, barW_z, barW_zo, barW_s, ex_bl, libW, isi_i, isi_s, isi_t, eqW_i, fzE, fzV, slotOf, bindTg, bindTgs, wip, startD, List.map_cons, List.map_nil, List.replicate, List.length_cons, List.length_nil, List.cons_append, List.nil_append, List.set_cons_zero, List.set_cons_succ, Nat.reduceAdd, Nat.reduceSub, Nat.sub_self, Nat.add_sub_cancel, List.getElem?_cons_zero, List.getElem?_cons_succ, setAll, b_isi, b_lenL, b_lenT, b_lenS, b_lenO, b_all, b_any, b_tupL, b_tupT, b_lstL, b_lstT, b_strO, b_strI, b_strS, b_intI, b_intS, b_abs, b_min, b_max, b_sum, b_dvm, b_boolO, b_reprO, b_reprL, m_joinL, m_joinT, m_split, y_join, y_split, c_lt, c_le, c_gt, c_ge, c_is, c_isn, c_eq, c_ne, c_in, c_nin, i_str, i_tup, i_lst, t_bl, t_int, n_int, o_addI, o_addS, o_addT, o_addL, o_sub, o_mul, o_fdv, o_mod, o_pow, x_lst, x_tup, x_str, l_lst, l_tup, l_str, q_lst, q_tup, q_str, e_lst, e_tup, isNon]
    rfl
  exact ss_n (B := G.B) (C := CW G fs l (k + 5)) (E := E) ⟨rfl, rfl, rfl, rfl, q⟩
/-! ### what a program tells -/
theorem places_ok {k : Nat} {ns : List Str} {ss : List Say} {as : List Arm} (g : Good ns ss as) {Q : Rv → Prop} {E : XP} (q : Q (.v (nmsD (plc (spots ss as))))) : CW G fs l (k + 3) "places" [progD ns ss as] Q E := by
  refine cw_prim_mk (P := pPr "Program" "Program.places") (P.no _ (by simp [pnames])) (P.lp ("places", pPr "Program" "Program.places") (by simp [prmP])) ⟨_, rfl, ?_⟩
  refine cw_fn_mk H.f_Program_places rfl ?_
  simp only [ir_Program_places, exSs, exS, evR, evT, evS, evP, evAs, evO, evC, evI, evIF, evF, mkV, mkT, Rvd_v, Rvd_f, varW_z, varW_s, barW_z, barW_zo, barW_s, ex_bl, libW, isi_i, isi_s, isi_t, eqW_i, fzE, fzV, slotOf, bindTg, bindTgs, wip, startD, List.map_cons, List.map_nil, List.replicate, List.length_cons, List.length_nil, List.cons_append, List.nil_append, List.set_cons_zero, List.set_cons_succ, Nat.reduceAdd, Nat.reduceSub, Nat.sub_self, Nat.add_sub_cancel, List.getElem?_cons_zero, List.getElem?_cons_succ, setAll, b_isi, b_lenL, b_lenT, b_lenS, b_lenO, b_all, b_any, b_tupL, b_tupT, b_lstL, b_lstT, b_strO, b_strI, b_strS, b_intI, b_intS, b_abs, b_min, b_max, b_sum, b_dvm, b_boolO, b_reprO, b_reprL, m_joinL, m_joinT, m_split, y_join, y_split, c_lt, c_le, c_gt, c_ge, c_is, c_isn, c_eq, c_ne, c_in, c_nin, i_str, i_tup, i_lst, t_bl, t_int, n_int, o_addI, o_addS, o_addT, o_addL, o_sub, o_mul, o_fdv, o_mod, o_pow, x_lst, x_tup, x_str, l_lst, l_tup, l_str, q_lst, q_tup, q_str, e_lst, e_tup]
  refine own_sayings_ok hG H P hm ?_
  refine own_branches_ok hG H P hm ?_
  exact places_in_ok hG H hm (by have := g.s1; omega) (by have := g.a2; omega) q
end
end En
namespace En
open PySem L2 PyProof.Rows TL
/-! ### reading -/
theorem asc_num (i : Int) : asc (numS i) := fun c hc => by
  rcases numS_ok hc with e | e <;> omega
theorem lit_asc {s : String} (h : (s.toList.all fun c => c.toNat < 128) = true) : asc (Str.ofString s) := fun c hc => by
  rw [tl_ofString] at hc
  obtain ⟨d, hd, rfl⟩ := List.mem_map.mp hc
  have := List.all_eq_true.mp h d hd
  simpa using this
theorem asc_cut {z : Str} (h : asc z) (lo hi : Option Int) : asc (cutS z lo hi) := fun c hc => by
  have hc : c ∈ ((z.cps.toList.drop (HT.sIx z.length 0 lo)).take (HT.sIx z.length z.length hi - HT.sIx z.length 0 lo)) := hc
  exact h c (List.mem_of_mem_drop (List.mem_of_mem_take hc))
section
variable {sub : Sub} {fs : List (Str × Fn)} {l : List (Str × Prim)} {G : Cfg} (hG : G.B = libW sub) (H : PfH fs) (P : PlH G.B fs l) (hm : ∀ k, MonoC (CW G fs l k))
section
include hG H hm
theorem written_integer_ok {k : Nat} {i : Int} (h1 : -1000000 ≤ i) (h2 : i ≤ 1000000) {Q : Rv → Prop} {E : XP} (q : Q (.v (.int i))) : CW G fs l (k + 1) "written_integer" [.str (numS i)] Q E := by
  have hB : G.B.Mono := by rw [hG]; exact libW_mono sub
  have hl := numS_len h1 h2
  have hsz : (numS i).length ≤ sizeLine := sl_le (by omega)
  have ha := asc_num i
  have key : ∃ n : Nat, (cutS (numS i) none (some 1) = Str.ofString "-" ∧ tl (cutS (numS i) (some 1) none) = numL n) ∨ (cutS (numS i) none (some 1) ≠ Str.ofString "-" ∧ tl (numS i) = numL n) := by
    cases i with
    | ofNat n =>
      refine ⟨n, .inr ⟨fun e => ?_, numS_nat n⟩⟩
      have e2 : tl (cutS (numS (n : Nat)) none (some ((1 : Nat) : Int))) = tl (Str.ofString "-") := congrArg tl e
      rw [cut_pre, numS_nat] at e2
      have e3 : (45 : Nat) ∈ (numL n).take 1 := by rw [e2]; decide
      have := numL_digits n 45 (List.mem_of_mem_take e3)
      omega
    | negSucc n =>
      refine ⟨n + 1, .inl ⟨ext_tl ?_, ?_⟩⟩
      · have : tl (cutS (numS (Int.negSucc n)) none (some ((1 : Nat) : Int))) = _ := cut_pre _ 1
        rw [numS_neg] at this
        exact this
      · have : tl (cutS (numS (Int.negSucc n)) (some ((1 : Nat) : Int)) none) = _ := cut_suf _ 1
        rw [numS_neg] at this
        exact this
  obtain ⟨n, key⟩ := key
  have body : ∃ z : Str, tl z = numL n ∧ z.length ≤ 8 ∧ asc z ∧ (evP G.B (CW G fs l k) (.ite (.cmp .Eq (.slc (.var 0) .no (.so (.con (.int 1)))) (.con (.str "-"))) (.slc (.var 0) (.so (.con (.int 1))) .no) (.var 0)) [some (.val (.str (numS i))), none, none]).R (fun x => x = .v (.str z)) E := by
    rcases key with ⟨e1, e2⟩ | ⟨e1, e2⟩
    · refine ⟨_, e2, Nat.le_trans (cutS_length _ _ _) hl, asc_cut ha _ _, ?_⟩
      rw [hG]
      simp only [exSs, exS, evR, evT, evS, evP, evAs, evO, evC, evI, evIF, evF, mkV, mkT, Rvd_v, Rvd_f, varW_z, varW_s, barW_z, barW_zo, barW_s, ex_bl, libW, isi_i, isi_s, isi_t, eqW_i, fzE, fzV, slotOf, bindTg, bindTgs, wip, startD, List.map_cons, List.map_nil, List.replicate, List.length_cons, List.length_nil, List.cons_append, List.nil_append, List.set_cons_zero, List.set_cons_succ, Nat.reduceAdd, Nat.reduceSub, Nat.sub_self, Nat.add_sub_cancel, List.getElem?_cons_zero, List.getElem?_cons_succ, setAll, b_isi, b_lenL, b_lenT, b_lenS, b_lenO, b_all, b_any, b_tupL, b_tupT, b_lstL, b_lstT, b_strO, b_strI, b_strS, b_intI, b_intS, b_abs, b_min, b_max, b_sum, b_dvm, b_boolO, b_reprO, b_reprL, m_joinL, m_joinT, m_split, y_join, y_split, c_lt, c_le, c_gt, c_ge, c_is, c_isn, c_eq, c_ne, c_in, c_nin, i_str, i_tup, i_lst, t_bl, t_int, n_int, o_addI, o_addS, o_addT, o_addL, o_sub, o_mul, o_fdv, o_mod, o_pow, x_lst, x_tup, x_str, l_lst, l_tup, l_str, q_lst, q_tup, q_str, e_lst, e_tup, D.int.injEq, exists_eq_left', hsz, true_and]
      rw [e1, eqW_s (lit_asc rfl).ok (lit_asc rfl).ok]
      simp
    · refine ⟨_, e2, hl, ha, ?_⟩
      rw [hG]
      simp only [exSs, exS, evR, evT, evS, evP, evAs, evO, evC, evI, evIF, evF, mkV, mkT, Rvd_v, Rvd_f, varW_z, varW_s, barW_z, barW_zo, barW_s, ex_bl, libW, isi_i, isi_s, isi_t, eqW_i, fzE, fzV, slotOf, bindTg, bindTgs, wip, startD, List.map_cons, List.map_nil, List.replicate, List.length_cons, List.length_nil, List.cons_append, List.nil_append, List.set_cons_zero, List.set_cons_succ, Nat.reduceAdd, Nat.reduceSub, Nat.sub_self, Nat.add_sub_cancel, List.getElem?_cons_zero, List.getElem?_cons_succ, setAll, b_isi, b_lenL, b_lenT, b_lenS, b_lenO, b_all, b_any, b_tupL, b_tupT, b_lstL, b_lstT, b_strO, b_strI, b_strS, b_intI, b_intS, b_abs, b_min, b_max, b_sum, b_dvm, b_boolO, b_reprO, b_reprL, m_joinL, m_joinT, m_split, y_join, y_split, c_lt, c_le, c_gt, c_ge, c_is, c_isn, c_eq, c_ne, c_in, c_nin, i_str, i_tup, i_lst, t_bl, t_int, n_int, o_addI, o_addS, o_addT, o_addL, o_sub, o_mul, o_fdv, o_mod, o_pow, x_lst, x_tup, x_str, l_lst, l_tup, l_str, q_lst, q_tup, q_str, e_lst, e_tup, D.int.injEq, exists_eq_left', hsz, true_and]
      rw [eqW_s (asc_cut ha _ _).ok (lit_asc rfl).ok, decide_eq_false e1]
      simp
  obtain ⟨z, z1, z2, z3, z4⟩ := body
  refine cw_fn_mk H.f_written_integer rfl ?_
  refine ss_c (s_set hB (hm _) _ z4 ?_)
  refine ss_c (s_if hB (hm _) false ?_ (ss_n (ss_c (s_ret hB (hm _) (.v (.int i)) ?_ q))))
  · rw [hG]
    simp only [exSs, exS, evR, evT, evS, evP, evAs, evO, evC, evI, evIF, evF, mkV, mkT, Rvd_v, Rvd_f, varW_z, varW_s, barW_z, barW_zo, barW_s, ex_bl, libW, isi_i, isi_s, isi_t, eqW_i, fzE, fzV, slotOf, bindTg, bindTgs, wip, startD, List.map_cons, List.map_nil, List.replicate, List.length_cons, List.length_nil, List.cons_append, List.nil_append, List.set_cons_zero, List.set_cons_succ, Nat.reduceAdd, Nat.reduceSub, Nat.sub_self, Nat.add_sub_cancel, List.getElem?_cons_zero, List.getElem?_cons_succ, setAll, b_isi, b_lenL, b_lenT, b_lenS, b_lenO, b_all, b_any, b_tupL, b_tupT, b_lstL, b_lstT, b_strO, b_strI, b_strS, b_intI, b_intS, b_abs, b_min, b_max, b_sum, b_dvm, b_boolO, b_reprO, b_reprL, m_joinL, m_joinT, m_split, y_join, y_split, c_lt, c_le, c_gt, c_ge, c_is, c_isn, c_eq, c_ne, c_in, c_nin, i_str, i_tup, i_lst, t_bl, t_int, n_int, o_addI, o_addS, o_addT, o_addL, o_sub, o_mul, o_fdv, o_mod, o_pow, x_lst, x_tup, x_str, l_lst, l_tup, l_str, q_lst, q_tup, q_str, e_lst, e_tup, sl_le (show z.length ≤ 100000 by omega), true_and]
    rw [eqW_s z3.ok (lit_asc rfl).ok, decide_eq_false fun e => by rw [e] at z1; exact numL_ne n z1.symm]
    refine iff_ ?_
    have e4 : decide ((4000 : Int) < z.length) = false := decide_eq_false (by omega)
    rw [e4]
    refine iff_ ?_
    rw [List.length_map]
    refine ⟨by have := len_tl z; unfold TL.tl at this; exact sl_le (by omega), ?_⟩
    refine fold_map (f := fun _ => D.bl true) _ _ (fun x hx acc K hk => ?_) ?_
    · obtain ⟨c, hc, rfl⟩ := List.mem_map.mp hx
      have hc2 : c ∈ tl z := hc
      rw [z1] at hc2
      have hd := numL_digits n c hc2
      simp only [if_true]
      refine ⟨c, rfl, ?_⟩
      have e : decide (c ∈ (Str.ofString "0123456789").cps.toList) = true := by
        refine decide_eq_true ?_
        show c ∈ tl (Str.ofString "0123456789")
        rw [tl_ofString]
        have : c = 48 ∨ c = 49 ∨ c = 50 ∨ c = 51 ∨ c = 52 ∨ c = 53 ∨ c = 54 ∨ c = 55 ∨ c = 56 ∨ c = 57 := by omega
        rcases this with e | e | e | e | e | e | e | e | e | e <;> subst e <;> decide
      rw [e]
      exact hk
    · simp only [exSs, exS, evR, evT, evS, evP, evAs, evO, evC, evI, evIF, evF, mkV, mkT, Rvd_v, Rvd_f, varW_z, varW_s, barW_z, barW_zo, barW_s, ex_bl, libW, isi_i, isi_s, isi_t, eqW_i, fzE, fzV, slotOf, bindTg, bindTgs, wip, startD, List.map_cons, List.map_nil, List.replicate, List.length_cons, List.length_nil, List.cons_append, List.nil_append, List.set_cons_zero, List.set_cons_succ, Nat.reduceAdd, Nat.reduceSub, Nat.sub_self, Nat.add_sub_cancel, List.getElem?_cons_zero, List.getElem?_cons_succ, setAll, b_isi, b_lenL, b_lenT, b_lenS, b_lenO, b_all, b_any, b_tupL, b_tupT, b_lstL, b_lstT, b_strO, b_strI, b_strS, b_intI, b_intS, b_abs, b_min, b_max, b_sum, b_dvm, b_boolO, b_reprO, b_reprL, m_joinL, m_joinT, m_split, y_join, y_split, c_lt, c_le, c_gt, c_ge, c_is, c_isn, c_eq, c_ne, c_in, c_nin, i_str, i_tup, i_lst, t_bl, t_int, n_int, o_addI, o_addS, o_addT, o_addL, o_sub, o_mul, o_fdv, o_mod, o_pow, x_lst, x_tup, x_str, l_lst, l_tup, l_str, q_lst, q_tup, q_str, e_lst, e_tup, List.map_map]
      refine ⟨_, unBl_map (f := fun _ => true) _, ?_⟩
      simp
  · rw [hG]
    simp only [exSs, exS, evR, evT, evS, evP, evAs, evO, evC, evI, evIF, evF, mkV, mkT, Rvd_v, Rvd_f, varW_z, varW_s, barW_z, barW_zo, barW_s, ex_bl, libW, isi_i, isi_s, isi_t, eqW_i, fzE, fzV, slotOf, bindTg, bindTgs, wip, startD, List.map_cons, List.map_nil, List.replicate, List.length_cons, List.length_nil, List.cons_append, List.nil_append, List.set_cons_zero, List.set_cons_succ, Nat.reduceAdd, Nat.reduceSub, Nat.sub_self, Nat.add_sub_cancel, List.getElem?_cons_zero, List.getElem?_cons_succ, setAll, b_isi, b_lenL, b_lenT, b_lenS, b_lenO, b_all, b_any, b_tupL, b_tupT, b_lstL, b_lstT, b_strO, b_strI, b_strS, b_intI, b_intS, b_abs, b_min, b_max, b_sum, b_dvm, b_boolO, b_reprO, b_reprL, m_joinL, m_joinT, m_split, y_join, y_split, c_lt, c_le, c_gt, c_ge, c_is, c_isn, c_eq, c_ne, c_in, c_nin, i_str, i_tup, i_lst, t_bl, t_int, n_int, o_addI, o_addS, o_addT, o_addL, o_sub, o_mul, o_fdv, o_mod, o_pow, x_lst, x_tup, x_str, l_lst, l_tup, l_str, q_lst, q_tup, q_str, e_lst, e_tup]
    refine ⟨i, numS_int h1 h2, by omega, ?_⟩
    refine ⟨log2_small (by omega), ?_⟩
    show eqW _ (.str (numS i)) _ _
    rw [eqW_s ha.ok ha.ok, decide_eq_true rfl]
    refine ift ?_
    exact ⟨i, numS_int h1 h2, by omega, rfl⟩
end
end
end En
namespace En
open PySem L2 PyProof.Rows TL
/-! ### the text read back, plain -/
theorem cut_ne {z y : Str} {c d : Nat} {r r' : List Nat} (k : Nat) (hz : tl z = c :: r) (hy : tl y = d :: r') (h : c ≠ d) : cutS z none (some ((k + 1 : Nat) : Int)) ≠ y := fun e => by
  have e2 := congrArg tl e
  rw [cut_pre, hz, hy, List.take_succ_cons] at e2
  injection e2 with e3
  exact h e3
theorem tl_lit_app {s : String} {c : Nat} {r : List Nat} (h : s.toList.map Char.toNat = c :: r) (t : Str) : tl (Str.ofString s ++ t) = c :: (r ++ tl t) := by
  rw [tl_append, tl_ofString, h]
  rfl
theorem bpOne_new {acc : List (List Str)} {l : Str} (h : cutS l none (some 7) = "branch ") : bpOne acc l = some (acc ++ [[l]]) := by
  unfold bpOne
  rw [if_pos h]
theorem bpOne_add {acc : List (List Str)} {g : List Str} {q l : Str} (h : cutS l none (some 7) ≠ "branch ") (hq : cutS q none (some 5) ≠ "then ") : bpOne (acc ++ [g ++ [q]]) l = some (acc ++ [g ++ [q] ++ [l]]) := by
  unfold bpOne
  rw [if_neg h]
  simp only [List.getLast?_append, List.getLast?_singleton, Option.some_or, List.dropLast_concat]
  rw [if_neg hq]
theorem bpGo_tests : ∀ (ts : List Str) (acc : List (List Str)) (g : List Str) (q : Str) (rest : List Str), (∀ t ∈ ts, cutS t none (some 7) ≠ "branch " ∧ cutS t none (some 5) ≠ "then ") → cutS q none (some 5) ≠ "then " →
    ∃ g' q', g' ++ [q'] = g ++ [q] ++ ts ∧ cutS q' none (some 5) ≠ "then " ∧ bpGo (acc ++ [g ++ [q]]) (ts ++ rest) = bpGo (acc ++ [g' ++ [q']]) rest
  | [], acc, g, q, rest, _, hq => ⟨g, q, by simp, hq, rfl⟩
  | t :: ts, acc, g, q, rest, h, hq => by
    obtain ⟨h1, h2⟩ := h t List.mem_cons_self
    obtain ⟨g', q', e1, e2, e3⟩ := bpGo_tests ts acc (g ++ [q]) t rest (fun x hx => h x (List.mem_cons_of_mem _ hx)) h2
    refine ⟨g', q', by rw [e1]; simp, e2, ?_⟩
    rw [← e3]
    show (bpOne (acc ++ [g ++ [q]]) t).bind (fun a => bpGo a (ts ++ rest)) = _
    rw [bpOne_add h1 hq]
    rfl
theorem test_cut (w : Str) : cutS ("test " ++ w) none (some 7) ≠ "branch " ∧ cutS ("test " ++ w) none (some 5) ≠ "then " := by
  refine ⟨cut_ne 6 (tl_lit_app rfl w) (tl_ofString _) (by decide), ?_⟩
  have : cutS ("test " ++ w) none (some ((5 : Nat) : Int)) = "test " := cut_app rfl
  show cutS ("test " ++ w) none (some ((5 : Nat) : Int)) ≠ "then "
  rw [this]
  intro e
  have := congrArg tl e
  rw [tl_ofString, tl_ofString] at this
  revert this
  decide
theorem then_cut (w : Str) : cutS ("then " ++ w) none (some 7) ≠ "branch " := cut_ne 6 (tl_lit_app rfl w) (tl_ofString _) (by decide)
theorem bran_cut (w : Str) : cutS ("branch " ++ w) none (some 7) = "branch " ∧ cutS ("branch " ++ w) none (some 5) ≠ "then " :=
  ⟨cut_app (k := 7) rfl, cut_ne 4 (tl_lit_app rfl w) (tl_ofString _) (by decide)⟩
theorem bpGo_arm (a : Arm) (acc : List (List Str)) (rest : List Str) : bpGo acc (armL a ++ rest) = bpGo (acc ++ [armL a]) rest := by
  unfold armL
  rw [List.cons_append, List.append_assoc]
  show (bpOne acc _).bind (fun a => bpGo a _) = _
  rw [bpOne_new (bran_cut _).1]
  show bpGo (acc ++ [[] ++ [_]]) _ = _
  obtain ⟨g', q', e1, e2, e3⟩ := bpGo_tests (a.2.2.1.map fun f => "test " ++ wordsS f) acc [] ("branch " ++ (a.1 ++ (" " ++ a.2.1))) (["then " ++ Txt.join "; " (a.2.2.2.map wordsS)] ++ rest) (fun t ht => by
    obtain ⟨f, _, rfl⟩ := List.mem_map.mp ht
    exact test_cut _) (bran_cut _).2
  rw [e3]
  show (bpOne _ _).bind (fun a => bpGo a _) = _
  rw [bpOne_add (then_cut _) e2, e1]
  show bpGo _ rest = _
  simp
theorem bpGo_arms : ∀ (as : List Arm) (acc : List (List Str)), bpGo acc (as.flatMap armL) = some (acc ++ as.map armL)
  | [], acc => by
    show some acc = _
    simp
  | a :: as, acc => by
    rw [List.flatMap_cons, bpGo_arm, bpGo_arms as]
    simp
/-! ### lines of words -/
theorem sp_num (i : Int) {s : Nat} (h : s = 32 ∨ s = 10 ∨ s = 59) : s ∉ tl (numS i) := fun hc => by
  rcases numS_ok hc with e | e <;> omega
theorem sp_nm {n : Str} (h : nmS n = true) {s : Nat} (hs : s = 32 ∨ s = 10 ∨ s = 59) : s ∉ tl n := fun hc => by
  rcases nmS_sg h s hc with e | e <;> omega
theorem lit256 {s : String} (h : (s.toList.all fun c => c.toNat < 256) = true) : (Str.ofString s).cps.all (· < 256) = true := by
  rw [Array.all_eq_true_iff_forall_mem]
  intro c hc
  have hc : c ∈ tl (Str.ofString s) := by simpa [TL.tl] using hc
  rw [tl_ofString] at hc
  obtain ⟨d, hd, rfl⟩ := List.mem_map.mp hc
  exact List.all_eq_true.mp h d hd
theorem split_sp {parts : List Str} (hne : parts ≠ []) (hp : ∀ p ∈ parts, 32 ∉ tl p) : Txt.split (Txt.join " " parts) " " = parts := split_join (s := 32) (S := []) rfl (lit256 rfl) hne hp
theorem split_nl {parts : List Str} (hne : parts ≠ []) (hp : ∀ p ∈ parts, 10 ∉ tl p) : Txt.split (Txt.join "\n" parts) "\n" = parts := split_join (s := 10) (S := []) rfl (lit256 rfl) hne hp
theorem split_sc {parts : List Str} (hne : parts ≠ []) (hp : ∀ p ∈ parts, 59 ∉ tl p) : Txt.split (Txt.join "; " parts) "; " = parts := split_join (s := 59) (S := [32]) rfl (lit256 rfl) hne hp
theorem words_split {f : List Int} (hf : f ≠ []) : Txt.split (wordsS f) " " = f.map numS := by
  refine split_sp (fun e => hf (List.map_eq_nil_iff.mp e)) fun p hp => ?_
  obtain ⟨i, _, rfl⟩ := List.mem_map.mp hp
  exact sp_num i (.inl rfl)
theorem join_cc (y a b : Str) (r : List Str) : Txt.join y (a :: b :: r) = a ++ (y ++ Txt.join y (b :: r)) := by
  refine ext_tl ?_
  rw [join_eq, join_eq, tl_append, tl_append, tl_join, tl_join]
  rfl
theorem join_one (y a : Str) : Txt.join y [a] = a := by
  rw [join_eq]
  rfl
theorem lit_app (a b : String) : Str.ofString (a ++ b) = Str.ofString a ++ Str.ofString b := by
  refine ext_tl ?_
  rw [tl_append, tl_ofString, tl_ofString, tl_ofString, String.toList_append, List.map_append]
theorem say_split {s : Say} (h1 : nmS s.1 = true) (h2 : s.2 ≠ []) : Txt.split (sayL s) " " = Str.ofString "say" :: s.1 :: s.2.map numS := by
  have e : sayL s = Txt.join " " (Str.ofString "say" :: s.1 :: s.2.map numS) := by
    cases hs : s.2.map numS with
    | nil => exact absurd (List.map_eq_nil_iff.mp hs) h2
    | cons x xs =>
      rw [join_cc, join_cc, ← hs]
      show (Str.ofString ("say" ++ " ")) ++ _ = _
      rw [lit_app, app_asc]
      rfl
  rw [e]
  refine split_sp (by simp) fun p hp => ?_
  rcases List.mem_cons.mp hp with z | hp
  · subst z
    rw [tl_ofString]
    decide
  · rcases List.mem_cons.mp hp with z | hp
    · subst z
      exact sp_nm h1 (.inl rfl)
    · obtain ⟨i, _, rfl⟩ := List.mem_map.mp hp
      exact sp_num i (.inl rfl)
theorem head_split {a b : Str} (h1 : nmS a = true) (h2 : nmS b = true) : Txt.split ("branch " ++ (a ++ (" " ++ b))) " " = [Str.ofString "branch", a, b] := by
  have e : ("branch " ++ (a ++ (" " ++ b)) : Str) = Txt.join " " [Str.ofString "branch", a, b] := by
    rw [join_cc, join_cc, join_one]
    show (Str.ofString ("branch" ++ " ")) ++ _ = _
    rw [lit_app, app_asc]
  rw [e]
  refine split_sp (by simp) fun p hp => ?_
  rcases List.mem_cons.mp hp with z | hp
  · subst z
    rw [tl_ofString]
    decide
  · rcases List.mem_cons.mp hp with z | hp
    · subst z
      exact sp_nm h1 (.inl rfl)
    · rw [List.mem_singleton] at hp
      subst hp
      exact sp_nm h2 (.inl rfl)
theorem words_free {f : List Int} {s : Nat} (h : s = 10 ∨ s = 59) : s ∉ tl (wordsS f) := fun hc => by
  have : sg (fun c => c = 45 ∨ (48 ≤ c ∧ c ≤ 57) ∨ c = 32) (wordsS f) := sg.join (fun c hc => by
    rw [tl_ofString] at hc
    have : c = 32 := by simpa using hc
    omega) fun x hx => by
      obtain ⟨i, _, rfl⟩ := List.mem_map.mp hx
      intro c hc
      rcases numS_ok hc with e | e
      · exact .inl e
      · exact .inr (.inl e)
  have := this s hc
  omega
theorem then_split {ws : List (List Int)} (h : ws ≠ []) : Txt.split (Txt.join "; " (ws.map wordsS)) "; " = ws.map wordsS := by
  refine split_sc (fun e => h (List.map_eq_nil_iff.mp e)) fun p hp => ?_
  obtain ⟨f, _, rfl⟩ := List.mem_map.mp hp
  exact words_free (.inr rfl)
/-- signs that stand in no line but between lines -/
theorem lines_free {ns : List Str} {ss : List Say} {as : List Arm} (g : Good ns ss as) {x : Str} (hx : x ∈ linesP ns ss as) : sg (fun c => c = 45 ∨ (97 ≤ c ∧ c ≤ 122) ∨ (48 ≤ c ∧ c ≤ 57) ∨ c = 32 ∨ c = 59) x := by
  have lt : ∀ s : String, (s.toList.all fun c => c.toNat == 45 || (decide (97 ≤ c.toNat) && decide (c.toNat ≤ 122)) || c.toNat == 32 || c.toNat == 59) = true → sg (fun c => c = 45 ∨ (97 ≤ c ∧ c ≤ 122) ∨ (48 ≤ c ∧ c ≤ 57) ∨ c = 32 ∨ c = 59) (Str.ofString s) := fun s h c hc => by
    rw [tl_ofString] at hc
    obtain ⟨d, hd, rfl⟩ := List.mem_map.mp hc
    have := List.all_eq_true.mp h d hd
    simp only [Bool.or_eq_true, Bool.and_eq_true, beq_iff_eq, decide_eq_true_eq] at this
    omega
  have nm : ∀ s, nmS s = true → sg (fun c => c = 45 ∨ (97 ≤ c ∧ c ≤ 122) ∨ (48 ≤ c ∧ c ≤ 57) ∨ c = 32 ∨ c = 59) s := fun s h c hc => by
    rcases nmS_sg h c hc with e | e <;> omega
  have wd : ∀ f, sg (fun c => c = 45 ∨ (97 ≤ c ∧ c ≤ 122) ∨ (48 ≤ c ∧ c ≤ 57) ∨ c = 32 ∨ c = 59) (wordsS f) := fun f => sg.join (lt " " rfl) fun x hx => by
    obtain ⟨i, _, rfl⟩ := List.mem_map.mp hx
    intro c hc
    rcases numS_ok hc with e | e <;> omega
  rcases List.mem_cons.mp hx with e | h
  · subst e
    exact sg.app (lt _ rfl) (sg.join (lt _ rfl) fun x hx => nm x (g.n3 x hx))
  · rcases List.mem_append.mp h with h | h
    · obtain ⟨s, hs, rfl⟩ := List.mem_map.mp h
      exact sg.app (lt _ rfl) (sg.app (nm _ (g.s2 s hs).1) (sg.app (lt _ rfl) (wd _)))
    · obtain ⟨a, ha, h⟩ := List.mem_flatMap.mp h
      obtain ⟨h1, h2, h3, h4, h5, h6⟩ := g.a3 a ha
      rcases List.mem_cons.mp h with e | h
      · subst e
        exact sg.app (lt _ rfl) (sg.app (nm _ h1) (sg.app (lt _ rfl) (nm _ h2)))
      · rcases List.mem_append.mp h with h | h
        · obtain ⟨f, hf, rfl⟩ := List.mem_map.mp h
          exact sg.app (lt _ rfl) (wd _)
        · rw [List.mem_singleton] at h
          subst h
          exact sg.app (lt _ rfl) (sg.join (lt _ rfl) fun x hx => by
            obtain ⟨f, _, rfl⟩ := List.mem_map.mp hx
            exact wd _)
theorem text_split {ns : List Str} {ss : List Say} {as : List Arm} (g : Good ns ss as) : Txt.split (textP ns ss as) "\n" = linesP ns ss as :=
  split_nl (by simp [linesP]) fun p hp hc => by
    have := lines_free g hp 10 hc
    omega
theorem line_asc {ns : List Str} {ss : List Say} {as : List Arm} (g : Good ns ss as) {x : Str} (hx : x ∈ linesP ns ss as) : asc x := fun c hc => by
  have := lines_free g hx c hc
  omega
end En
namespace En
open PySem L2 PyProof.Rows TL
/-! ### reading, whole -/
theorem cut_inner {x y : D} {ms : List D} : cutD (x :: (ms ++ [y])) (some 1) (some (-1)) = ms := by
  unfold cutD
  have h1 : HT.sIx (x :: (ms ++ [y])).length 0 (some 1) = 1 := by
    show HT.sIx (x :: (ms ++ [y])).length 0 (some ((1 : Nat) : Int)) = 1
    rw [HT.sIx_nat]
    simp
  have h2 : HT.sIx (x :: (ms ++ [y])).length (x :: (ms ++ [y])).length (some (-1)) = ms.length + 1 := by
    unfold HT.sIx
    simp
    omega
  rw [h1, h2, List.drop_one, List.tail_cons, Nat.add_sub_cancel, List.take_left']
  rfl
theorem atI_lst {x y : D} {ms : List D} : atI (x :: (ms ++ [y])) (-1) = some y := by
  unfold atI ixN
  simp
  rw [if_pos (by omega)]
  have : (-1 + ((ms.length : Int) + 1 + 1)).toNat = ms.length + 1 := by omega
  simp [this]
theorem atI_one {α : Type} {x y : α} {xs : List α} : atI (x :: y :: xs) 1 = some y := atI_nat (i := 1) rfl
theorem atI_two {α : Type} {x y z : α} {xs : List α} : atI (x :: y :: z :: xs) 2 = some z := atI_nat (i := 2) rfl
theorem frm.ne {n : Nat} {f : List Int} (h : frm n f) : f ≠ [] := fun e => by
  have := h.1
  rw [e] at this
  cases this
section
variable {sub : Sub} {fs : List (Str × Fn)} {l : List (Str × Prim)} {G : Cfg} (hG : G.B = libW sub) (H : PfH fs) (P : PlH G.B fs l) (hm : ∀ k, MonoC (CW G fs l k))
section
include hG H hm
theorem text_form_ok {k n : Nat} {f : List Int} (hf : frm n f) (hn : n ≤ 3) {Q : Rv → Prop} {E : XP} (q : Q (.v (formD f))) : CW G fs l (k + 2) "text_form" [.lst ((f.map numS).map D.str)] Q E := by
  have hB : G.B.Mono := by rw [hG]; exact libW_mono sub
  have hl := hf.1
  refine cw_fn_mk H.f_text_form rfl ?_
  refine ss_c (s_set hB (hm _) (.v (formD f)) ?_ ?_)
  · rw [hG]
    simp only [exSs, exS, evR, evT, evS, evP, evAs, evO, evC, evI, evIF, evF, mkV, mkT, Rvd_v, Rvd_f, varW_z, varW_s, barW_z, barW_zo, barW_s, ex_bl, libW, isi_i, isi_s, isi_t, eqW_i, fzE, fzV, slotOf, bindTg, bindTgs, wip, startD, List.map_cons, List.map_nil, List.replicate, List.length_cons, List.length_nil, List.cons_append, List.nil_append, List.set_cons_zero, List.set_cons_succ, Nat.reduceAdd, Nat.reduceSub, Nat.sub_self, Nat.add_sub_cancel, List.getElem?_cons_zero, List.getElem?_cons_succ, setAll, b_isi, b_lenL, b_lenT, b_lenS, b_lenO, b_all, b_any, b_tupL, b_tupT, b_lstL, b_lstT, b_strO, b_strI, b_strS, b_intI, b_intS, b_abs, b_min, b_max, b_sum, b_dvm, b_boolO, b_reprO, b_reprL, m_joinL, m_joinT, m_split, y_join, y_split, c_lt, c_le, c_gt, c_ge, c_is, c_isn, c_eq, c_ne, c_in, c_nin, i_str, i_tup, i_lst, t_bl, t_int, n_int, o_addI, o_addS, o_addT, o_addL, o_sub, o_mul, o_fdv, o_mod, o_pow, x_lst, x_tup, x_str, l_lst, l_tup, l_str, q_lst, q_tup, q_str, e_lst, e_tup, List.length_map]
    refine ⟨sl_le (by omega), ?_⟩
    refine fold_map (f := fun x => match x with | .str s => D.int ((intText? s).getD 0) | _ => .non) _ _ (fun x hx acc K hk => ?_) ?_
    · obtain ⟨s, hs, rfl⟩ := List.mem_map.mp hx
      obtain ⟨i, hi, rfl⟩ := List.mem_map.mp hs
      simp only [if_true]
      refine written_integer_ok hG H hm (hf.2 i hi).1 (hf.2 i hi).2 ?_
      simp only [numS_int (hf.2 i hi).1 (hf.2 i hi).2] at hk
      exact hk
    · simp only [exSs, exS, evR, evT, evS, evP, evAs, evO, evC, evI, evIF, evF, mkV, mkT, Rvd_v, Rvd_f, varW_z, varW_s, barW_z, barW_zo, barW_s, ex_bl, libW, isi_i, isi_s, isi_t, eqW_i, fzE, fzV, slotOf, bindTg, bindTgs, wip, startD, List.map_cons, List.map_nil, List.replicate, List.length_cons, List.length_nil, List.cons_append, List.nil_append, List.set_cons_zero, List.set_cons_succ, Nat.reduceAdd, Nat.reduceSub, Nat.sub_self, Nat.add_sub_cancel, List.getElem?_cons_zero, List.getElem?_cons_succ, setAll, b_isi, b_lenL, b_lenT, b_lenS, b_lenO, b_all, b_any, b_tupL, b_tupT, b_lstL, b_lstT, b_strO, b_strI, b_strS, b_intI, b_intS, b_abs, b_min, b_max, b_sum, b_dvm, b_boolO, b_reprO, b_reprL, m_joinL, m_joinT, m_split, y_join, y_split, c_lt, c_le, c_gt, c_ge, c_is, c_isn, c_eq, c_ne, c_in, c_nin, i_str, i_tup, i_lst, t_bl, t_int, n_int, o_addI, o_addS, o_addT, o_addL, o_sub, o_mul, o_fdv, o_mod, o_pow, x_lst, x_tup, x_str, l_lst, l_tup, l_str, q_lst, q_tup, q_str, e_lst, e_tup, List.map_map]
      unfold formD
      refine congrArg (fun z => Rv.v (D.tup z)) (List.map_congr_left fun i hi => ?_)
      simp only [Function.comp, numS_int (hf.2 i hi).1 (hf.2 i hi).2]
      rfl
  refine ss_c (s_ret hB (hm _) (.v (formD f)) ?_ q)
  rw [hG]
  unfold formD
  simp only [exSs, exS, evR, evT, evS, evP, evAs, evO, evC, evI, evIF, evF, mkV, mkT, Rvd_v, Rvd_f, varW_z, varW_s, barW_z, barW_zo, barW_s, ex_bl, libW, isi_i, isi_s, isi_t, eqW_i, fzE, fzV, slotOf, bindTg, bindTgs, wip, startD, List.map_cons, List.map_nil, List.replicate, List.length_cons, List.length_nil, List.cons_append, List.nil_append, List.set_cons_zero, List.set_cons_succ, Nat.reduceAdd, Nat.reduceSub, Nat.sub_self, Nat.add_sub_cancel, List.getElem?_cons_zero, List.getElem?_cons_succ, setAll, b_isi, b_lenL, b_lenT, b_lenS, b_lenO, b_all, b_any, b_tupL, b_tupT, b_lstL, b_lstT, b_strO, b_strI, b_strS, b_intI, b_intS, b_abs, b_min, b_max, b_sum, b_dvm, b_boolO, b_reprO, b_reprL, m_joinL, m_joinT, m_split, y_join, y_split, c_lt, c_le, c_gt, c_ge, c_is, c_isn, c_eq, c_ne, c_in, c_nin, i_str, i_tup, i_lst, t_bl, t_int, n_int, o_addI, o_addS, o_addT, o_addL, o_sub, o_mul, o_fdv, o_mod, o_pow, x_lst, x_tup, x_str, l_lst, l_tup, l_str, q_lst, q_tup, q_str, e_lst, e_tup]
  refine ⟨rfl, ?_, ?_⟩
  · rw [List.all_eq_true]
    intro x hx
    obtain ⟨i, _, rfl⟩ := List.mem_map.mp hx
    rfl
  · have e : ((f.map D.int).any fun y => eqF y .non) = false := by
      rw [List.any_eq_false]
      intro x hx
      obtain ⟨i, _, rfl⟩ := List.mem_map.mp hx
      simp [eqF]
    rw [e]
    refine iff_ trivial
theorem text_saying_ok {k n : Nat} {s : Say} (h1 : nmS s.1 = true) (h2 : frm n s.2) (hn : n ≤ 3) {Q : Rv → Prop} {E : XP} (q : Q (.v (sayD s))) : CW G fs l (k + 3) "text_saying" [.str (sayL s)] Q E := by
  have hB : G.B.Mono := by rw [hG]; exact libW_mono sub
  have hl := h2.1
  have l1 := nmS_len h1
  have l2 := wordsS_len h2 hn
  refine cw_fn_mk H.f_text_saying rfl ?_
  refine ss_c (s_set hB (hm _) (.fr ((Txt.split (sayL s) (Str.ofString " ")).map D.str)) ?_ ?_)
  · rw [hG]
    simp only [exSs, exS, evR, evT, evS, evP, evAs, evO, evC, evI, evIF, evF, mkV, mkT, Rvd_v, Rvd_f, varW_z, varW_s, barW_z, barW_zo, barW_s, ex_bl, libW, isi_i, isi_s, isi_t, eqW_i, fzE, fzV, slotOf, bindTg, bindTgs, wip, startD, List.map_cons, List.map_nil, List.replicate, List.length_cons, List.length_nil, List.cons_append, List.nil_append, List.set_cons_zero, List.set_cons_succ, Nat.reduceAdd, Nat.reduceSub, Nat.sub_self, Nat.add_sub_cancel, List.getElem?_cons_zero, List.getElem?_cons_succ, setAll, b_isi, b_lenL, b_lenT, b_lenS, b_lenO, b_all, b_any, b_tupL, b_tupT, b_lstL, b_lstT, b_strO, b_strI, b_strS, b_intI, b_intS, b_abs, b_min, b_max, b_sum, b_dvm, b_boolO, b_reprO, b_reprL, m_joinL, m_joinT, m_split, y_join, y_split, c_lt, c_le, c_gt, c_ge, c_is, c_isn, c_eq, c_ne, c_in, c_nin, i_str, i_tup, i_lst, t_bl, t_int, n_int, o_addI, o_addS, o_addT, o_addL, o_sub, o_mul, o_fdv, o_mod, o_pow, x_lst, x_tup, x_str, l_lst, l_tup, l_str, q_lst, q_tup, q_str, e_lst, e_tup, true_and]
    refine ⟨rfl, ?_, trivial⟩
    have e4 : (Str.ofString "say ").length = 4 := rfl
    have e1 : (Str.ofString " ").length = 1 := rfl
    unfold sayL
    rw [app_len, app_len, app_len]
    exact sl_le (by omega)
  have es : Txt.split (sayL s) (Str.ofString " ") = _ := say_split h1 h2.ne
  rw [es]
  refine ss_c (s_ret hB (hm _) (.v (sayD s)) ?_ q)
  rw [hG]
  simp only [exSs, exS, evR, evT, evS, evP, evAs, evO, evC, evI, evIF, evF, mkV, mkT, Rvd_v, Rvd_f, varW_z, varW_s, barW_z, barW_zo, barW_s, ex_bl, libW, isi_i, isi_s, isi_t, eqW_i, fzE, fzV, slotOf, bindTg, bindTgs, wip, startD, List.map_cons, List.map_nil, List.replicate, List.length_cons, List.length_nil, List.cons_append, List.nil_append, List.set_cons_zero, List.set_cons_succ, Nat.reduceAdd, Nat.reduceSub, Nat.sub_self, Nat.add_sub_cancel, List.getElem?_cons_zero, List.getElem?_cons_succ, setAll, b_isi, b_lenL, b_lenT, b_lenS, b_lenO, b_all, b_any, b_tupL, b_tupT, b_lstL, b_lstT, b_strO, b_strI, b_strS, b_intI, b_intS, b_abs, b_min, b_max, b_sum, b_dvm, b_boolO, b_reprO, b_reprL, m_joinL, m_joinT, m_split, y_join, y_split, c_lt, c_le, c_gt, c_ge, c_is, c_isn, c_eq, c_ne, c_in, c_nin, i_str, i_tup, i_lst, t_bl, t_int, n_int, o_addI, o_addS, o_addT, o_addL, o_sub, o_mul, o_fdv, o_mod, o_pow, x_lst, x_tup, x_str, l_lst, l_tup, l_str, q_lst, q_tup, q_str, e_lst, e_tup, List.length_map]
  have e : decide ((2 : Int) < ((s.2.length + 1 + 1 : Nat) : Int)) = true := decide_eq_true (by omega)
  rw [e]
  refine ift ?_
  refine ⟨_, atI_one, ?_⟩
  refine ⟨2, rfl, ?_⟩
  have ec : cutD (D.str (Str.ofString "say") :: D.str s.1 :: (s.2.map numS).map D.str) (some ((2 : Nat) : Int)) none = (s.2.map numS).map D.str := cut_drop
  have ec : cutD (D.str (Str.ofString "say") :: D.str s.1 :: (s.2.map numS).map D.str) (some 2) none = (s.2.map numS).map D.str := ec
  rw [ec]
  refine text_form_ok hG H hm h2 hn ?_
  exact ⟨sl_le (by omega), rfl⟩
theorem text_branch_ok {k n : Nat} {a : Arm} (hn : n ≤ 3) (hn1 : 1 ≤ n) (ha : nmS a.1 = true ∧ nmS a.2.1 = true ∧ a.2.2.1.length ≤ 3 ∧ a.2.2.2.length = n ∧ (∀ f ∈ a.2.2.1, frm n f) ∧ ∀ f ∈ a.2.2.2, frm n f) {Q : Rv → Prop} {E : XP} (q : Q (.v (armD a))) : CW G fs l (k + 3) "text_branch" [.lst ((armL a).map D.str)] Q E := by
  have hB : G.B.Mono := by rw [hG]; exact libW_mono sub
  obtain ⟨h1, h2, h3, h4, h5, h6⟩ := ha
  have l1 := nmS_len h1
  have l2 := nmS_len h2
  have e5 : (Str.ofString "then ").length = 5 := rfl
  have e5' : (Str.ofString "test ").length = 5 := rfl
  have hw : a.2.2.2 ≠ [] := fun e => by rw [e] at h4; simp at h4; omega
  have b6 : ∀ x ∈ a.2.2.2.map wordsS, x.length ≤ 36 := fun x hx => by
    obtain ⟨f, hf, rfl⟩ := List.mem_map.mp hx
    exact wordsS_len (h6 f hf) hn
  have lth : (Txt.join "; " (a.2.2.2.map wordsS)).length ≤ 200 := by
    have := join_len (y := ("; " : Str)) b6
    rw [List.length_map] at this
    have e2 : ("; " : Str).length = 2 := rfl
    rw [e2] at this
    omega
  have em : (armL a).map D.str = D.str ("branch " ++ (a.1 ++ (" " ++ a.2.1))) :: ((a.2.2.1.map fun f => "test " ++ wordsS f).map D.str ++ [D.str ("then " ++ Txt.join "; " (a.2.2.2.map wordsS))]) := by
    unfold armL
    rw [List.map_cons, List.map_append]
    rfl
  rw [em]
  refine cw_fn_mk H.f_text_branch rfl ?_
  refine ss_c (s_set hB (hm _) (.fr ([Str.ofString "branch", a.1, a.2.1].map D.str)) ?_ ?_)
  · rw [hG]
    simp only [exSs, exS, evR, evT, evS, evP, evAs, evO, evC, evI, evIF, evF, mkV, mkT, Rvd_v, Rvd_f, varW_z, varW_s, barW_z, barW_zo, barW_s, ex_bl, libW, isi_i, isi_s, isi_t, eqW_i, fzE, fzV, slotOf, bindTg, bindTgs, wip, startD, List.map_cons, List.map_nil, List.replicate, List.length_cons, List.length_nil, List.cons_append, List.nil_append, List.set_cons_zero, List.set_cons_succ, Nat.reduceAdd, Nat.reduceSub, Nat.sub_self, Nat.add_sub_cancel, List.getElem?_cons_zero, List.getElem?_cons_succ, setAll, b_isi, b_lenL, b_lenT, b_lenS, b_lenO, b_all, b_any, b_tupL, b_tupT, b_lstL, b_lstT, b_strO, b_strI, b_strS, b_intI, b_intS, b_abs, b_min, b_max, b_sum, b_dvm, b_boolO, b_reprO, b_reprL, m_joinL, m_joinT, m_split, y_join, y_split, c_lt, c_le, c_gt, c_ge, c_is, c_isn, c_eq, c_ne, c_in, c_nin, i_str, i_tup, i_lst, t_bl, t_int, n_int, o_addI, o_addS, o_addT, o_addL, o_sub, o_mul, o_fdv, o_mod, o_pow, x_lst, x_tup, x_str, l_lst, l_tup, l_str, q_lst, q_tup, q_str, e_lst, e_tup]
    refine ⟨_, atI_zero, rfl, ?_⟩
    refine ⟨rfl, ?_, ?_⟩
    · have e4 : (Str.ofString "branch ").length = 7 := rfl
      have e1 : (Str.ofString " ").length = 1 := rfl
      rw [app_len, app_len, app_len]
      exact sl_le (by omega)
    · have es : Txt.split ("branch " ++ (a.1 ++ (" " ++ a.2.1))) (Str.ofString " ") = _ := head_split h1 h2
      rw [es]
      rfl
  refine ss_c (s_if hB (hm _) false ?_ (ss_n (ss_c (s_set hB (hm _) (.v (.tup (a.2.2.1.map formD))) ?_ ?_))))
  · rw [hG]
    simp only [exSs, exS, evR, evT, evS, evP, evAs, evO, evC, evI, evIF, evF, mkV, mkT, Rvd_v, Rvd_f, varW_z, varW_s, barW_z, barW_zo, barW_s, ex_bl, libW, isi_i, isi_s, isi_t, eqW_i, fzE, fzV, slotOf, bindTg, bindTgs, wip, startD, List.map_cons, List.map_nil, List.replicate, List.length_cons, List.length_nil, List.cons_append, List.nil_append, List.set_cons_zero, List.set_cons_succ, Nat.reduceAdd, Nat.reduceSub, Nat.sub_self, Nat.add_sub_cancel, List.getElem?_cons_zero, List.getElem?_cons_succ, setAll, b_isi, b_lenL, b_lenT, b_lenS, b_lenO, b_all, b_any, b_tupL, b_tupT, b_lstL, b_lstT, b_strO, b_strI, b_strS, b_intI, b_intS, b_abs, b_min, b_max, b_sum, b_dvm, b_boolO, b_reprO, b_reprL, m_joinL, m_joinT, m_split, y_join, y_split, c_lt, c_le, c_gt, c_ge, c_is, c_isn, c_eq, c_ne, c_in, c_nin, i_str, i_tup, i_lst, t_bl, t_int, n_int, o_addI, o_addS, o_addT, o_addL, o_sub, o_mul, o_fdv, o_mod, o_pow, x_lst, x_tup, x_str, l_lst, l_tup, l_str, q_lst, q_tup, q_str, e_lst, e_tup, List.length_map]
    refine iff_ ?_
    refine ⟨_, atI_lst, 5, rfl, ?_⟩
    refine ⟨by rw [app_len]; exact sl_le (by omega), ?_⟩
    have ec : cutS ("then " ++ Txt.join "; " (a.2.2.2.map wordsS)) none (some ((5 : Nat) : Int)) = "then " := cut_app rfl
    have ec : cutS ("then " ++ Txt.join "; " (a.2.2.2.map wordsS)) none (some 5) = "then " := ec
    rw [ec]
    simp only [Rvd_v]
    rw [eqW_s (lit_asc rfl).ok (lit_asc rfl).ok, decide_eq_true rfl]
    refine iff_ ?_
    refine ⟨1, rfl, -1, rfl, ?_⟩
    rw [cut_inner, List.length_map, List.length_map]
    refine ⟨sl_le (by omega), ?_⟩
    refine fold_map (f := fun _ => D.bl false) _ _ (fun x hx acc K hk => ?_) ?_
    · obtain ⟨s, hs, rfl⟩ := List.mem_map.mp hx
      obtain ⟨f, hf, rfl⟩ := List.mem_map.mp hs
      have l3 := wordsS_len (h5 f hf) hn
      simp only [exSs, exS, evR, evT, evS, evP, evAs, evO, evC, evI, evIF, evF, mkV, mkT, Rvd_v, Rvd_f, varW_z, varW_s, barW_z, barW_zo, barW_s, ex_bl, libW, isi_i, isi_s, isi_t, eqW_i, fzE, fzV, slotOf, bindTg, bindTgs, wip, startD, List.map_cons, List.map_nil, List.replicate, List.length_cons, List.length_nil, List.cons_append, List.nil_append, List.set_cons_zero, List.set_cons_succ, Nat.reduceAdd, Nat.reduceSub, Nat.sub_self, Nat.add_sub_cancel, List.getElem?_cons_zero, List.getElem?_cons_succ, setAll, b_isi, b_lenL, b_lenT, b_lenS, b_lenO, b_all, b_any, b_tupL, b_tupT, b_lstL, b_lstT, b_strO, b_strI, b_strS, b_intI, b_intS, b_abs, b_min, b_max, b_sum, b_dvm, b_boolO, b_reprO, b_reprL, m_joinL, m_joinT, m_split, y_join, y_split, c_lt, c_le, c_gt, c_ge, c_is, c_isn, c_eq, c_ne, c_in, c_nin, i_str, i_tup, i_lst, t_bl, t_int, n_int, o_addI, o_addS, o_addT, o_addL, o_sub, o_mul, o_fdv, o_mod, o_pow, x_lst, x_tup, x_str, l_lst, l_tup, l_str, q_lst, q_tup, q_str, e_lst, e_tup, if_true]
      refine ⟨5, rfl, ?_⟩
      refine ⟨by rw [app_len]; exact sl_le (by omega), ?_⟩
      have ec : cutS ("test " ++ wordsS f) none (some ((5 : Nat) : Int)) = "test " := cut_app rfl
      have ec : cutS ("test " ++ wordsS f) none (some 5) = "test " := ec
      rw [ec, eqW_s (lit_asc rfl).ok (lit_asc rfl).ok, decide_eq_true rfl]
      exact hk
    · simp only [exSs, exS, evR, evT, evS, evP, evAs, evO, evC, evI, evIF, evF, mkV, mkT, Rvd_v, Rvd_f, varW_z, varW_s, barW_z, barW_zo, barW_s, ex_bl, libW, isi_i, isi_s, isi_t, eqW_i, fzE, fzV, slotOf, bindTg, bindTgs, wip, startD, List.map_cons, List.map_nil, List.replicate, List.length_cons, List.length_nil, List.cons_append, List.nil_append, List.set_cons_zero, List.set_cons_succ, Nat.reduceAdd, Nat.reduceSub, Nat.sub_self, Nat.add_sub_cancel, List.getElem?_cons_zero, List.getElem?_cons_succ, setAll, b_isi, b_lenL, b_lenT, b_lenS, b_lenO, b_all, b_any, b_tupL, b_tupT, b_lstL, b_lstT, b_strO, b_strI, b_strS, b_intI, b_intS, b_abs, b_min, b_max, b_sum, b_dvm, b_boolO, b_reprO, b_reprL, m_joinL, m_joinT, m_split, y_join, y_split, c_lt, c_le, c_gt, c_ge, c_is, c_isn, c_eq, c_ne, c_in, c_nin, i_str, i_tup, i_lst, t_bl, t_int, n_int, o_addI, o_addS, o_addT, o_addL, o_sub, o_mul, o_fdv, o_mod, o_pow, x_lst, x_tup, x_str, l_lst, l_tup, l_str, q_lst, q_tup, q_str, e_lst, e_tup, List.map_map]
      refine ⟨_, unBl_map (f := fun _ => false) _, ?_⟩
      simp
  · rw [hG]
    simp only [exSs, exS, evR, evT, evS, evP, evAs, evO, evC, evI, evIF, evF, mkV, mkT, Rvd_v, Rvd_f, varW_z, varW_s, barW_z, barW_zo, barW_s, ex_bl, libW, isi_i, isi_s, isi_t, eqW_i, fzE, fzV, slotOf, bindTg, bindTgs, wip, startD, List.map_cons, List.map_nil, List.replicate, List.length_cons, List.length_nil, List.cons_append, List.nil_append, List.set_cons_zero, List.set_cons_succ, Nat.reduceAdd, Nat.reduceSub, Nat.sub_self, Nat.add_sub_cancel, List.getElem?_cons_zero, List.getElem?_cons_succ, setAll, b_isi, b_lenL, b_lenT, b_lenS, b_lenO, b_all, b_any, b_tupL, b_tupT, b_lstL, b_lstT, b_strO, b_strI, b_strS, b_intI, b_intS, b_abs, b_min, b_max, b_sum, b_dvm, b_boolO, b_reprO, b_reprL, m_joinL, m_joinT, m_split, y_join, y_split, c_lt, c_le, c_gt, c_ge, c_is, c_isn, c_eq, c_ne, c_in, c_nin, i_str, i_tup, i_lst, t_bl, t_int, n_int, o_addI, o_addS, o_addT, o_addL, o_sub, o_mul, o_fdv, o_mod, o_pow, x_lst, x_tup, x_str, l_lst, l_tup, l_str, q_lst, q_tup, q_str, e_lst, e_tup, List.length_map]
    refine ⟨1, rfl, -1, rfl, ?_⟩
    rw [cut_inner, List.length_map, List.length_map]
    refine ⟨sl_le (by omega), ?_⟩
    refine fold_map (f := fun x => match x with | .str s => .tup ((Txt.split (cutS s (some 5) none) " ").map fun y => D.int ((intText? y).getD 0)) | _ => .non) _ _ (fun x hx acc K hk => ?_) ?_
    · obtain ⟨s, hs, rfl⟩ := List.mem_map.mp hx
      obtain ⟨f, hf, rfl⟩ := List.mem_map.mp hs
      have l3 := wordsS_len (h5 f hf) hn
      simp only [exSs, exS, evR, evT, evS, evP, evAs, evO, evC, evI, evIF, evF, mkV, mkT, Rvd_v, Rvd_f, varW_z, varW_s, barW_z, barW_zo, barW_s, ex_bl, libW, isi_i, isi_s, isi_t, eqW_i, fzE, fzV, slotOf, bindTg, bindTgs, wip, startD, List.map_cons, List.map_nil, List.replicate, List.length_cons, List.length_nil, List.cons_append, List.nil_append, List.set_cons_zero, List.set_cons_succ, Nat.reduceAdd, Nat.reduceSub, Nat.sub_self, Nat.add_sub_cancel, List.getElem?_cons_zero, List.getElem?_cons_succ, setAll, b_isi, b_lenL, b_lenT, b_lenS, b_lenO, b_all, b_any, b_tupL, b_tupT, b_lstL, b_lstT, b_strO, b_strI, b_strS, b_intI, b_intS, b_abs, b_min, b_max, b_sum, b_dvm, b_boolO, b_reprO, b_reprL, m_joinL, m_joinT, m_split, y_join, y_split, c_lt, c_le, c_gt, c_ge, c_is, c_isn, c_eq, c_ne, c_in, c_nin, i_str, i_tup, i_lst, t_bl, t_int, n_int, o_addI, o_addS, o_addT, o_addL, o_sub, o_mul, o_fdv, o_mod, o_pow, x_lst, x_tup, x_str, l_lst, l_tup, l_str, q_lst, q_tup, q_str, e_lst, e_tup, if_true]
      refine ⟨5, rfl, ?_⟩
      refine ⟨by rw [app_len]; exact sl_le (by omega), trivial, ?_⟩
      have ec : cutS ("test " ++ wordsS f) (some ((5 : Nat) : Int)) none = wordsS f := cut_rest rfl
      have ec : cutS ("test " ++ wordsS f) (some 5) none = wordsS f := ec
      have es : Txt.split (wordsS f) (Str.ofString " ") = _ := words_split (h5 f hf).ne
      simp only [ec, es] at hk ⊢
      refine ⟨rfl, sl_le (by omega), ?_⟩
      refine text_form_ok hG H hm (h5 f hf) hn ?_
      have ef : ((f.map numS).map fun y => D.int ((intText? y).getD 0)) = f.map D.int := by
        rw [List.map_map]
        refine List.map_congr_left fun i hi => ?_
        simp only [Function.comp, numS_int ((h5 f hf).2 i hi).1 ((h5 f hf).2 i hi).2]
        rfl
      rw [ef] at hk
      exact hk
    · simp only [exSs, exS, evR, evT, evS, evP, evAs, evO, evC, evI, evIF, evF, mkV, mkT, Rvd_v, Rvd_f, varW_z, varW_s, barW_z, barW_zo, barW_s, ex_bl, libW, isi_i, isi_s, isi_t, eqW_i, fzE, fzV, slotOf, bindTg, bindTgs, wip, startD, List.map_cons, List.map_nil, List.replicate, List.length_cons, List.length_nil, List.cons_append, List.nil_append, List.set_cons_zero, List.set_cons_succ, Nat.reduceAdd, Nat.reduceSub, Nat.sub_self, Nat.add_sub_cancel, List.getElem?_cons_zero, List.getElem?_cons_succ, setAll, b_isi, b_lenL, b_lenT, b_lenS, b_lenO, b_all, b_any, b_tupL, b_tupT, b_lstL, b_lstT, b_strO, b_strI, b_strS, b_intI, b_intS, b_abs, b_min, b_max, b_sum, b_dvm, b_boolO, b_reprO, b_reprL, m_joinL, m_joinT, m_split, y_join, y_split, c_lt, c_le, c_gt, c_ge, c_is, c_isn, c_eq, c_ne, c_in, c_nin, i_str, i_tup, i_lst, t_bl, t_int, n_int, o_addI, o_addS, o_addT, o_addL, o_sub, o_mul, o_fdv, o_mod, o_pow, x_lst, x_tup, x_str, l_lst, l_tup, l_str, q_lst, q_tup, q_str, e_lst, e_tup, List.map_map]
      refine congrArg (fun z => Rv.v (D.tup z)) (List.map_congr_left fun f hf => ?_)
      have ec : cutS ("test " ++ wordsS f) (some ((5 : Nat) : Int)) none = wordsS f := cut_rest rfl
      have ec : cutS ("test " ++ wordsS f) (some 5) none = wordsS f := ec
      have es : Txt.split (wordsS f) (Str.ofString " ") = _ := words_split (h5 f hf).ne
      simp only [Function.comp, ec, es]
      unfold formD
      rw [List.map_map]
      refine congrArg D.tup (List.map_congr_left fun i hi => ?_)
      simp only [Function.comp, numS_int ((h5 f hf).2 i hi).1 ((h5 f hf).2 i hi).2]
      rfl
  refine ss_c (s_ret hB (hm _) (.v (armD a)) ?_ q)
  rw [hG]
  simp only [exSs, exS, evR, evT, evS, evP, evAs, evO, evC, evI, evIF, evF, mkV, mkT, Rvd_v, Rvd_f, varW_z, varW_s, barW_z, barW_zo, barW_s, ex_bl, libW, isi_i, isi_s, isi_t, eqW_i, fzE, fzV, slotOf, bindTg, bindTgs, wip, startD, List.map_cons, List.map_nil, List.replicate, List.length_cons, List.length_nil, List.cons_append, List.nil_append, List.set_cons_zero, List.set_cons_succ, Nat.reduceAdd, Nat.reduceSub, Nat.sub_self, Nat.add_sub_cancel, List.getElem?_cons_zero, List.getElem?_cons_succ, setAll, b_isi, b_lenL, b_lenT, b_lenS, b_lenO, b_all, b_any, b_tupL, b_tupT, b_lstL, b_lstT, b_strO, b_strI, b_strS, b_intI, b_intS, b_abs, b_min, b_max, b_sum, b_dvm, b_boolO, b_reprO, b_reprL, m_joinL, m_joinT, m_split, y_join, y_split, c_lt, c_le, c_gt, c_ge, c_is, c_isn, c_eq, c_ne, c_in, c_nin, i_str, i_tup, i_lst, t_bl, t_int, n_int, o_addI, o_addS, o_addT, o_addL, o_sub, o_mul, o_fdv, o_mod, o_pow, x_lst, x_tup, x_str, l_lst, l_tup, l_str, q_lst, q_tup, q_str, e_lst, e_tup]
  refine ⟨_, atI_one, _, atI_two, ?_⟩
  refine ⟨_, atI_lst, 5, rfl, ?_⟩
  refine ⟨by rw [app_len]; exact sl_le (by omega), rfl, ?_⟩
  have ec : cutS ("then " ++ Txt.join "; " (a.2.2.2.map wordsS)) (some ((5 : Nat) : Int)) none = Txt.join "; " (a.2.2.2.map wordsS) := cut_rest rfl
  have ec : cutS ("then " ++ Txt.join "; " (a.2.2.2.map wordsS)) (some 5) none = Txt.join "; " (a.2.2.2.map wordsS) := ec
  have es : Txt.split (Txt.join "; " (a.2.2.2.map wordsS)) (Str.ofString "; ") = _ := then_split hw
  rw [ec]
  simp only [exSs, exS, evR, evT, evS, evP, evAs, evO, evC, evI, evIF, evF, mkV, mkT, Rvd_v, Rvd_f, varW_z, varW_s, barW_z, barW_zo, barW_s, ex_bl, libW, isi_i, isi_s, isi_t, eqW_i, fzE, fzV, slotOf, bindTg, bindTgs, wip, startD, List.map_cons, List.map_nil, List.replicate, List.length_cons, List.length_nil, List.cons_append, List.nil_append, List.set_cons_zero, List.set_cons_succ, Nat.reduceAdd, Nat.reduceSub, Nat.sub_self, Nat.add_sub_cancel, List.getElem?_cons_zero, List.getElem?_cons_succ, setAll, b_isi, b_lenL, b_lenT, b_lenS, b_lenO, b_all, b_any, b_tupL, b_tupT, b_lstL, b_lstT, b_strO, b_strI, b_strS, b_intI, b_intS, b_abs, b_min, b_max, b_sum, b_dvm, b_boolO, b_reprO, b_reprL, m_joinL, m_joinT, m_split, y_join, y_split, c_lt, c_le, c_gt, c_ge, c_is, c_isn, c_eq, c_ne, c_in, c_nin, i_str, i_tup, i_lst, t_bl, t_int, n_int, o_addI, o_addS, o_addT, o_addL, o_sub, o_mul, o_fdv, o_mod, o_pow, x_lst, x_tup, x_str, l_lst, l_tup, l_str, q_lst, q_tup, q_str, e_lst, e_tup]
  rw [es]
  refine ⟨rfl, sl_le (by omega), ?_⟩
  rw [List.length_map, List.length_map]
  refine ⟨sl_le (by omega), ?_⟩
  refine fold_map (f := fun x => match x with | .str s => .tup ((Txt.split s " ").map fun y => D.int ((intText? y).getD 0)) | _ => .non) _ _ (fun x hx acc K hk => ?_) ?_
  · obtain ⟨s, hs, rfl⟩ := List.mem_map.mp hx
    obtain ⟨f, hf, rfl⟩ := List.mem_map.mp hs
    have l3 := wordsS_len (h6 f hf) hn
    have es : Txt.split (wordsS f) (Str.ofString " ") = _ := words_split (h6 f hf).ne
    simp only [exSs, exS, evR, evT, evS, evP, evAs, evO, evC, evI, evIF, evF, mkV, mkT, Rvd_v, Rvd_f, varW_z, varW_s, barW_z, barW_zo, barW_s, ex_bl, libW, isi_i, isi_s, isi_t, eqW_i, fzE, fzV, slotOf, bindTg, bindTgs, wip, startD, List.map_cons, List.map_nil, List.replicate, List.length_cons, List.length_nil, List.cons_append, List.nil_append, List.set_cons_zero, List.set_cons_succ, Nat.reduceAdd, Nat.reduceSub, Nat.sub_self, Nat.add_sub_cancel, List.getElem?_cons_zero, List.getElem?_cons_succ, setAll, b_isi, b_lenL, b_lenT, b_lenS, b_lenO, b_all, b_any, b_tupL, b_tupT, b_lstL, b_lstT, b_strO, b_strI, b_strS, b_intI, b_intS, b_abs, b_min, b_max, b_sum, b_dvm, b_boolO, b_reprO, b_reprL, m_joinL, m_joinT, m_split, y_join, y_split, c_lt, c_le, c_gt, c_ge, c_is, c_isn, c_eq, c_ne, c_in, c_nin, i_str, i_tup, i_lst, t_bl, t_int, n_int, o_addI, o_addS, o_addT, o_addL, o_sub, o_mul, o_fdv, o_mod, o_pow, x_lst, x_tup, x_str, l_lst, l_tup, l_str, q_lst, q_tup, q_str, e_lst, e_tup, if_true, es] at hk ⊢
    refine ⟨trivial, rfl, sl_le (by omega), ?_⟩
    refine text_form_ok hG H hm (h6 f hf) hn ?_
    have ef : ((f.map numS).map fun y => D.int ((intText? y).getD 0)) = f.map D.int := by
      rw [List.map_map]
      refine List.map_congr_left fun i hi => ?_
      simp only [Function.comp, numS_int ((h6 f hf).2 i hi).1 ((h6 f hf).2 i hi).2]
      rfl
    rw [ef] at hk
    exact hk
  · simp only [exSs, exS, evR, evT, evS, evP, evAs, evO, evC, evI, evIF, evF, mkV, mkT, Rvd_v, Rvd_f, varW_z, varW_s, barW_z, barW_zo, barW_s, ex_bl, libW, isi_i, isi_s, isi_t, eqW_i, fzE, fzV, slotOf, bindTg, bindTgs, wip, startD, List.map_cons, List.map_nil, List.replicate, List.length_cons, List.length_nil, List.cons_append, List.nil_append, List.set_cons_zero, List.set_cons_succ, Nat.reduceAdd, Nat.reduceSub, Nat.sub_self, Nat.add_sub_cancel, List.getElem?_cons_zero, List.getElem?_cons_succ, setAll, b_isi, b_lenL, b_lenT, b_lenS, b_lenO, b_all, b_any, b_tupL, b_tupT, b_lstL, b_lstT, b_strO, b_strI, b_strS, b_intI, b_intS, b_abs, b_min, b_max, b_sum, b_dvm, b_boolO, b_reprO, b_reprL, m_joinL, m_joinT, m_split, y_join, y_split, c_lt, c_le, c_gt, c_ge, c_is, c_isn, c_eq, c_ne, c_in, c_nin, i_str, i_tup, i_lst, t_bl, t_int, n_int, o_addI, o_addS, o_addT, o_addL, o_sub, o_mul, o_fdv, o_mod, o_pow, x_lst, x_tup, x_str, l_lst, l_tup, l_str, q_lst, q_tup, q_str, e_lst, e_tup, List.map_map]
    refine ⟨sl_le (by omega), ?_⟩
    unfold armD
    have : ((a.2.2.2).map ((fun x => match x with | .str s => D.tup ((Txt.split s " ").map fun y => D.int ((intText? y).getD 0)) | _ => .non) ∘ D.str ∘ wordsS)) = a.2.2.2.map formD := by
      refine List.map_congr_left fun f hf => ?_
      have es : Txt.split (wordsS f) (Str.ofString " ") = _ := words_split (h6 f hf).ne
      simp only [Function.comp, es]
      unfold formD
      rw [List.map_map]
      refine congrArg D.tup (List.map_congr_left fun i hi => ?_)
      simp only [Function.comp, numS_int ((h6 f hf).2 i hi).1 ((h6 f hf).2 i hi).2]
      rfl
    rw [this]
end
end
end En
namespace En
open PySem L2 PyProof.Rows TL
/-! ### a text read -/
theorem fold_map2 {α : Type} {step : D → List D → (List D → Prop) → Prop} {g h : α → D} {Q : List D → Prop} : ∀ (xs : List α) (acc : List D), (∀ x ∈ xs, ∀ acc K, K (acc ++ [h x]) → step (g x) acc K) → Q (acc ++ xs.map h) → foldW step (xs.map g) acc Q
  | [], acc, _, q => by
    unfold foldW
    simpa using q
  | x :: xs, acc, hs, q => by
    rw [List.map_cons]
    unfold foldW
    refine hs x List.mem_cons_self acc _ (fold_map2 xs _ (fun y hy => hs y (List.mem_cons_of_mem _ hy)) ?_)
    simpa using q
theorem say_cut (s : Say) : cutS (sayL s) none (some 4) = "say " := cut_app (k := 4) rfl
theorem var_cut (ns : List Str) : cutS (varL ns) none (some 4) ≠ "say " := cut_ne 3 (tl_lit_app rfl _) (tl_ofString _) (by decide)
theorem arm_cut {a : Arm} {x : Str} (h : x ∈ armL a) : cutS x none (some 4) ≠ "say " := by
  rcases List.mem_cons.mp h with e | h
  · subst e
    exact cut_ne 3 (tl_lit_app rfl _) (tl_ofString _) (by decide)
  · rcases List.mem_append.mp h with h | h
    · obtain ⟨f, _, rfl⟩ := List.mem_map.mp h
      exact cut_ne 3 (tl_lit_app rfl _) (tl_ofString _) (by decide)
    · rw [List.mem_singleton] at h
      subst h
      exact cut_ne 3 (tl_lit_app rfl _) (tl_ofString _) (by decide)
def isSay : D → Bool
  | .str s => decide (cutS s none (some 4) = "say ")
  | _ => false
theorem filter_say (ns : List Str) (ss : List Say) (as : List Arm) : ((linesP ns ss as).map D.str).filter isSay = (ss.map sayL).map D.str := by
  unfold linesP
  rw [List.map_cons, List.map_append, List.filter_cons, List.filter_append]
  have e1 : isSay (.str (varL ns)) = false := decide_eq_false (var_cut ns)
  rw [e1]
  have e2 : ((ss.map sayL).map D.str).filter isSay = (ss.map sayL).map D.str := by
    rw [List.filter_eq_self]
    intro x hx
    obtain ⟨s, hs, rfl⟩ := List.mem_map.mp hx
    obtain ⟨t, _, rfl⟩ := List.mem_map.mp hs
    exact decide_eq_true (say_cut t)
  have e3 : ((as.flatMap armL).map D.str).filter isSay = [] := by
    rw [List.filter_eq_nil_iff]
    intro x hx
    obtain ⟨s, hs, rfl⟩ := List.mem_map.mp hx
    obtain ⟨a, _, h⟩ := List.mem_flatMap.mp hs
    show ¬ decide (cutS s none (some 4) = "say ") = true
    rw [decide_eq_false (arm_cut h)]
    simp
  rw [e2, e3]
  simp
theorem lines_drop (ns : List Str) (ss : List Say) (as : List Arm) : ((linesP ns ss as).map D.str).drop (ss.length + 1) = (as.flatMap armL).map D.str := by
  unfold linesP
  rw [List.map_cons, List.drop_succ_cons, List.map_append, List.drop_left']
  rw [List.length_map, List.length_map]
theorem lines_mid (ns : List Str) (ss : List Say) (as : List Arm) : (((linesP ns ss as).map D.str).drop 1).take (ss.length + 1 - 1) = (ss.map sayL).map D.str := by
  unfold linesP
  rw [List.map_cons, List.drop_succ_cons, List.drop_zero, List.map_append, Nat.add_sub_cancel, List.take_left']
  rw [List.length_map, List.length_map]
section
variable {sub : Sub} {fs : List (Str × Fn)} {l : List (Str × Prim)} {G : Cfg} (hG : G.B = libW sub) (H : PfH fs) (P : PlH G.B fs l) (hm : ∀ k, MonoC (CW G fs l k))
include hG H P hm
theorem text_program_ok {k : Nat} {ns : List Str} {ss : List Say} {as : List Arm} (g : Good ns ss as) {Q : Rv → Prop} {E : XP} (q : Q (.v (progD ns ss as))) : CW G fs l (k + 8) "text_program" [.str (textP ns ss as)] Q E := by
  have hB : G.B.Mono := by rw [hG]; exact libW_mono sub
  have hn := g.n2
  have hs := g.s1
  have hL := g.lenL
  have hn1 : 1 ≤ ns.length := by
    have : ns.length ≠ 0 := fun e => g.n1 (List.length_eq_zero_iff.mp e)
    omega
  have hv5 : (varL ns).length ≤ sizeLine := sl_le (by have := g.len1 (List.mem_cons_self (a := varL ns) (l := ss.map sayL ++ as.flatMap armL)); omega)
  have hnj : (Txt.join " " ns).length ≤ 100 := by
    have := join_len (y := (" " : Str)) (b := 8) (l := ns) fun x hx => nmS_len (g.n3 x hx)
    have e : (" " : Str).length = 1 := rfl
    rw [e] at this
    omega
  refine cw_fn_mk H.f_text_program rfl ?_
  refine ss_c (s_if hB (hm _) false ?_ (ss_n (ss_c (s_set hB (hm _) (.fr ((linesP ns ss as).map D.str)) ?_ ?_))))
  · rw [hG]
    simp only [exSs, exS, evR, evT, evS, evP, evAs, evO, evC, evI, evIF, evF, mkV, mkT, Rvd_v, Rvd_f, varW_z, varW_s, barW_z, barW_zo, barW_s, ex_bl, libW, isi_i, isi_s, isi_t, eqW_i, fzE, fzV, slotOf, bindTg, bindTgs, wip, startD, List.map_cons, List.map_nil, List.replicate, List.length_cons, List.length_nil, List.cons_append, List.nil_append, List.set_cons_zero, List.set_cons_succ, Nat.reduceAdd, Nat.reduceSub, Nat.sub_self, Nat.add_sub_cancel, List.getElem?_cons_zero, List.getElem?_cons_succ, setAll, b_isi, b_lenL, b_lenT, b_lenS, b_lenO, b_all, b_any, b_tupL, b_tupT, b_lstL, b_lstT, b_strO, b_strI, b_strS, b_intI, b_intS, b_abs, b_min, b_max, b_sum, b_dvm, b_boolO, b_reprO, b_reprL, m_joinL, m_joinT, m_split, y_join, y_split, c_lt, c_le, c_gt, c_ge, c_is, c_isn, c_eq, c_ne, c_in, c_nin, i_str, i_tup, i_lst, t_bl, t_int, n_int, o_addI, o_addS, o_addT, o_addL, o_sub, o_mul, o_fdv, o_mod, o_pow, x_lst, x_tup, x_str, l_lst, l_tup, l_str, q_lst, q_tup, q_str, e_lst, e_tup, subT]
    rfl
  · rw [hG]
    simp only [exSs, exS, evR, evT, evS, evP, evAs, evO, evC, evI, evIF, evF, mkV, mkT, Rvd_v, Rvd_f, varW_z, varW_s, barW_z, barW_zo, barW_s, ex_bl, libW, isi_i, isi_s, isi_t, eqW_i, fzE, fzV, slotOf, bindTg, bindTgs, wip, startD, List.map_cons, List.map_nil, List.replicate, List.length_cons, List.length_nil, List.cons_append, List.nil_append, List.set_cons_zero, List.set_cons_succ, Nat.reduceAdd, Nat.reduceSub, Nat.sub_self, Nat.add_sub_cancel, List.getElem?_cons_zero, List.getElem?_cons_succ, setAll, b_isi, b_lenL, b_lenT, b_lenS, b_lenO, b_all, b_any, b_tupL, b_tupT, b_lstL, b_lstT, b_strO, b_strI, b_strS, b_intI, b_intS, b_abs, b_min, b_max, b_sum, b_dvm, b_boolO, b_reprO, b_reprL, m_joinL, m_joinT, m_split, y_join, y_split, c_lt, c_le, c_gt, c_ge, c_is, c_isn, c_eq, c_ne, c_in, c_nin, i_str, i_tup, i_lst, t_bl, t_int, n_int, o_addI, o_addS, o_addT, o_addL, o_sub, o_mul, o_fdv, o_mod, o_pow, x_lst, x_tup, x_str, l_lst, l_tup, l_str, q_lst, q_tup, q_str, e_lst, e_tup, true_and]
    refine ⟨rfl, ?_, ?_⟩
    · have h1 := join_len (y := ("\n" : Str)) fun x hx => g.len1 hx
      have e1 : ("\n" : Str).length = 1 := rfl
      rw [e1] at h1
      unfold textP
      exact sl_le (by omega)
    · have es : Txt.split (textP ns ss as) (Str.ofString "\n") = _ := text_split g
      rw [es]
  refine ss_c (s_set hB (hm _) (.v (.int ss.length)) ?_ ?_)
  · rw [hG]
    simp only [exSs, exS, evR, evT, evS, evP, evAs, evO, evC, evI, evIF, evF, mkV, mkT, Rvd_v, Rvd_f, varW_z, varW_s, barW_z, barW_zo, barW_s, ex_bl, libW, isi_i, isi_s, isi_t, eqW_i, fzE, fzV, slotOf, bindTg, bindTgs, wip, startD, List.map_cons, List.map_nil, List.replicate, List.length_cons, List.length_nil, List.cons_append, List.nil_append, List.set_cons_zero, List.set_cons_succ, Nat.reduceAdd, Nat.reduceSub, Nat.sub_self, Nat.add_sub_cancel, List.getElem?_cons_zero, List.getElem?_cons_succ, setAll, b_isi, b_lenL, b_lenT, b_lenS, b_lenO, b_all, b_any, b_tupL, b_tupT, b_lstL, b_lstT, b_strO, b_strI, b_strS, b_intI, b_intS, b_abs, b_min, b_max, b_sum, b_dvm, b_boolO, b_reprO, b_reprL, m_joinL, m_joinT, m_split, y_join, y_split, c_lt, c_le, c_gt, c_ge, c_is, c_isn, c_eq, c_ne, c_in, c_nin, i_str, i_tup, i_lst, t_bl, t_int, n_int, o_addI, o_addS, o_addT, o_addL, o_sub, o_mul, o_fdv, o_mod, o_pow, x_lst, x_tup, x_str, l_lst, l_tup, l_str, q_lst, q_tup, q_str, e_lst, e_tup, List.length_map]
    refine ⟨sl_le (by omega), ?_⟩
    refine fold_filter (p := isSay) (f := id) _ _ (fun x hx acc K hk => ?_) ?_
    · obtain ⟨s, hs, rfl⟩ := List.mem_map.mp hx
      simp only [exSs, exS, evR, evT, evS, evP, evAs, evO, evC, evI, evIF, evF, mkV, mkT, Rvd_v, Rvd_f, varW_z, varW_s, barW_z, barW_zo, barW_s, ex_bl, libW, isi_i, isi_s, isi_t, eqW_i, fzE, fzV, slotOf, bindTg, bindTgs, wip, startD, List.map_cons, List.map_nil, List.replicate, List.length_cons, List.length_nil, List.cons_append, List.nil_append, List.set_cons_zero, List.set_cons_succ, Nat.reduceAdd, Nat.reduceSub, Nat.sub_self, Nat.add_sub_cancel, List.getElem?_cons_zero, List.getElem?_cons_succ, setAll, b_isi, b_lenL, b_lenT, b_lenS, b_lenO, b_all, b_any, b_tupL, b_tupT, b_lstL, b_lstT, b_strO, b_strI, b_strS, b_intI, b_intS, b_abs, b_min, b_max, b_sum, b_dvm, b_boolO, b_reprO, b_reprL, m_joinL, m_joinT, m_split, y_join, y_split, c_lt, c_le, c_gt, c_ge, c_is, c_isn, c_eq, c_ne, c_in, c_nin, i_str, i_tup, i_lst, t_bl, t_int, n_int, o_addI, o_addS, o_addT, o_addL, o_sub, o_mul, o_fdv, o_mod, o_pow, x_lst, x_tup, x_str, l_lst, l_tup, l_str, q_lst, q_tup, q_str, e_lst, e_tup]
      have h1 := g.len1 hs
      refine ⟨4, rfl, sl_le (by omega), ?_⟩
      show eqW _ _ _ _
      rw [eqW_s (asc_cut (line_asc g hs) _ _).ok (lit_asc rfl).ok]
      have e : isSay (.str s) = decide (cutS s none (some 4) = Str.ofString "say ") := rfl
      rw [e] at hk
      cases h : decide (cutS s none (some 4) = Str.ofString "say ") with
      | true => rw [h] at hk; exact ift hk
      | false => rw [h] at hk; exact iff_ hk
    · rw [filter_say]
      simp only [exSs, exS, evR, evT, evS, evP, evAs, evO, evC, evI, evIF, evF, mkV, mkT, Rvd_v, Rvd_f, varW_z, varW_s, barW_z, barW_zo, barW_s, ex_bl, libW, isi_i, isi_s, isi_t, eqW_i, fzE, fzV, slotOf, bindTg, bindTgs, wip, startD, List.map_cons, List.map_nil, List.replicate, List.length_cons, List.length_nil, List.cons_append, List.nil_append, List.set_cons_zero, List.set_cons_succ, Nat.reduceAdd, Nat.reduceSub, Nat.sub_self, Nat.add_sub_cancel, List.getElem?_cons_zero, List.getElem?_cons_succ, setAll, b_isi, b_lenL, b_lenT, b_lenS, b_lenO, b_all, b_any, b_tupL, b_tupT, b_lstL, b_lstT, b_strO, b_strI, b_strS, b_intI, b_intS, b_abs, b_min, b_max, b_sum, b_dvm, b_boolO, b_reprO, b_reprL, m_joinL, m_joinT, m_split, y_join, y_split, c_lt, c_le, c_gt, c_ge, c_is, c_isn, c_eq, c_ne, c_in, c_nin, i_str, i_tup, i_lst, t_bl, t_int, n_int, o_addI, o_addS, o_addT, o_addL, o_sub, o_mul, o_fdv, o_mod, o_pow, x_lst, x_tup, x_str, l_lst, l_tup, l_str, q_lst, q_tup, q_str, e_lst, e_tup, List.map_id, List.length_map]
  refine ss_c (s_if hB (hm _) false ?_ (ss_n (ss_c ?_)))
  · rw [hG]
    simp only [exSs, exS, evR, evT, evS, evP, evAs, evO, evC, evI, evIF, evF, mkV, mkT, Rvd_v, Rvd_f, varW_z, varW_s, barW_z, barW_zo, barW_s, ex_bl, libW, isi_i, isi_s, isi_t, eqW_i, fzE, fzV, slotOf, bindTg, bindTgs, wip, startD, List.map_cons, List.map_nil, List.replicate, List.length_cons, List.length_nil, List.cons_append, List.nil_append, List.set_cons_zero, List.set_cons_succ, Nat.reduceAdd, Nat.reduceSub, Nat.sub_self, Nat.add_sub_cancel, List.getElem?_cons_zero, List.getElem?_cons_succ, setAll, b_isi, b_lenL, b_lenT, b_lenS, b_lenO, b_all, b_any, b_tupL, b_tupT, b_lstL, b_lstT, b_strO, b_strI, b_strS, b_intI, b_intS, b_abs, b_min, b_max, b_sum, b_dvm, b_boolO, b_reprO, b_reprL, m_joinL, m_joinT, m_split, y_join, y_split, c_lt, c_le, c_gt, c_ge, c_is, c_isn, c_eq, c_ne, c_in, c_nin, i_str, i_tup, i_lst, t_bl, t_int, n_int, o_addI, o_addS, o_addT, o_addL, o_sub, o_mul, o_fdv, o_mod, o_pow, x_lst, x_tup, x_str, l_lst, l_tup, l_str, q_lst, q_tup, q_str, e_lst, e_tup]
    refine ⟨.str (varL ns), atI_zero, 5, rfl, hv5, ?_⟩
    have ec : cutS (varL ns) none (some ((5 : Nat) : Int)) = "vars " := cut_app rfl
    have ec : cutS (varL ns) none (some 5) = "vars " := ec
    rw [ec]
    simp only [exSs, exS, evR, evT, evS, evP, evAs, evO, evC, evI, evIF, evF, mkV, mkT, Rvd_v, Rvd_f, varW_z, varW_s, barW_z, barW_zo, barW_s, ex_bl, libW, isi_i, isi_s, isi_t, eqW_i, fzE, fzV, slotOf, bindTg, bindTgs, wip, startD, List.map_cons, List.map_nil, List.replicate, List.length_cons, List.length_nil, List.cons_append, List.nil_append, List.set_cons_zero, List.set_cons_succ, Nat.reduceAdd, Nat.reduceSub, Nat.sub_self, Nat.add_sub_cancel, List.getElem?_cons_zero, List.getElem?_cons_succ, setAll, b_isi, b_lenL, b_lenT, b_lenS, b_lenO, b_all, b_any, b_tupL, b_tupT, b_lstL, b_lstT, b_strO, b_strI, b_strS, b_intI, b_intS, b_abs, b_min, b_max, b_sum, b_dvm, b_boolO, b_reprO, b_reprL, m_joinL, m_joinT, m_split, y_join, y_split, c_lt, c_le, c_gt, c_ge, c_is, c_isn, c_eq, c_ne, c_in, c_nin, i_str, i_tup, i_lst, t_bl, t_int, n_int, o_addI, o_addS, o_addT, o_addL, o_sub, o_mul, o_fdv, o_mod, o_pow, x_lst, x_tup, x_str, l_lst, l_tup, l_str, q_lst, q_tup, q_str, e_lst, e_tup]
    rw [eqW_s (lit_asc rfl).ok (lit_asc rfl).ok, decide_eq_true rfl]
    refine iff_ ?_
    refine ⟨1, rfl, _, rfl, ?_⟩
    have em : cutD ((linesP ns ss as).map D.str) (some ((1 : Nat) : Int)) (some ((ss.length + 1 : Nat) : Int)) = (ss.map sayL).map D.str := by rw [cut_mid, lines_mid]
    have em : cutD ((linesP ns ss as).map D.str) (some 1) (some ((ss.length : Int) + 1)) = (ss.map sayL).map D.str := em
    rw [em, List.length_map, List.length_map]
    refine ⟨sl_le (by omega), ?_⟩
    refine fold_map (f := fun _ => D.bl false) _ _ (fun x hx acc K hk => ?_) ?_
    · obtain ⟨s, hs, rfl⟩ := List.mem_map.mp hx
      have hs2 : s ∈ linesP ns ss as := List.mem_cons_of_mem _ (List.mem_append_left _ hs)
      obtain ⟨t, ht, rfl⟩ := List.mem_map.mp hs
      have h1 := g.len1 hs2
      simp only [exSs, exS, evR, evT, evS, evP, evAs, evO, evC, evI, evIF, evF, mkV, mkT, Rvd_v, Rvd_f, varW_z, varW_s, barW_z, barW_zo, barW_s, ex_bl, libW, isi_i, isi_s, isi_t, eqW_i, fzE, fzV, slotOf, bindTg, bindTgs, wip, startD, List.map_cons, List.map_nil, List.replicate, List.length_cons, List.length_nil, List.cons_append, List.nil_append, List.set_cons_zero, List.set_cons_succ, Nat.reduceAdd, Nat.reduceSub, Nat.sub_self, Nat.add_sub_cancel, List.getElem?_cons_zero, List.getElem?_cons_succ, setAll, b_isi, b_lenL, b_lenT, b_lenS, b_lenO, b_all, b_any, b_tupL, b_tupT, b_lstL, b_lstT, b_strO, b_strI, b_strS, b_intI, b_intS, b_abs, b_min, b_max, b_sum, b_dvm, b_boolO, b_reprO, b_reprL, m_joinL, m_joinT, m_split, y_join, y_split, c_lt, c_le, c_gt, c_ge, c_is, c_isn, c_eq, c_ne, c_in, c_nin, i_str, i_tup, i_lst, t_bl, t_int, n_int, o_addI, o_addS, o_addT, o_addL, o_sub, o_mul, o_fdv, o_mod, o_pow, x_lst, x_tup, x_str, l_lst, l_tup, l_str, q_lst, q_tup, q_str, e_lst, e_tup, if_true]
      refine ⟨4, rfl, sl_le (by omega), ?_⟩
      rw [say_cut]
      show eqW _ (.str (Str.ofString "say ")) _ _
      rw [eqW_s (lit_asc rfl).ok (lit_asc rfl).ok, decide_eq_true rfl]
      exact hk
    · simp only [exSs, exS, evR, evT, evS, evP, evAs, evO, evC, evI, evIF, evF, mkV, mkT, Rvd_v, Rvd_f, varW_z, varW_s, barW_z, barW_zo, barW_s, ex_bl, libW, isi_i, isi_s, isi_t, eqW_i, fzE, fzV, slotOf, bindTg, bindTgs, wip, startD, List.map_cons, List.map_nil, List.replicate, List.length_cons, List.length_nil, List.cons_append, List.nil_append, List.set_cons_zero, List.set_cons_succ, Nat.reduceAdd, Nat.reduceSub, Nat.sub_self, Nat.add_sub_cancel, List.getElem?_cons_zero, List.getElem?_cons_succ, setAll, b_isi, b_lenL, b_lenT, b_lenS, b_lenO, b_all, b_any, b_tupL, b_tupT, b_lstL, b_lstT, b_strO, b_strI, b_strS, b_intI, b_intS, b_abs, b_min, b_max, b_sum, b_dvm, b_boolO, b_reprO, b_reprL, m_joinL, m_joinT, m_split, y_join, y_split, c_lt, c_le, c_gt, c_ge, c_is, c_isn, c_eq, c_ne, c_in, c_nin, i_str, i_tup, i_lst, t_bl, t_int, n_int, o_addI, o_addS, o_addT, o_addL, o_sub, o_mul, o_fdv, o_mod, o_pow, x_lst, x_tup, x_str, l_lst, l_tup, l_str, q_lst, q_tup, q_str, e_lst, e_tup, List.map_map]
      refine ⟨_, unBl_map (f := fun _ => false) _, ?_⟩
      simp
  · unfold exS
    rw [hG]
    simp only [exSs, exS, evR, evT, evS, evP, evAs, evO, evC, evI, evIF, evF, mkV, mkT, Rvd_v, Rvd_f, varW_z, varW_s, barW_z, barW_zo, barW_s, ex_bl, libW, isi_i, isi_s, isi_t, eqW_i, fzE, fzV, slotOf, bindTg, bindTgs, wip, startD, List.map_cons, List.map_nil, List.replicate, List.length_cons, List.length_nil, List.cons_append, List.nil_append, List.set_cons_zero, List.set_cons_succ, Nat.reduceAdd, Nat.reduceSub, Nat.sub_self, Nat.add_sub_cancel, List.getElem?_cons_zero, List.getElem?_cons_succ, setAll, b_isi, b_lenL, b_lenT, b_lenS, b_lenO, b_all, b_any, b_tupL, b_tupT, b_lstL, b_lstT, b_strO, b_strI, b_strS, b_intI, b_intS, b_abs, b_min, b_max, b_sum, b_dvm, b_boolO, b_reprO, b_reprL, m_joinL, m_joinT, m_split, y_join, y_split, c_lt, c_le, c_gt, c_ge, c_is, c_isn, c_eq, c_ne, c_in, c_nin, i_str, i_tup, i_lst, t_bl, t_int, n_int, o_addI, o_addS, o_addT, o_addL, o_sub, o_mul, o_fdv, o_mod, o_pow, x_lst, x_tup, x_str, l_lst, l_tup, l_str, q_lst, q_tup, q_str, e_lst, e_tup]
    refine ⟨.str (varL ns), atI_zero, 5, rfl, hv5, rfl, ?_⟩
    have ec : cutS (varL ns) (some ((5 : Nat) : Int)) none = Txt.join " " ns := cut_rest rfl
    have ec : cutS (varL ns) (some 5) none = Txt.join " " ns := ec
    rw [ec]
    simp only [exSs, exS, evR, evT, evS, evP, evAs, evO, evC, evI, evIF, evF, mkV, mkT, Rvd_v, Rvd_f, varW_z, varW_s, barW_z, barW_zo, barW_s, ex_bl, libW, isi_i, isi_s, isi_t, eqW_i, fzE, fzV, slotOf, bindTg, bindTgs, wip, startD, List.map_cons, List.map_nil, List.replicate, List.length_cons, List.length_nil, List.cons_append, List.nil_append, List.set_cons_zero, List.set_cons_succ, Nat.reduceAdd, Nat.reduceSub, Nat.sub_self, Nat.add_sub_cancel, List.getElem?_cons_zero, List.getElem?_cons_succ, setAll, b_isi, b_lenL, b_lenT, b_lenS, b_lenO, b_all, b_any, b_tupL, b_tupT, b_lstL, b_lstT, b_strO, b_strI, b_strS, b_intI, b_intS, b_abs, b_min, b_max, b_sum, b_dvm, b_boolO, b_reprO, b_reprL, m_joinL, m_joinT, m_split, y_join, y_split, c_lt, c_le, c_gt, c_ge, c_is, c_isn, c_eq, c_ne, c_in, c_nin, i_str, i_tup, i_lst, t_bl, t_int, n_int, o_addI, o_addS, o_addT, o_addL, o_sub, o_mul, o_fdv, o_mod, o_pow, x_lst, x_tup, x_str, l_lst, l_tup, l_str, q_lst, q_tup, q_str, e_lst, e_tup]
    have es : Txt.split (Txt.join " " ns) (Str.ofString " ") = ns := split_sp g.n1 fun p hp => sp_nm (g.n3 p hp) (.inl rfl)
    rw [es]
    refine ⟨rfl, sl_le (by omega), ?_⟩
    refine ⟨_, rfl, ?_⟩
    have em : cutD ((linesP ns ss as).map D.str) (some ((ss.length + 1 : Nat) : Int)) none = (as.flatMap armL).map D.str := by rw [cut_drop, lines_drop]
    have em : cutD ((linesP ns ss as).map D.str) (some ((ss.length : Int) + 1)) none = (as.flatMap armL).map D.str := em
    rw [em]
    refine cw_prim_mk (P := pBp) (P.no _ (by simp [pnames])) (P.lp ("branch_parts", pBp) (by simp [prmP])) ?_
    refine ⟨as.flatMap armL, rfl, ?_, ?_, ?_⟩
    · have h3 := arms_len (as := as) fun a ha => (g.a3 a ha).2.2.1
      have := Nat.mul_le_mul_right 5 g.a2
      rw [sizeLine_eq]
      omega
    · intro x hx
      have := g.len1 (List.mem_cons_of_mem _ (List.mem_append_right _ hx))
      exact sl_le (by omega)
    rw [bpGo_arms]
    simp only [List.nil_append]
    refine ⟨trivial, ?_⟩
    refine iff_ ?_
    refine wrong_name_ok hG H hm g.n1 g.n2 g.n3 g.n4 ?_
    refine iff_ ?_
    refine ⟨1, rfl, _, rfl, ?_⟩
    have em : cutD ((linesP ns ss as).map D.str) (some ((1 : Nat) : Int)) (some ((ss.length + 1 : Nat) : Int)) = (ss.map sayL).map D.str := by rw [cut_mid, lines_mid]
    have em : cutD ((linesP ns ss as).map D.str) (some 1) (some ((ss.length : Int) + 1)) = (ss.map sayL).map D.str := em
    rw [em, List.length_map, List.length_map]
    refine ⟨sl_le (by omega), ?_⟩
    rw [List.map_map]
    refine fold_map2 (h := sayD) ss _ (fun t ht acc K hk => ?_) ?_
    · obtain ⟨h1, h2⟩ := g.s2 t ht
      simp only [if_true]
      exact text_saying_ok hG H hm h1 h2 hn hk
    · rw [List.nil_append]
      simp only [exSs, exS, evR, evT, evS, evP, evAs, evO, evC, evI, evIF, evF, mkV, mkT, Rvd_v, Rvd_f, varW_z, varW_s, barW_z, barW_zo, barW_s, ex_bl, libW, isi_i, isi_s, isi_t, eqW_i, fzE, fzV, slotOf, bindTg, bindTgs, wip, startD, List.map_cons, List.map_nil, List.replicate, List.length_cons, List.length_nil, List.cons_append, List.nil_append, List.set_cons_zero, List.set_cons_succ, Nat.reduceAdd, Nat.reduceSub, Nat.sub_self, Nat.add_sub_cancel, List.getElem?_cons_zero, List.getElem?_cons_succ, setAll, b_isi, b_lenL, b_lenT, b_lenS, b_lenO, b_all, b_any, b_tupL, b_tupT, b_lstL, b_lstT, b_strO, b_strI, b_strS, b_intI, b_intS, b_abs, b_min, b_max, b_sum, b_dvm, b_boolO, b_reprO, b_reprL, m_joinL, m_joinT, m_split, y_join, y_split, c_lt, c_le, c_gt, c_ge, c_is, c_isn, c_eq, c_ne, c_in, c_nin, i_str, i_tup, i_lst, t_bl, t_int, n_int, o_addI, o_addS, o_addT, o_addL, o_sub, o_mul, o_fdv, o_mod, o_pow, x_lst, x_tup, x_str, l_lst, l_tup, l_str, q_lst, q_tup, q_str, e_lst, e_tup]
      rw [List.length_map, List.length_map]
      refine ⟨sl_le (by have := g.a2; omega), ?_⟩
      rw [List.map_map]
      refine fold_map2 (h := armD) as _ (fun a ha acc K hk => ?_) ?_
      · simp only [if_true]
        exact text_branch_ok hG H hm hn hn1 (g.a3 a ha) hk
      · rw [List.nil_append, List.length_map]
        refine wrong_saying_ok hG H hm g.s1 g.s2 (by omega) ?_
        refine iff_ ?_
        refine wrong_branch_ok hG H hm g ?_
        refine iff_ ?_
        exact init_ok hG H P hm g q
theorem read_ok {k : Nat} {ns : List Str} {ss : List Say} {as : List Arm} (g : Good ns ss as) {x : D} {Q : Rv → Prop} {E : XP} (q : Q (.v (progD ns ss as))) : CW G fs l (k + 9) "Program.read" [x, .str (textP ns ss as)] Q E := by
  have hB : G.B.Mono := by rw [hG]; exact libW_mono sub
  refine cw_fn_mk H.f_Program_read rfl ?_
  refine ss_c (s_set hB (hm _) (.v (progD ns ss as)) ?_ ?_)
  · simp only [exSs, exS, evR, evT, evS, evP, evAs, evO, evC, evI, evIF, evF, mkV, mkT, Rvd_v, Rvd_f, varW_z, varW_s, barW_z, barW_zo, barW_s, ex_bl, libW, isi_i, isi_s, isi_t, eqW_i, fzE, fzV, slotOf, bindTg, bindTgs, wip, startD, List.map_cons, List.map_nil, List.replicate, List.length_cons, List.length_nil, List.cons_append, List.nil_append, List.set_cons_zero, List.set_cons_succ, Nat.reduceAdd, Nat.reduceSub, Nat.sub_self, Nat.add_sub_cancel, List.getElem?_cons_zero, List.getElem?_cons_succ, setAll, b_isi, b_lenL, b_lenT, b_lenS, b_lenO, b_all, b_any, b_tupL, b_tupT, b_lstL, b_lstT, b_strO, b_strI, b_strS, b_intI, b_intS, b_abs, b_min, b_max, b_sum, b_dvm, b_boolO, b_reprO, b_reprL, m_joinL, m_joinT, m_split, y_join, y_split, c_lt, c_le, c_gt, c_ge, c_is, c_isn, c_eq, c_ne, c_in, c_nin, i_str, i_tup, i_lst, t_bl, t_int, n_int, o_addI, o_addS, o_addT, o_addL, o_sub, o_mul, o_fdv, o_mod, o_pow, x_lst, x_tup, x_str, l_lst, l_tup, l_str, q_lst, q_tup, q_str, e_lst, e_tup]
    exact text_program_ok hG H P hm g rfl
  refine ss_c (s_if hB (hm _) false ?_ (ss_n (ss_c (s_ret hB (hm _) (.v (progD ns ss as)) ?_ q))))
  · rw [hG]
    unfold progD
    simp only [exSs, exS, evR, evT, evS, evP, evAs, evO, evC, evI, evIF, evF, mkV, mkT, Rvd_v, Rvd_f, varW_z, varW_s, barW_z, barW_zo, barW_s, ex_bl, libW, isi_i, isi_s, isi_t, eqW_i, fzE, fzV, slotOf, bindTg, bindTgs, wip, startD, List.map_cons, List.map_nil, List.replicate, List.length_cons, List.length_nil, List.cons_append, List.nil_append, List.set_cons_zero, List.set_cons_succ, Nat.reduceAdd, Nat.reduceSub, Nat.sub_self, Nat.add_sub_cancel, List.getElem?_cons_zero, List.getElem?_cons_succ, setAll, b_isi, b_lenL, b_lenT, b_lenS, b_lenO, b_all, b_any, b_tupL, b_tupT, b_lstL, b_lstT, b_strO, b_strI, b_strS, b_intI, b_intS, b_abs, b_min, b_max, b_sum, b_dvm, b_boolO, b_reprO, b_reprL, m_joinL, m_joinT, m_split, y_join, y_split, c_lt, c_le, c_gt, c_ge, c_is, c_isn, c_eq, c_ne, c_in, c_nin, i_str, i_tup, i_lst, t_bl, t_int, n_int, o_addI, o_addS, o_addT, o_addL, o_sub, o_mul, o_fdv, o_mod, o_pow, x_lst, x_tup, x_str, l_lst, l_tup, l_str, q_lst, q_tup, q_str, e_lst, e_tup, isNon]
  · rw [hG]
    simp only [exSs, exS, evR, evT, evS, evP, evAs, evO, evC, evI, evIF, evF, mkV, mkT, Rvd_v, Rvd_f, varW_z, varW_s, barW_z, barW_zo, barW_s, ex_bl, libW, isi_i, isi_s, isi_t, eqW_i, fzE, fzV, slotOf, bindTg, bindTgs, wip, startD, List.map_cons, List.map_nil, List.replicate, List.length_cons, List.length_nil, List.cons_append, List.nil_append, List.set_cons_zero, List.set_cons_succ, Nat.reduceAdd, Nat.reduceSub, Nat.sub_self, Nat.add_sub_cancel, List.getElem?_cons_zero, List.getElem?_cons_succ, setAll, b_isi, b_lenL, b_lenT, b_lenS, b_lenO, b_all, b_any, b_tupL, b_tupT, b_lstL, b_lstT, b_strO, b_strI, b_strS, b_intI, b_intS, b_abs, b_min, b_max, b_sum, b_dvm, b_boolO, b_reprO, b_reprL, m_joinL, m_joinT, m_split, y_join, y_split, c_lt, c_le, c_gt, c_ge, c_is, c_isn, c_eq, c_ne, c_in, c_nin, i_str, i_tup, i_lst, t_bl, t_int, n_int, o_addI, o_addS, o_addT, o_addL, o_sub, o_mul, o_fdv, o_mod, o_pow, x_lst, x_tup, x_str, l_lst, l_tup, l_str, q_lst, q_tup, q_str, e_lst, e_tup]
end
end En
/-! small forms of helpers of the laws, printed by a program of this repo; each law checks them against its text. -/
namespace En
/-- 2, 5 -/
def lh_begun : Sms := (.cons (.set 2 (.ite (.cmp .Lt (.var 1) (.blt .len (.cons (.var 0) .nil))) (.idx (.var 0) (.var 1)) (.con (.int 0)))) (.cons (.set 3 (.bin .Add (.con (.int 60013)) (.bin .Mult (.con (.int 7727)) (.var 1)))) (.cons (.forr (.nm 4) (.seq (.slc (.var 0) .no (.so (.con (.int 6))))) (.cons (.set 3 (.bin .Mod (.blt .int (.cons (.bin .Add (.bin .Add (.bin .Mult (.var 3) (.con (.int 30269))) (.bin .Mult (.var 4) (.con (.int 7)))) (.con (.int 13))) .nil)) (.con (.int 2147483629)))) .nil)) (.cons (.ret (.lst (.cons (.ite (.or (.cmp .Lt (.var 2) (.con (.int 0))) (.cmp .GtE (.var 2) (.bin .Pow (.con (.int 10)) (.con (.int 18))))) (.blt .abs (.cons (.var 2) .nil)) (.con (.int 0))) (.cons (.bin .Mod (.blt .int (.cons (.bin .Add (.bin .Add (.bin .Mult (.var 3) (.con (.int 53))) (.bin .Mult (.var 2) (.var 2))) (.bin .Mult (.con (.int 17)) (.var 1))) .nil)) (.con (.int 2147483629))) (.cons (.con (.int 0)) .nil))))) .nil))))
/-- 2, 4 -/
def lh_cast : Sms := (.cons (.iff (.cmp .Gt (.idx (.var 0) (.con (.int 0))) (.con (.int 0))) (.cons (.dvs 0 (.con (.int 0)) 2 (.blt .divmod (.cons (.idx (.var 0) (.con (.int 0))) (.cons (.var 1) .nil)))) (.cons (.ret (.var 2)) .nil)) .nil) (.cons (.put 0 (.con (.int 2)) (.bin .Add (.idx (.var 0) (.con (.int 2))) (.con (.int 1)))) (.cons (.set 3 (.bin .Mod (.blt .int (.cons (.bin .Add (.bin .Add (.bin .Mult (.idx (.var 0) (.con (.int 1))) (.bin .Add (.con (.int 36809)) (.bin .Mult (.con (.int 2)) (.idx (.var 0) (.con (.int 2)))))) (.bin .Mult (.con (.int 5303)) (.idx (.var 0) (.con (.int 2))))) (.con (.int 7))) .nil)) (.con (.int 2147483629)))) (.cons (.put 0 (.con (.int 1)) (.bin .Mod (.blt .int (.cons (.bin .Add (.bin .Add (.bin .Mult (.var 3) (.con (.int 45413))) (.bin .Mult (.con (.int 3)) (.idx (.var 0) (.con (.int 2))))) (.con (.int 1))) .nil)) (.con (.int 2147483587)))) (.cons (.ret (.bin .Mod (.blt .int (.cons (.bin .FloorDiv (.idx (.var 0) (.con (.int 1))) (.con (.int 256))) .nil)) (.var 1))) .nil)))))
/-- 2, 2 -/
def lh_any_of : Sms := (.cons (.ret (.idx (.var 1) (.fn "_law_cast" (.cons (.var 0) (.cons (.blt .len (.cons (.var 1) .nil)) .nil))))) .nil)
/-- 2, 4 -/
def lh_tags : Sms := (.cons (.set 2 (.lst (.cons (.con (.str "x")) (.cons (.con (.str "y")) (.cons (.con (.str "a")) (.cons (.con (.str "b")) (.cons (.con (.str "k9")) (.cons (.con (.str "vars")) (.cons (.con (.str "say")) (.cons (.con (.str "then")) (.cons (.con (.str "test")) (.cons (.con (.str "branch")) (.cons (.con (.str "abcdefgh")) (.cons (.con (.str "n")) (.cons (.con (.str "z0000000")) (.cons (.con (.str "undo")) .nil)))))))))))))))) (.cons (.set 3 (.fn "_law_cast" (.cons (.var 0) (.cons (.blt .len (.cons (.var 2) .nil)) .nil)))) (.cons (.ret (.slc (.bin .Add (.slc (.var 2) (.so (.var 3)) .no) (.slc (.var 2) .no (.so (.var 3)))) .no (.so (.var 1)))) .nil)))
/-- 1, 2 -/
def lh_wide : Sms := (.cons (.set 1 (.fn "_law_cast" (.cons (.var 0) (.cons (.con (.int 8)) .nil)))) (.cons (.iff (.cmp .Lt (.var 1) (.con (.int 5))) (.cons (.ret (.bin .Sub (.fn "_law_cast" (.cons (.var 0) (.cons (.con (.int 7)) .nil))) (.con (.int 3)))) .nil) .nil) (.cons (.iff (.cmp .Eq (.var 1) (.con (.int 5))) (.cons (.ret (.fn "_law_any_of" (.cons (.var 0) (.cons (.lst (.cons (.bin .Pow (.con (.int 10)) (.con (.int 6))) (.cons (.neg (.bin .Pow (.con (.int 10)) (.con (.int 6)))) (.cons (.con (.int 999999)) (.cons (.con (.int 10)) .nil))))) .nil)))) .nil) .nil) (.cons (.ret (.ite (.cmp .Eq (.var 1) (.con (.int 6))) (.bin .Sub (.fn "_law_cast" (.cons (.var 0) (.cons (.con (.int 41)) .nil))) (.con (.int 20))) (.bin .Sub (.fn "_law_cast" (.cons (.var 0) (.cons (.bin .Add (.bin .Mult (.con (.int 2)) (.bin .Pow (.con (.int 10)) (.con (.int 6)))) (.con (.int 1))) .nil))) (.bin .Pow (.con (.int 10)) (.con (.int 6)))))) .nil))))
/-- 2, 3 -/
def lh_form : Sms := (.cons (.ret (.blt .tup (.cons (.lc (.fn "_law_wide" (.cons (.var 0) .nil)) (.nm 2) (.rng1 (.bin .Add (.var 1) (.con (.int 1)))) .no [2]) .nil))) .nil)
/-- 1, 10 -/
def lh_parts : Sms := (.cons (.unp (.cons (.nm 1) (.cons (.nm 2) .nil)) (.tup (.cons (.bin .Add (.con (.int 1)) (.fn "_law_cast" (.cons (.var 0) (.cons (.con (.int 3)) .nil)))) (.cons (.fn "_law_tags" (.cons (.var 0) (.cons (.con (.int 6)) .nil))) .nil)))) (.cons (.set 3 (.slc (.var 2) (.so (.con (.int 3))) (.so (.bin .Add (.con (.int 4)) (.fn "_law_cast" (.cons (.var 0) (.cons (.con (.int 3)) .nil))))))) (.cons (.set 4 (.blt .tup (.cons (.lc (.tup (.cons (.fn "_law_any_of" (.cons (.var 0) (.cons (.var 3) .nil))) (.cons (.fn "_law_form" (.cons (.var 0) (.cons (.var 1) .nil))) .nil))) (.nm 5) (.rng1 (.fn "_law_cast" (.cons (.var 0) (.cons (.con (.int 4)) .nil)))) .no [5]) .nil))) (.cons (.own 6 (.lst .nil)) (.cons (.forr (.nm 5) (.rng1 (.bin .Add (.con (.int 1)) (.fn "_law_cast" (.cons (.var 0) (.cons (.con (.int 5)) .nil))))) (.cons (.set 7 (.blt .tup (.cons (.lc (.fn "_law_form" (.cons (.var 0) (.cons (.var 1) .nil))) (.nm 8) (.rng1 (.fn "_law_cast" (.cons (.var 0) (.cons (.con (.int 4)) .nil)))) .no [8]) .nil))) (.cons (.set 9 (.blt .tup (.cons (.lc (.fn "_law_form" (.cons (.var 0) (.cons (.var 1) .nil))) (.nm 8) (.rng1 (.var 1)) .no [8]) .nil))) (.cons (.app 6 (.tup (.cons (.fn "_law_any_of" (.cons (.var 0) (.cons (.var 3) .nil))) (.cons (.fn "_law_any_of" (.cons (.var 0) (.cons (.var 3) .nil))) (.cons (.var 7) (.cons (.var 9) .nil)))))) .nil)))) (.cons (.ret (.lst (.cons (.blt .tup (.cons (.slc (.var 2) .no (.so (.var 1))) .nil)) (.cons (.var 4) (.cons (.blt .tup (.cons (.var 6) .nil)) .nil))))) .nil))))))
/-- 1, 2 -/
def lh_words : Sms := (.cons (.ret (.mth .join (.con (.str " ")) (.cons (.lc (.blt .str (.cons (.var 1) .nil)) (.nm 1) (.seq (.var 0)) .no [1]) .nil))) .nil)
/-- 1, 8 -/
def lh_arm_lines : Sms := (.cons (.unp (.cons (.nm 1) (.cons (.nm 2) (.cons (.nm 3) (.cons (.nm 4) .nil)))) (.var 0)) (.cons (.set 5 (.bin .Add (.lst (.cons (.bin .Add (.bin .Add (.bin .Add (.con (.str "branch ")) (.var 1)) (.con (.str " "))) (.var 2)) .nil)) (.lc (.bin .Add (.con (.str "test ")) (.fn "_law_words" (.cons (.var 6) .nil))) (.nm 6) (.seq (.var 3)) .no [6]))) (.cons (.ret (.bin .Add (.var 5) (.lst (.cons (.bin .Add (.con (.str "then ")) (.mth .join (.con (.str "; ")) (.cons (.lc (.fn "_law_words" (.cons (.var 7) .nil)) (.nm 7) (.seq (.var 4)) .no [7]) .nil))) .nil)))) .nil)))
/-- 1, 5 -/
def lh_lines : Sms := (.cons (.own 1 (.lst (.cons (.bin .Add (.con (.str "vars ")) (.mth .join (.con (.str " ")) (.cons (.idx (.var 0) (.con (.int 0))) .nil))) .nil))) (.cons (.forr (.tp (.cons (.nm 2) (.cons (.nm 3) .nil))) (.seq (.idx (.var 0) (.con (.int 1)))) (.cons (.app 1 (.bin .Add (.bin .Add (.bin .Add (.con (.str "say ")) (.var 2)) (.con (.str " "))) (.fn "_law_words" (.cons (.var 3) .nil)))) .nil)) (.cons (.forr (.nm 4) (.seq (.idx (.var 0) (.con (.int 2)))) (.cons (.own 1 (.bin .Add (.var 1) (.fn "_law_arm_lines" (.cons (.var 4) .nil)))) .nil)) (.cons (.retO 1) .nil))))
/-- 1, 1 -/
def lh_sheet : Sms := (.cons (.ret (.mth .join (.con (.str "\n")) (.cons (.fn "_law_lines" (.cons (.var 0) .nil)) .nil))) .nil)
/-- 1, 5 -/
def lh_spots : Sms := (.cons (.own 1 (.lst .nil)) (.cons (.forr (.tp (.cons (.nm 2) (.cons (.nm 3) .nil))) (.seq (.idx (.var 0) (.con (.int 1)))) (.cons (.iff (.cmp .NotIn (.var 2) (.var 1)) (.cons (.app 1 (.var 2)) .nil) .nil) .nil)) (.cons (.forr (.nm 4) (.seq (.idx (.var 0) (.con (.int 2)))) (.cons (.forr (.nm 2) (.seq (.slc (.var 4) .no (.so (.con (.int 2))))) (.cons (.iff (.cmp .NotIn (.var 2) (.var 1)) (.cons (.app 1 (.var 2)) .nil) .nil) .nil)) .nil)) (.cons (.ret (.blt .tup (.cons (.var 1) .nil))) .nil))))
/-- 2, 3 -/
def lh_built : Sms := (.cons (.set 2 (.fn "_law_cast" (.cons (.var 0) (.cons (.con (.int 3)) .nil)))) (.cons (.iff (.cmp .Eq (.var 2) (.con (.int 0))) (.cons (.ret (.fn "Program" (.cons (.idx (.var 1) (.con (.int 0))) (.cons (.idx (.var 1) (.con (.int 1))) (.cons (.idx (.var 1) (.con (.int 2))) .nil))))) .nil) .nil) (.cons (.ret (.ite (.cmp .Eq (.var 2) (.con (.int 1))) (.fnk "Program" [1, 2, 0] .nil (.cons (.idx (.var 1) (.con (.int 2))) (.cons (.idx (.var 1) (.con (.int 0))) (.cons (.idx (.var 1) (.con (.int 1))) .nil)))) (.mcl "Program.read" (.glo (.cls "Program")) (.cons (.fn "_law_sheet" (.cons (.var 1) .nil)) .nil)))) .nil)))
end En
namespace En
open PySem L2 PyProof.Rows TL
/-! ### the pail -/
theorem mulL {i j : Int} (h1 : -1000000000000 ≤ i) (h2 : i ≤ 1000000000000) : IntMulOk i j := CMul.ok (.inl ⟨by omega, by omega⟩)
theorem mulR {i j : Int} (h1 : -1000000000000 ≤ j) (h2 : j ≤ 1000000000000) : IntMulOk i j := CMul.ok (.inr ⟨by omega, by omega⟩)
theorem atI_map {ns : List Int} {t : Int} (h0 : 0 ≤ t) (h1 : t < ns.length) : ∃ n ∈ ns, atI (ns.map D.int) t = some (.int n) := by
  obtain ⟨k, rfl⟩ := Int.eq_ofNat_of_zero_le h0
  have hl : k < ns.length := by omega
  refine ⟨ns[k], List.getElem_mem _, atI_nat ?_⟩
  rw [List.getElem?_map, List.getElem?_eq_getElem hl]
  rfl
theorem begun_ok {sub : Sub} : BegOk (libW sub) 5 lh_begun := by
  intro C ds Q E hC hb
  obtain ⟨ns, t, rfl, h0, h1, h2, h3, q⟩ := hb
  have hB : (libW sub).Mono := libW_mono sub
  have own : ∃ o : Int, (o = 0 ∨ o ∈ ns) ∧ (evP (libW sub) C (.ite (.cmp .Lt (.var 1) (.blt .len (.cons (.var 0) .nil))) (.idx (.var 0) (.var 1)) (.con (.int 0))) [some (.val (.lst (ns.map D.int))), some (.val (.int t)), none, none, none]).R (fun x => x = .v (.int o)) E := by
    by_cases h : t < ns.length
    · obtain ⟨n, hn, e⟩ := atI_map h0 h
      refine ⟨n, .inr hn, ?_⟩
      simp only [exSs, exS, evR, evT, evS, evP, evAs, evO, evC, evI, evIF, evF, mkV, mkT, Rvd_v, Rvd_f, varW_z, varW_s, barW_z, barW_zo, barW_s, ex_bl, libW, isi_i, isi_s, isi_t, eqW_i, fzE, fzV, slotOf, bindTg, bindTgs, wip, startD, List.map_cons, List.map_nil, List.replicate, List.length_cons, List.length_nil, List.cons_append, List.nil_append, List.set_cons_zero, List.set_cons_succ, Nat.reduceAdd, Nat.reduceSub, Nat.sub_self, Nat.add_sub_cancel, List.getElem?_cons_zero, List.getElem?_cons_succ, setAll, b_isi, b_lenL, b_lenT, b_lenS, b_lenO, b_all, b_any, b_tupL, b_tupT, b_lstL, b_lstT, b_strO, b_strI, b_strS, b_intI, b_intS, b_abs, b_min, b_max, b_sum, b_dvm, b_boolO, b_reprO, b_reprL, m_joinL, m_joinT, m_split, y_join, y_split, c_lt, c_le, c_gt, c_ge, c_is, c_isn, c_eq, c_ne, c_in, c_nin, i_str, i_tup, i_lst, t_bl, t_int, n_int, o_addI, o_addS, o_addT, o_addL, o_sub, o_mul, o_fdv, o_mod, o_pow, x_lst, x_tup, x_str, l_lst, l_tup, l_str, q_lst, q_tup, q_str, e_lst, e_tup, List.length_map, decide_eq_true h, if_true]
      exact ⟨_, e, rfl⟩
    · refine ⟨0, .inl rfl, ?_⟩
      simp only [exSs, exS, evR, evT, evS, evP, evAs, evO, evC, evI, evIF, evF, mkV, mkT, Rvd_v, Rvd_f, varW_z, varW_s, barW_z, barW_zo, barW_s, ex_bl, libW, isi_i, isi_s, isi_t, eqW_i, fzE, fzV, slotOf, bindTg, bindTgs, wip, startD, List.map_cons, List.map_nil, List.replicate, List.length_cons, List.length_nil, List.cons_append, List.nil_append, List.set_cons_zero, List.set_cons_succ, Nat.reduceAdd, Nat.reduceSub, Nat.sub_self, Nat.add_sub_cancel, List.getElem?_cons_zero, List.getElem?_cons_succ, setAll, b_isi, b_lenL, b_lenT, b_lenS, b_lenO, b_all, b_any, b_tupL, b_tupT, b_lstL, b_lstT, b_strO, b_strI, b_strS, b_intI, b_intS, b_abs, b_min, b_max, b_sum, b_dvm, b_boolO, b_reprO, b_reprL, m_joinL, m_joinT, m_split, y_join, y_split, c_lt, c_le, c_gt, c_ge, c_is, c_isn, c_eq, c_ne, c_in, c_nin, i_str, i_tup, i_lst, t_bl, t_int, n_int, o_addI, o_addS, o_addT, o_addL, o_sub, o_mul, o_fdv, o_mod, o_pow, x_lst, x_tup, x_str, l_lst, l_tup, l_str, q_lst, q_tup, q_str, e_lst, e_tup, List.length_map, decide_eq_false h]
      exact iff_ trivial
  obtain ⟨o, ho, ev⟩ := own
  unfold lh_begun
  refine ss_c (s_set hB hC _ ev ?_)
  refine ss_c (s_set hB hC (.v (.int (60013 + 7727 * t))) ?_ ?_)
  · simp only [exSs, exS, evR, evT, evS, evP, evAs, evO, evC, evI, evIF, evF, mkV, mkT, Rvd_v, Rvd_f, varW_z, varW_s, barW_z, barW_zo, barW_s, ex_bl, libW, isi_i, isi_s, isi_t, eqW_i, fzE, fzV, slotOf, bindTg, bindTgs, wip, startD, List.map_cons, List.map_nil, List.replicate, List.length_cons, List.length_nil, List.cons_append, List.nil_append, List.set_cons_zero, List.set_cons_succ, Nat.reduceAdd, Nat.reduceSub, Nat.sub_self, Nat.add_sub_cancel, List.getElem?_cons_zero, List.getElem?_cons_succ, setAll, b_isi, b_lenL, b_lenT, b_lenS, b_lenO, b_all, b_any, b_tupL, b_tupT, b_lstL, b_lstT, b_strO, b_strI, b_strS, b_intI, b_intS, b_abs, b_min, b_max, b_sum, b_dvm, b_boolO, b_reprO, b_reprL, m_joinL, m_joinT, m_split, y_join, y_split, c_lt, c_le, c_gt, c_ge, c_is, c_isn, c_eq, c_ne, c_in, c_nin, i_str, i_tup, i_lst, t_bl, t_int, n_int, o_addI, o_addS, o_addT, o_addL, o_sub, o_mul, o_fdv, o_mod, o_pow, x_lst, x_tup, x_str, l_lst, l_tup, l_str, q_lst, q_tup, q_str, e_lst, e_tup]
    exact ⟨mulL (by omega) (by omega), trivial⟩
  refine ss_c ?_
  unfold exS
  simp only [exSs, exS, evR, evT, evS, evP, evAs, evO, evC, evI, evIF, evF, mkV, mkT, Rvd_v, Rvd_f, varW_z, varW_s, barW_z, barW_zo, barW_s, ex_bl, libW, isi_i, isi_s, isi_t, eqW_i, fzE, fzV, slotOf, bindTg, bindTgs, wip, startD, List.map_cons, List.map_nil, List.replicate, List.length_cons, List.length_nil, List.cons_append, List.nil_append, List.set_cons_zero, List.set_cons_succ, Nat.reduceAdd, Nat.reduceSub, Nat.sub_self, Nat.add_sub_cancel, List.getElem?_cons_zero, List.getElem?_cons_succ, setAll, b_isi, b_lenL, b_lenT, b_lenS, b_lenO, b_all, b_any, b_tupL, b_tupT, b_lstL, b_lstT, b_strO, b_strI, b_strS, b_intI, b_intS, b_abs, b_min, b_max, b_sum, b_dvm, b_boolO, b_reprO, b_reprL, m_joinL, m_joinT, m_split, y_join, y_split, c_lt, c_le, c_gt, c_ge, c_is, c_isn, c_eq, c_ne, c_in, c_nin, i_str, i_tup, i_lst, t_bl, t_int, n_int, o_addI, o_addS, o_addT, o_addL, o_sub, o_mul, o_fdv, o_mod, o_pow, x_lst, x_tup, x_str, l_lst, l_tup, l_str, q_lst, q_tup, q_str, e_lst, e_tup]
  refine ⟨6, rfl, ?_⟩
  have ec : cutD (ns.map D.int) none (some ((6 : Nat) : Int)) = (ns.map D.int).take 6 := cut_take
  have ec : cutD (ns.map D.int) none (some 6) = (ns.take 6).map D.int := by rw [List.map_take]; exact ec
  rw [ec]
  refine for_inv (fun i r => ∃ (s : Int) (a : Option Slot), (0 ≤ s ∧ s < 2147483648) ∧ r = [some (.val (.lst (ns.map D.int))), some (.val (.int t)), some (.val (.int o)), some (.val (.int s)), a]) ⟨_, _, ⟨by omega, by omega⟩, rfl⟩ (fun i x r hx hp K hk => ?_) fun r hp => ?_
  · obtain ⟨s, a, hs, rfl⟩ := hp
    rw [List.getElem?_map] at hx
    obtain ⟨n, hn, rfl⟩ := Option.map_eq_some_iff.mp hx
    simp only [exSs, exS, evR, evT, evS, evP, evAs, evO, evC, evI, evIF, evF, mkV, mkT, Rvd_v, Rvd_f, varW_z, varW_s, barW_z, barW_zo, barW_s, ex_bl, libW, isi_i, isi_s, isi_t, eqW_i, fzE, fzV, slotOf, bindTg, bindTgs, wip, startD, List.map_cons, List.map_nil, List.replicate, List.length_cons, List.length_nil, List.cons_append, List.nil_append, List.set_cons_zero, List.set_cons_succ, Nat.reduceAdd, Nat.reduceSub, Nat.sub_self, Nat.add_sub_cancel, List.getElem?_cons_zero, List.getElem?_cons_succ, setAll, b_isi, b_lenL, b_lenT, b_lenS, b_lenO, b_all, b_any, b_tupL, b_tupT, b_lstL, b_lstT, b_strO, b_strI, b_strS, b_intI, b_intS, b_abs, b_min, b_max, b_sum, b_dvm, b_boolO, b_reprO, b_reprL, m_joinL, m_joinT, m_split, y_join, y_split, c_lt, c_le, c_gt, c_ge, c_is, c_isn, c_eq, c_ne, c_in, c_nin, i_str, i_tup, i_lst, t_bl, t_int, n_int, o_addI, o_addS, o_addT, o_addL, o_sub, o_mul, o_fdv, o_mod, o_pow, x_lst, x_tup, x_str, l_lst, l_tup, l_str, q_lst, q_tup, q_str, e_lst, e_tup]
    refine ⟨mulL (by omega) (by omega), mulR (by omega) (by omega), by omega, ?_⟩
    exact hk _ ⟨_, _, ⟨Int.emod_nonneg _ (by omega), by have := Int.emod_lt_of_pos (s * 30269 + n * 7 + 13) (b := 2147483629) (by omega); omega⟩, rfl⟩
  · obtain ⟨s, a, hs, rfl⟩ := hp
    have hbits : IntMulOk o o := by
      rcases ho with e | e
      · subst e
        exact mulL (by omega) (by omega)
      · exact IntMulOk.of_bits (h3 o e) (h3 o e)
    have fin : ∀ i : Int, 0 ≤ i → ∃ i_1 j k : Int, Rv.fr [D.int i, D.int ((s * 53 + o * o + 17 * t) % 2147483629), D.int 0] = .fr [.int i_1, .int j, .int k] ∧ 0 ≤ i_1 ∧ 0 ≤ j ∧ j < 2147483648 ∧ Q (.v .pail) := fun i hi =>
      ⟨i, _, 0, rfl, hi, Int.emod_nonneg _ (by omega), by have := Int.emod_lt_of_pos (s * 53 + o * o + 17 * t) (b := 2147483629) (by omega); omega, q⟩
    simp only [exSs, exS, evR, evT, evS, evP, evAs, evO, evC, evI, evIF, evF, mkV, mkT, Rvd_v, Rvd_f, varW_z, varW_s, barW_z, barW_zo, barW_s, ex_bl, libW, isi_i, isi_s, isi_t, eqW_i, fzE, fzV, slotOf, bindTg, bindTgs, wip, startD, List.map_cons, List.map_nil, List.replicate, List.length_cons, List.length_nil, List.cons_append, List.nil_append, List.set_cons_zero, List.set_cons_succ, Nat.reduceAdd, Nat.reduceSub, Nat.sub_self, Nat.add_sub_cancel, List.getElem?_cons_zero, List.getElem?_cons_succ, setAll, b_isi, b_lenL, b_lenT, b_lenS, b_lenO, b_all, b_any, b_tupL, b_tupT, b_lstL, b_lstT, b_strO, b_strI, b_strS, b_intI, b_intS, b_abs, b_min, b_max, b_sum, b_dvm, b_boolO, b_reprO, b_reprL, m_joinL, m_joinT, m_split, y_join, y_split, c_lt, c_le, c_gt, c_ge, c_is, c_isn, c_eq, c_ne, c_in, c_nin, i_str, i_tup, i_lst, t_bl, t_int, n_int, o_addI, o_addS, o_addT, o_addL, o_sub, o_mul, o_fdv, o_mod, o_pow, x_lst, x_tup, x_str, l_lst, l_tup, l_str, q_lst, q_tup, q_str, e_lst, e_tup]
    by_cases hn : o < 0
    · rw [decide_eq_true hn]
      refine ift ?_
      simp only [if_true]
      refine ⟨mulL (by omega) (by omega), hbits, mulL (by omega) (by omega), by omega, sl_le (by omega), ?_⟩
      rw [if_pos hn]
      exact fin _ (by omega)
    · rw [decide_eq_false hn]
      refine iff_ ?_
      refine ⟨⟨by omega, by omega, by decide⟩, ?_⟩
      have e10 : (10 : Int) ^ (18 : Int).toNat = 1000000000000000000 := by decide
      rw [e10]
      by_cases hg : (1000000000000000000 : Int) ≤ o
      · rw [decide_eq_true hg]
        refine ift ?_
        refine ⟨mulL (by omega) (by omega), hbits, mulL (by omega) (by omega), by omega, sl_le (by omega), ?_⟩
        rw [if_neg hn]
        exact fin _ (by omega)
      · rw [decide_eq_false hg]
        refine iff_ ?_
        refine ⟨mulL (by omega) (by omega), hbits, mulL (by omega) (by omega), by omega, sl_le (by omega), ?_⟩
        exact fin _ (by omega)
theorem atI_t0 {x y z : D} : atI [x, y, z] 0 = some x := rfl
theorem atI_t1 {x y z : D} : atI [x, y, z] 1 = some y := rfl
theorem atI_t2 {x y z : D} : atI [x, y, z] 2 = some z := rfl
theorem cast_w {sub : Sub} : CstOk (libW sub) 4 lh_cast := by
  intro C m Q hC hm0 hm1 q a i j l hi hj hj2
  have hB : (libW sub).Mono := libW_mono sub
  unfold lh_cast startP
  by_cases h : 0 < i
  · refine ss_c (s_if hB hC true ?_ ?_)
    · simp only [exSs, exS, evR, evT, evS, evP, evAs, evO, evC, evI, evIF, evF, mkV, mkT, Rvd_v, Rvd_f, varW_z, varW_s, barW_z, barW_zo, barW_s, ex_bl, libW, isi_i, isi_s, isi_t, eqW_i, fzE, fzV, slotOf, bindTg, bindTgs, wip, startD, List.map_cons, List.map_nil, List.replicate, List.length_cons, List.length_nil, List.cons_append, List.nil_append, List.set_cons_zero, List.set_cons_succ, Nat.reduceAdd, Nat.reduceSub, Nat.sub_self, Nat.add_sub_cancel, List.getElem?_cons_zero, List.getElem?_cons_succ, setAll, b_isi, b_lenL, b_lenT, b_lenS, b_lenO, b_all, b_any, b_tupL, b_tupT, b_lstL, b_lstT, b_strO, b_strI, b_strS, b_intI, b_intS, b_abs, b_min, b_max, b_sum, b_dvm, b_boolO, b_reprO, b_reprL, m_joinL, m_joinT, m_split, y_join, y_split, c_lt, c_le, c_gt, c_ge, c_is, c_isn, c_eq, c_ne, c_in, c_nin, i_str, i_tup, i_lst, t_bl, t_int, n_int, o_addI, o_addS, o_addT, o_addL, o_sub, o_mul, o_fdv, o_mod, o_pow, x_lst, x_tup, x_str, l_lst, l_tup, l_str, q_lst, q_tup, q_str, e_lst, e_tup]
      refine ⟨_, atI_t0, ?_⟩
      simp only [exSs, exS, evR, evT, evS, evP, evAs, evO, evC, evI, evIF, evF, mkV, mkT, Rvd_v, Rvd_f, varW_z, varW_s, barW_z, barW_zo, barW_s, ex_bl, libW, isi_i, isi_s, isi_t, eqW_i, fzE, fzV, slotOf, bindTg, bindTgs, wip, startD, List.map_cons, List.map_nil, List.replicate, List.length_cons, List.length_nil, List.cons_append, List.nil_append, List.set_cons_zero, List.set_cons_succ, Nat.reduceAdd, Nat.reduceSub, Nat.sub_self, Nat.add_sub_cancel, List.getElem?_cons_zero, List.getElem?_cons_succ, setAll, b_isi, b_lenL, b_lenT, b_lenS, b_lenO, b_all, b_any, b_tupL, b_tupT, b_lstL, b_lstT, b_strO, b_strI, b_strS, b_intI, b_intS, b_abs, b_min, b_max, b_sum, b_dvm, b_boolO, b_reprO, b_reprL, m_joinL, m_joinT, m_split, y_join, y_split, c_lt, c_le, c_gt, c_ge, c_is, c_isn, c_eq, c_ne, c_in, c_nin, i_str, i_tup, i_lst, t_bl, t_int, n_int, o_addI, o_addS, o_addT, o_addL, o_sub, o_mul, o_fdv, o_mod, o_pow, x_lst, x_tup, x_str, l_lst, l_tup, l_str, q_lst, q_tup, q_str, e_lst, e_tup]
      exact decide_eq_true h
    · refine ss_c ?_
      unfold exS
      simp only [exSs, exS, evR, evT, evS, evP, evAs, evO, evC, evI, evIF, evF, mkV, mkT, Rvd_v, Rvd_f, varW_z, varW_s, barW_z, barW_zo, barW_s, ex_bl, libW, isi_i, isi_s, isi_t, eqW_i, fzE, fzV, slotOf, bindTg, bindTgs, wip, startD, List.map_cons, List.map_nil, List.replicate, List.length_cons, List.length_nil, List.cons_append, List.nil_append, List.set_cons_zero, List.set_cons_succ, Nat.reduceAdd, Nat.reduceSub, Nat.sub_self, Nat.add_sub_cancel, List.getElem?_cons_zero, List.getElem?_cons_succ, setAll, b_isi, b_lenL, b_lenT, b_lenS, b_lenO, b_all, b_any, b_tupL, b_tupT, b_lstL, b_lstT, b_strO, b_strI, b_strS, b_intI, b_intS, b_abs, b_min, b_max, b_sum, b_dvm, b_boolO, b_reprO, b_reprL, m_joinL, m_joinT, m_split, y_join, y_split, c_lt, c_le, c_gt, c_ge, c_is, c_isn, c_eq, c_ne, c_in, c_nin, i_str, i_tup, i_lst, t_bl, t_int, n_int, o_addI, o_addS, o_addT, o_addL, o_sub, o_mul, o_fdv, o_mod, o_pow, x_lst, x_tup, x_str, l_lst, l_tup, l_str, q_lst, q_tup, q_str, e_lst, e_tup]
      refine ⟨_, _, rfl, _, atI_t0, ?_⟩
      simp only [exSs, exS, evR, evT, evS, evP, evAs, evO, evC, evI, evIF, evF, mkV, mkT, Rvd_v, Rvd_f, varW_z, varW_s, barW_z, barW_zo, barW_s, ex_bl, libW, isi_i, isi_s, isi_t, eqW_i, fzE, fzV, slotOf, bindTg, bindTgs, wip, startD, List.map_cons, List.map_nil, List.replicate, List.length_cons, List.length_nil, List.cons_append, List.nil_append, List.set_cons_zero, List.set_cons_succ, Nat.reduceAdd, Nat.reduceSub, Nat.sub_self, Nat.add_sub_cancel, List.getElem?_cons_zero, List.getElem?_cons_succ, setAll, b_isi, b_lenL, b_lenT, b_lenS, b_lenO, b_all, b_any, b_tupL, b_tupT, b_lstL, b_lstT, b_strO, b_strI, b_strS, b_intI, b_intS, b_abs, b_min, b_max, b_sum, b_dvm, b_boolO, b_reprO, b_reprL, m_joinL, m_joinT, m_split, y_join, y_split, c_lt, c_le, c_gt, c_ge, c_is, c_isn, c_eq, c_ne, c_in, c_nin, i_str, i_tup, i_lst, t_bl, t_int, n_int, o_addI, o_addS, o_addT, o_addL, o_sub, o_mul, o_fdv, o_mod, o_pow, x_lst, x_tup, x_str, l_lst, l_tup, l_str, q_lst, q_tup, q_str, e_lst, e_tup]
      refine ⟨⟨hm0, hm1⟩, _, _, rfl, _, _, rfl, rfl, ?_⟩
      refine ⟨i / m, j, l, i % m, rfl, rfl, Int.ediv_nonneg hi (by omega), hj, hj2, q _ (Int.emod_nonneg _ (by omega)) (Int.emod_lt_of_pos _ hm0)⟩
  · refine ss_c (s_if hB hC false ?_ (ss_n ?_))
    · simp only [exSs, exS, evR, evT, evS, evP, evAs, evO, evC, evI, evIF, evF, mkV, mkT, Rvd_v, Rvd_f, varW_z, varW_s, barW_z, barW_zo, barW_s, ex_bl, libW, isi_i, isi_s, isi_t, eqW_i, fzE, fzV, slotOf, bindTg, bindTgs, wip, startD, List.map_cons, List.map_nil, List.replicate, List.length_cons, List.length_nil, List.cons_append, List.nil_append, List.set_cons_zero, List.set_cons_succ, Nat.reduceAdd, Nat.reduceSub, Nat.sub_self, Nat.add_sub_cancel, List.getElem?_cons_zero, List.getElem?_cons_succ, setAll, b_isi, b_lenL, b_lenT, b_lenS, b_lenO, b_all, b_any, b_tupL, b_tupT, b_lstL, b_lstT, b_strO, b_strI, b_strS, b_intI, b_intS, b_abs, b_min, b_max, b_sum, b_dvm, b_boolO, b_reprO, b_reprL, m_joinL, m_joinT, m_split, y_join, y_split, c_lt, c_le, c_gt, c_ge, c_is, c_isn, c_eq, c_ne, c_in, c_nin, i_str, i_tup, i_lst, t_bl, t_int, n_int, o_addI, o_addS, o_addT, o_addL, o_sub, o_mul, o_fdv, o_mod, o_pow, x_lst, x_tup, x_str, l_lst, l_tup, l_str, q_lst, q_tup, q_str, e_lst, e_tup]
      refine ⟨_, atI_t0, ?_⟩
      simp only [exSs, exS, evR, evT, evS, evP, evAs, evO, evC, evI, evIF, evF, mkV, mkT, Rvd_v, Rvd_f, varW_z, varW_s, barW_z, barW_zo, barW_s, ex_bl, libW, isi_i, isi_s, isi_t, eqW_i, fzE, fzV, slotOf, bindTg, bindTgs, wip, startD, List.map_cons, List.map_nil, List.replicate, List.length_cons, List.length_nil, List.cons_append, List.nil_append, List.set_cons_zero, List.set_cons_succ, Nat.reduceAdd, Nat.reduceSub, Nat.sub_self, Nat.add_sub_cancel, List.getElem?_cons_zero, List.getElem?_cons_succ, setAll, b_isi, b_lenL, b_lenT, b_lenS, b_lenO, b_all, b_any, b_tupL, b_tupT, b_lstL, b_lstT, b_strO, b_strI, b_strS, b_intI, b_intS, b_abs, b_min, b_max, b_sum, b_dvm, b_boolO, b_reprO, b_reprL, m_joinL, m_joinT, m_split, y_join, y_split, c_lt, c_le, c_gt, c_ge, c_is, c_isn, c_eq, c_ne, c_in, c_nin, i_str, i_tup, i_lst, t_bl, t_int, n_int, o_addI, o_addS, o_addT, o_addL, o_sub, o_mul, o_fdv, o_mod, o_pow, x_lst, x_tup, x_str, l_lst, l_tup, l_str, q_lst, q_tup, q_str, e_lst, e_tup]
      exact decide_eq_false h
    · refine ss_c ?_
      unfold exS
      simp only [exSs, exS, evR, evT, evS, evP, evAs, evO, evC, evI, evIF, evF, mkV, mkT, Rvd_v, Rvd_f, varW_z, varW_s, barW_z, barW_zo, barW_s, ex_bl, libW, isi_i, isi_s, isi_t, eqW_i, fzE, fzV, slotOf, bindTg, bindTgs, wip, startD, List.map_cons, List.map_nil, List.replicate, List.length_cons, List.length_nil, List.cons_append, List.nil_append, List.set_cons_zero, List.set_cons_succ, Nat.reduceAdd, Nat.reduceSub, Nat.sub_self, Nat.add_sub_cancel, List.getElem?_cons_zero, List.getElem?_cons_succ, setAll, b_isi, b_lenL, b_lenT, b_lenS, b_lenO, b_all, b_any, b_tupL, b_tupT, b_lstL, b_lstT, b_strO, b_strI, b_strS, b_intI, b_intS, b_abs, b_min, b_max, b_sum, b_dvm, b_boolO, b_reprO, b_reprL, m_joinL, m_joinT, m_split, y_join, y_split, c_lt, c_le, c_gt, c_ge, c_is, c_isn, c_eq, c_ne, c_in, c_nin, i_str, i_tup, i_lst, t_bl, t_int, n_int, o_addI, o_addS, o_addT, o_addL, o_sub, o_mul, o_fdv, o_mod, o_pow, x_lst, x_tup, x_str, l_lst, l_tup, l_str, q_lst, q_tup, q_str, e_lst, e_tup]
      refine ⟨_, _, rfl, _, atI_t2, ?_⟩
      simp only [exSs, exS, evR, evT, evS, evP, evAs, evO, evC, evI, evIF, evF, mkV, mkT, Rvd_v, Rvd_f, varW_z, varW_s, barW_z, barW_zo, barW_s, ex_bl, libW, isi_i, isi_s, isi_t, eqW_i, fzE, fzV, slotOf, bindTg, bindTgs, wip, startD, List.map_cons, List.map_nil, List.replicate, List.length_cons, List.length_nil, List.cons_append, List.nil_append, List.set_cons_zero, List.set_cons_succ, Nat.reduceAdd, Nat.reduceSub, Nat.sub_self, Nat.add_sub_cancel, List.getElem?_cons_zero, List.getElem?_cons_succ, setAll, b_isi, b_lenL, b_lenT, b_lenS, b_lenO, b_all, b_any, b_tupL, b_tupT, b_lstL, b_lstT, b_strO, b_strI, b_strS, b_intI, b_intS, b_abs, b_min, b_max, b_sum, b_dvm, b_boolO, b_reprO, b_reprL, m_joinL, m_joinT, m_split, y_join, y_split, c_lt, c_le, c_gt, c_ge, c_is, c_isn, c_eq, c_ne, c_in, c_nin, i_str, i_tup, i_lst, t_bl, t_int, n_int, o_addI, o_addS, o_addT, o_addL, o_sub, o_mul, o_fdv, o_mod, o_pow, x_lst, x_tup, x_str, l_lst, l_tup, l_str, q_lst, q_tup, q_str, e_lst, e_tup]
      refine ⟨_, _, rfl, rfl, ?_⟩
      refine ⟨_, atI_t1, ?_⟩
      refine ⟨D.int (l + 1), rfl, ?_⟩
      have ev : [D.int i, D.int j, D.int l].set (Int.toNat 2) (D.int (l + 1)) = [D.int i, D.int j, D.int (l + 1)] := rfl
      simp only [exSs, exS, evR, evT, evS, evP, evAs, evO, evC, evI, evIF, evF, mkV, mkT, Rvd_v, Rvd_f, varW_z, varW_s, barW_z, barW_zo, barW_s, ex_bl, libW, isi_i, isi_s, isi_t, eqW_i, fzE, fzV, slotOf, bindTg, bindTgs, wip, startD, List.map_cons, List.map_nil, List.replicate, List.length_cons, List.length_nil, List.cons_append, List.nil_append, List.set_cons_zero, List.set_cons_succ, Nat.reduceAdd, Nat.reduceSub, Nat.sub_self, Nat.add_sub_cancel, List.getElem?_cons_zero, List.getElem?_cons_succ, setAll, b_isi, b_lenL, b_lenT, b_lenS, b_lenO, b_all, b_any, b_tupL, b_tupT, b_lstL, b_lstT, b_strO, b_strI, b_strS, b_intI, b_intS, b_abs, b_min, b_max, b_sum, b_dvm, b_boolO, b_reprO, b_reprL, m_joinL, m_joinT, m_split, y_join, y_split, c_lt, c_le, c_gt, c_ge, c_is, c_isn, c_eq, c_ne, c_in, c_nin, i_str, i_tup, i_lst, t_bl, t_int, n_int, o_addI, o_addS, o_addT, o_addL, o_sub, o_mul, o_fdv, o_mod, o_pow, x_lst, x_tup, x_str, l_lst, l_tup, l_str, q_lst, q_tup, q_str, e_lst, e_tup, ev]
      refine ⟨mulL (by omega) (by omega), mulL (by omega) (by omega), D.int (l + 1), rfl, ?_⟩
      simp only [exSs, exS, evR, evT, evS, evP, evAs, evO, evC, evI, evIF, evF, mkV, mkT, Rvd_v, Rvd_f, varW_z, varW_s, barW_z, barW_zo, barW_s, ex_bl, libW, isi_i, isi_s, isi_t, eqW_i, fzE, fzV, slotOf, bindTg, bindTgs, wip, startD, List.map_cons, List.map_nil, List.replicate, List.length_cons, List.length_nil, List.cons_append, List.nil_append, List.set_cons_zero, List.set_cons_succ, Nat.reduceAdd, Nat.reduceSub, Nat.sub_self, Nat.add_sub_cancel, List.getElem?_cons_zero, List.getElem?_cons_succ, setAll, b_isi, b_lenL, b_lenT, b_lenS, b_lenO, b_all, b_any, b_tupL, b_tupT, b_lstL, b_lstT, b_strO, b_strI, b_strS, b_intI, b_intS, b_abs, b_min, b_max, b_sum, b_dvm, b_boolO, b_reprO, b_reprL, m_joinL, m_joinT, m_split, y_join, y_split, c_lt, c_le, c_gt, c_ge, c_is, c_isn, c_eq, c_ne, c_in, c_nin, i_str, i_tup, i_lst, t_bl, t_int, n_int, o_addI, o_addS, o_addT, o_addL, o_sub, o_mul, o_fdv, o_mod, o_pow, x_lst, x_tup, x_str, l_lst, l_tup, l_str, q_lst, q_tup, q_str, e_lst, e_tup]
      refine ⟨mulL (by omega) (by omega), by omega, _, _, rfl, ?_⟩
      have hs0 := Int.emod_nonneg (j * (36809 + 2 * (l + 1)) + 5303 * (l + 1) + 7) (b := 2147483629) (by omega)
      have hs1 := Int.emod_lt_of_pos (j * (36809 + 2 * (l + 1)) + 5303 * (l + 1) + 7) (b := 2147483629) (by omega)
      generalize (j * (36809 + 2 * (l + 1)) + 5303 * (l + 1) + 7) % 2147483629 = st at hs0 hs1 ⊢
      refine ⟨mulL (by omega) (by omega), D.int (l + 1), rfl, ?_⟩
      simp only [exSs, exS, evR, evT, evS, evP, evAs, evO, evC, evI, evIF, evF, mkV, mkT, Rvd_v, Rvd_f, varW_z, varW_s, barW_z, barW_zo, barW_s, ex_bl, libW, isi_i, isi_s, isi_t, eqW_i, fzE, fzV, slotOf, bindTg, bindTgs, wip, startD, List.map_cons, List.map_nil, List.replicate, List.length_cons, List.length_nil, List.cons_append, List.nil_append, List.set_cons_zero, List.set_cons_succ, Nat.reduceAdd, Nat.reduceSub, Nat.sub_self, Nat.add_sub_cancel, List.getElem?_cons_zero, List.getElem?_cons_succ, setAll, b_isi, b_lenL, b_lenT, b_lenS, b_lenO, b_all, b_any, b_tupL, b_tupT, b_lstL, b_lstT, b_strO, b_strI, b_strS, b_intI, b_intS, b_abs, b_min, b_max, b_sum, b_dvm, b_boolO, b_reprO, b_reprL, m_joinL, m_joinT, m_split, y_join, y_split, c_lt, c_le, c_gt, c_ge, c_is, c_isn, c_eq, c_ne, c_in, c_nin, i_str, i_tup, i_lst, t_bl, t_int, n_int, o_addI, o_addS, o_addT, o_addL, o_sub, o_mul, o_fdv, o_mod, o_pow, x_lst, x_tup, x_str, l_lst, l_tup, l_str, q_lst, q_tup, q_str, e_lst, e_tup]
      refine ⟨mulL (by omega) (by omega), by omega, _, _, rfl, rfl, ?_⟩
      have ht0 := Int.emod_nonneg (st * 45413 + 3 * (l + 1) + 1) (b := 2147483587) (by omega)
      have ht1 := Int.emod_lt_of_pos (st * 45413 + 3 * (l + 1) + 1) (b := 2147483587) (by omega)
      generalize (st * 45413 + 3 * (l + 1) + 1) % 2147483587 = tt at ht0 ht1 ⊢
      refine ⟨D.int tt, rfl, ?_⟩
      simp only [exSs, exS, evR, evT, evS, evP, evAs, evO, evC, evI, evIF, evF, mkV, mkT, Rvd_v, Rvd_f, varW_z, varW_s, barW_z, barW_zo, barW_s, ex_bl, libW, isi_i, isi_s, isi_t, eqW_i, fzE, fzV, slotOf, bindTg, bindTgs, wip, startD, List.map_cons, List.map_nil, List.replicate, List.length_cons, List.length_nil, List.cons_append, List.nil_append, List.set_cons_zero, List.set_cons_succ, Nat.reduceAdd, Nat.reduceSub, Nat.sub_self, Nat.add_sub_cancel, List.getElem?_cons_zero, List.getElem?_cons_succ, setAll, b_isi, b_lenL, b_lenT, b_lenS, b_lenO, b_all, b_any, b_tupL, b_tupT, b_lstL, b_lstT, b_strO, b_strI, b_strS, b_intI, b_intS, b_abs, b_min, b_max, b_sum, b_dvm, b_boolO, b_reprO, b_reprL, m_joinL, m_joinT, m_split, y_join, y_split, c_lt, c_le, c_gt, c_ge, c_is, c_isn, c_eq, c_ne, c_in, c_nin, i_str, i_tup, i_lst, t_bl, t_int, n_int, o_addI, o_addS, o_addT, o_addL, o_sub, o_mul, o_fdv, o_mod, o_pow, x_lst, x_tup, x_str, l_lst, l_tup, l_str, q_lst, q_tup, q_str, e_lst, e_tup]
      refine ⟨⟨by omega, by omega⟩, hm0, ?_⟩
      refine ⟨i, tt, l + 1, _, rfl, rfl, hi, ht0, by omega, q _ (Int.emod_nonneg _ (by omega)) (Int.emod_lt_of_pos _ hm0)⟩
end En
namespace En
open PySem L2 PyProof.Rows TL
/-! ### draws -/
/-- each item gives any thing of a kind -/
theorem fold_anyM {α : Type} {g : α → D} {P : α → Prop} {step : D → List D → (List D → Prop) → Prop} {Q : List D → Prop} : ∀ (items : List D) (acc : List D), (∀ x ∈ items, ∀ acc K, (∀ a, P a → K (acc ++ [g a])) → step x acc K) → (∀ as : List α, as.length = items.length → (∀ a ∈ as, P a) → Q (acc ++ as.map g)) → foldW step items acc Q
  | [], acc, _, q => by
    have := q [] rfl (fun _ h => by cases h)
    unfold foldW
    simpa using this
  | x :: xs, acc, h, q => by
    unfold foldW
    refine h x List.mem_cons_self acc _ fun a ha => fold_anyM xs _ (fun z hz => h z (List.mem_cons_of_mem _ hz)) fun as h1 h2 => ?_
    have := q (a :: as) (by simp [h1]) fun z hz => by
      rcases List.mem_cons.mp hz with e | e
      · rw [e]; exact ha
      · exact h2 z e
    simpa using this
structure LgD (fs : List (Str × Fn)) (l : List (Str × Prim)) : Prop where
  noC : fs.lookup ("_law_cast" : Str) = none
  lC : l.lookup ("_law_cast" : Str) = some pCst
  any_of : fs.lookup ("_law_any_of" : Str) = some ⟨2, 2, lh_any_of⟩
  tags : fs.lookup ("_law_tags" : Str) = some ⟨2, 4, lh_tags⟩
  wide : fs.lookup ("_law_wide" : Str) = some ⟨1, 2, lh_wide⟩
  form : fs.lookup ("_law_form" : Str) = some ⟨2, 3, lh_form⟩
def menu : List Str := [Str.ofString "x", Str.ofString "y", Str.ofString "a", Str.ofString "b", Str.ofString "k9", Str.ofString "vars", Str.ofString "say", Str.ofString "then", Str.ofString "test", Str.ofString "branch", Str.ofString "abcdefgh", Str.ofString "n", Str.ofString "z0000000", Str.ofString "undo"]
theorem menu_nm : ∀ s ∈ menu, nmS s = true := by
  intro s hs
  simp only [menu, List.mem_cons, List.not_mem_nil, or_false] at hs
  rcases hs with rfl | rfl | rfl | rfl | rfl | rfl | rfl | rfl | rfl | rfl | rfl | rfl | rfl | rfl <;> rfl
theorem menu_nodup : menu.Nodup := by
  have : (menu.map tl).Nodup := by
    unfold menu
    simp only [List.map_cons, List.map_nil, tl_ofString]
    decide
  exact List.Pairwise.of_map tl (fun a b h e => h (congrArg tl e)) this
/-- six names one behind another -/
structure Tgz (ts : List Str) : Prop where
  len : ts.length = 6
  nd : ts.Nodup
  nm : ∀ s ∈ ts, nmS s = true
theorem rot_tags {i : Nat} (h : i < 14) : Tgz ((menu.drop i ++ menu.take i).take 6) := by
  have hl : menu.length = 14 := rfl
  have nd : (menu.drop i ++ menu.take i).Nodup := by
    have : (menu.take i ++ menu.drop i).Nodup := by rw [List.take_append_drop]; exact menu_nodup
    exact (List.perm_append_comm.nodup_iff).mp this
  refine ⟨?_, nd.sublist (List.take_sublist _ _), fun s hs => menu_nm s ?_⟩
  · rw [List.length_take, List.length_append, List.length_drop, List.length_take, hl]
    omega
  · rcases List.mem_append.mp (List.mem_of_mem_take hs) with z | z
    · exact List.mem_of_mem_drop z
    · exact List.mem_of_mem_take z
section
variable {sub : Sub} {fs : List (Str × Fn)} {l : List (Str × Prim)} {G : Cfg} (hG : G.B = libW sub) (hm : ∀ k, MonoC (CW G fs l k)) (D' : LgD fs l)
include hG hm D'
theorem cast_ok {k : Nat} {n : Int} (h0 : 0 < n) (h1 : n < 1073741824) {Q : Rv → Prop} {E : XP} (q : ∀ i : Int, 0 ≤ i → i < n → Q (.v (.int i))) : CW G fs l (k + 1) "_law_cast" [.pail, .int n] Q E :=
  cw_prim_mk (P := pCst) D'.noC D'.lC ⟨n, rfl, h0, h1, q⟩
theorem any_of_ok {k : Nat} {xs : List D} (h0 : xs ≠ []) (h1 : xs.length < 1000000) {Q : Rv → Prop} {E : XP} (q : ∀ x ∈ xs, Q (.v x)) : CW G fs l (k + 2) "_law_any_of" [.pail, .lst xs] Q E := by
  refine cw_fn_mk D'.any_of rfl ?_
  have hp : xs.length ≠ 0 := fun e => h0 (List.length_eq_zero_iff.mp e)
  rw [hG]
  unfold lh_any_of
  simp only [exSs, exS, evR, evT, evS, evP, evAs, evO, evC, evI, evIF, evF, mkV, mkT, Rvd_v, Rvd_f, varW_z, varW_s, barW_z, barW_zo, barW_s, ex_bl, libW, isi_i, isi_s, isi_t, eqW_i, fzE, fzV, slotOf, bindTg, bindTgs, wip, startD, List.map_cons, List.map_nil, List.replicate, List.length_cons, List.length_nil, List.cons_append, List.nil_append, List.set_cons_zero, List.set_cons_succ, Nat.reduceAdd, Nat.reduceSub, Nat.sub_self, Nat.add_sub_cancel, List.getElem?_cons_zero, List.getElem?_cons_succ, setAll, b_isi, b_lenL, b_lenT, b_lenS, b_lenO, b_all, b_any, b_tupL, b_tupT, b_lstL, b_lstT, b_strO, b_strI, b_strS, b_intI, b_intS, b_abs, b_min, b_max, b_sum, b_dvm, b_boolO, b_reprO, b_reprL, m_joinL, m_joinT, m_split, y_join, y_split, c_lt, c_le, c_gt, c_ge, c_is, c_isn, c_eq, c_ne, c_in, c_nin, i_str, i_tup, i_lst, t_bl, t_int, n_int, o_addI, o_addS, o_addT, o_addL, o_sub, o_mul, o_fdv, o_mod, o_pow, x_lst, x_tup, x_str, l_lst, l_tup, l_str, q_lst, q_tup, q_str, e_lst, e_tup]
  refine cast_ok hG hm D' (by omega) (by omega) fun i h2 h3 => ?_
  obtain ⟨j, rfl⟩ := Int.eq_ofNat_of_zero_le h2
  have hj : j < xs.length := by omega
  simp only [exSs, exS, evR, evT, evS, evP, evAs, evO, evC, evI, evIF, evF, mkV, mkT, Rvd_v, Rvd_f, varW_z, varW_s, barW_z, barW_zo, barW_s, ex_bl, libW, isi_i, isi_s, isi_t, eqW_i, fzE, fzV, slotOf, bindTg, bindTgs, wip, startD, List.map_cons, List.map_nil, List.replicate, List.length_cons, List.length_nil, List.cons_append, List.nil_append, List.set_cons_zero, List.set_cons_succ, Nat.reduceAdd, Nat.reduceSub, Nat.sub_self, Nat.add_sub_cancel, List.getElem?_cons_zero, List.getElem?_cons_succ, setAll, b_isi, b_lenL, b_lenT, b_lenS, b_lenO, b_all, b_any, b_tupL, b_tupT, b_lstL, b_lstT, b_strO, b_strI, b_strS, b_intI, b_intS, b_abs, b_min, b_max, b_sum, b_dvm, b_boolO, b_reprO, b_reprL, m_joinL, m_joinT, m_split, y_join, y_split, c_lt, c_le, c_gt, c_ge, c_is, c_isn, c_eq, c_ne, c_in, c_nin, i_str, i_tup, i_lst, t_bl, t_int, n_int, o_addI, o_addS, o_addT, o_addL, o_sub, o_mul, o_fdv, o_mod, o_pow, x_lst, x_tup, x_str, l_lst, l_tup, l_str, q_lst, q_tup, q_str, e_lst, e_tup]
  exact ⟨xs[j], atI_nat (List.getElem?_eq_getElem hj), q _ (List.getElem_mem _)⟩
theorem tags_ok {k : Nat} {Q : Rv → Prop} {E : XP} (q : ∀ ts, Tgz ts → Q (.fr (ts.map D.str))) : CW G fs l (k + 2) "_law_tags" [.pail, .int 6] Q E := by
  have hB : G.B.Mono := by rw [hG]; exact libW_mono sub
  refine cw_fn_mk D'.tags rfl ?_
  refine ss_c (s_set hB (hm _) (.fr (menu.map D.str)) ?_ (ss_c ?_))
  · rw [hG]
    simp only [exSs, exS, evR, evT, evS, evP, evAs, evO, evC, evI, evIF, evF, mkV, mkT, Rvd_v, Rvd_f, varW_z, varW_s, barW_z, barW_zo, barW_s, ex_bl, libW, isi_i, isi_s, isi_t, eqW_i, fzE, fzV, slotOf, bindTg, bindTgs, wip, startD, List.map_cons, List.map_nil, List.replicate, List.length_cons, List.length_nil, List.cons_append, List.nil_append, List.set_cons_zero, List.set_cons_succ, Nat.reduceAdd, Nat.reduceSub, Nat.sub_self, Nat.add_sub_cancel, List.getElem?_cons_zero, List.getElem?_cons_succ, setAll, b_isi, b_lenL, b_lenT, b_lenS, b_lenO, b_all, b_any, b_tupL, b_tupT, b_lstL, b_lstT, b_strO, b_strI, b_strS, b_intI, b_intS, b_abs, b_min, b_max, b_sum, b_dvm, b_boolO, b_reprO, b_reprL, m_joinL, m_joinT, m_split, y_join, y_split, c_lt, c_le, c_gt, c_ge, c_is, c_isn, c_eq, c_ne, c_in, c_nin, i_str, i_tup, i_lst, t_bl, t_int, n_int, o_addI, o_addS, o_addT, o_addL, o_sub, o_mul, o_fdv, o_mod, o_pow, x_lst, x_tup, x_str, l_lst, l_tup, l_str, q_lst, q_tup, q_str, e_lst, e_tup]
    exact ⟨sl_le (by omega), rfl⟩
  · unfold exS
    rw [hG]
    simp only [exSs, exS, evR, evT, evS, evP, evAs, evO, evC, evI, evIF, evF, mkV, mkT, Rvd_v, Rvd_f, varW_z, varW_s, barW_z, barW_zo, barW_s, ex_bl, libW, isi_i, isi_s, isi_t, eqW_i, fzE, fzV, slotOf, bindTg, bindTgs, wip, startD, List.map_cons, List.map_nil, List.replicate, List.length_cons, List.length_nil, List.cons_append, List.nil_append, List.set_cons_zero, List.set_cons_succ, Nat.reduceAdd, Nat.reduceSub, Nat.sub_self, Nat.add_sub_cancel, List.getElem?_cons_zero, List.getElem?_cons_succ, setAll, b_isi, b_lenL, b_lenT, b_lenS, b_lenO, b_all, b_any, b_tupL, b_tupT, b_lstL, b_lstT, b_strO, b_strI, b_strS, b_intI, b_intS, b_abs, b_min, b_max, b_sum, b_dvm, b_boolO, b_reprO, b_reprL, m_joinL, m_joinT, m_split, y_join, y_split, c_lt, c_le, c_gt, c_ge, c_is, c_isn, c_eq, c_ne, c_in, c_nin, i_str, i_tup, i_lst, t_bl, t_int, n_int, o_addI, o_addS, o_addT, o_addL, o_sub, o_mul, o_fdv, o_mod, o_pow, x_lst, x_tup, x_str, l_lst, l_tup, l_str, q_lst, q_tup, q_str, e_lst, e_tup, List.length_map]
    refine cast_ok hG hm D' (by decide) (by decide) fun i h2 h3 => ?_
    obtain ⟨j, rfl⟩ := Int.eq_ofNat_of_zero_le h2
    have hj : j < 14 := by
      have : ((menu.length : Nat) : Int) = 14 := rfl
      omega
    simp only [exSs, exS, evR, evT, evS, evP, evAs, evO, evC, evI, evIF, evF, mkV, mkT, Rvd_v, Rvd_f, varW_z, varW_s, barW_z, barW_zo, barW_s, ex_bl, libW, isi_i, isi_s, isi_t, eqW_i, fzE, fzV, slotOf, bindTg, bindTgs, wip, startD, List.map_cons, List.map_nil, List.replicate, List.length_cons, List.length_nil, List.cons_append, List.nil_append, List.set_cons_zero, List.set_cons_succ, Nat.reduceAdd, Nat.reduceSub, Nat.sub_self, Nat.add_sub_cancel, List.getElem?_cons_zero, List.getElem?_cons_succ, setAll, b_isi, b_lenL, b_lenT, b_lenS, b_lenO, b_all, b_any, b_tupL, b_tupT, b_lstL, b_lstT, b_strO, b_strI, b_strS, b_intI, b_intS, b_abs, b_min, b_max, b_sum, b_dvm, b_boolO, b_reprO, b_reprL, m_joinL, m_joinT, m_split, y_join, y_split, c_lt, c_le, c_gt, c_ge, c_is, c_isn, c_eq, c_ne, c_in, c_nin, i_str, i_tup, i_lst, t_bl, t_int, n_int, o_addI, o_addS, o_addT, o_addL, o_sub, o_mul, o_fdv, o_mod, o_pow, x_lst, x_tup, x_str, l_lst, l_tup, l_str, q_lst, q_tup, q_str, e_lst, e_tup]
    refine ⟨_, rfl, _, rfl, ?_⟩
    rw [cut_drop, cut_take, ← List.map_drop, ← List.map_take, ← List.map_append]
    refine ⟨?_, ?_⟩
    · rw [List.length_map, List.length_map, List.length_drop, List.length_take]
      exact sl_le (by have : menu.length = 14 := rfl; omega)
    · have ec : ∀ zs : List D, cutD zs none (some 6) = zs.take 6 := fun zs => cut_take (i := 6)
      refine ⟨6, rfl, ?_⟩
      rw [ec, ← List.map_take]
      exact q _ (rot_tags hj)
theorem wide_ok {k : Nat} {Q : Rv → Prop} {E : XP} (q : ∀ i : Int, -1000000 ≤ i → i ≤ 1000000 → Q (.v (.int i))) : CW G fs l (k + 3) "_law_wide" [.pail] Q E := by
  have hB : G.B.Mono := by rw [hG]; exact libW_mono sub
  have e10 : (10 : Int) ^ (6 : Int).toNat = 1000000 := by decide
  refine cw_fn_mk D'.wide rfl ?_
  rw [hG]
  unfold lh_wide
  simp only [exSs, exS, evR, evT, evS, evP, evAs, evO, evC, evI, evIF, evF, mkV, mkT, Rvd_v, Rvd_f, varW_z, varW_s, barW_z, barW_zo, barW_s, ex_bl, libW, isi_i, isi_s, isi_t, eqW_i, fzE, fzV, slotOf, bindTg, bindTgs, wip, startD, List.map_cons, List.map_nil, List.replicate, List.length_cons, List.length_nil, List.cons_append, List.nil_append, List.set_cons_zero, List.set_cons_succ, Nat.reduceAdd, Nat.reduceSub, Nat.sub_self, Nat.add_sub_cancel, List.getElem?_cons_zero, List.getElem?_cons_succ, setAll, b_isi, b_lenL, b_lenT, b_lenS, b_lenO, b_all, b_any, b_tupL, b_tupT, b_lstL, b_lstT, b_strO, b_strI, b_strS, b_intI, b_intS, b_abs, b_min, b_max, b_sum, b_dvm, b_boolO, b_reprO, b_reprL, m_joinL, m_joinT, m_split, y_join, y_split, c_lt, c_le, c_gt, c_ge, c_is, c_isn, c_eq, c_ne, c_in, c_nin, i_str, i_tup, i_lst, t_bl, t_int, n_int, o_addI, o_addS, o_addT, o_addL, o_sub, o_mul, o_fdv, o_mod, o_pow, x_lst, x_tup, x_str, l_lst, l_tup, l_str, q_lst, q_tup, q_str, e_lst, e_tup, e10]
  refine cast_ok hG hm D' (by decide) (by decide) fun w h2 h3 => ?_
  simp only [exSs, exS, evR, evT, evS, evP, evAs, evO, evC, evI, evIF, evF, mkV, mkT, Rvd_v, Rvd_f, varW_z, varW_s, barW_z, barW_zo, barW_s, ex_bl, libW, isi_i, isi_s, isi_t, eqW_i, fzE, fzV, slotOf, bindTg, bindTgs, wip, startD, List.map_cons, List.map_nil, List.replicate, List.length_cons, List.length_nil, List.cons_append, List.nil_append, List.set_cons_zero, List.set_cons_succ, Nat.reduceAdd, Nat.reduceSub, Nat.sub_self, Nat.add_sub_cancel, List.getElem?_cons_zero, List.getElem?_cons_succ, setAll, b_isi, b_lenL, b_lenT, b_lenS, b_lenO, b_all, b_any, b_tupL, b_tupT, b_lstL, b_lstT, b_strO, b_strI, b_strS, b_intI, b_intS, b_abs, b_min, b_max, b_sum, b_dvm, b_boolO, b_reprO, b_reprL, m_joinL, m_joinT, m_split, y_join, y_split, c_lt, c_le, c_gt, c_ge, c_is, c_isn, c_eq, c_ne, c_in, c_nin, i_str, i_tup, i_lst, t_bl, t_int, n_int, o_addI, o_addS, o_addT, o_addL, o_sub, o_mul, o_fdv, o_mod, o_pow, x_lst, x_tup, x_str, l_lst, l_tup, l_str, q_lst, q_tup, q_str, e_lst, e_tup]
  by_cases h5 : w < 5
  · rw [decide_eq_true h5]
    refine ift ?_
    refine cast_ok hG hm D' (by decide) (by decide) fun i h4 h6 => ?_
    exact q _ (by omega) (by omega)
  · rw [decide_eq_false h5]
    refine iff_ ?_
    by_cases h6 : w = 5
    · rw [decide_eq_true h6]
      refine ift ?_
      refine ⟨⟨by decide, by decide, by decide⟩, ⟨by decide, by decide, by decide⟩, sl_le (by omega), ?_⟩
      refine any_of_ok hG hm D' (by simp) (by simp) fun x hx => ?_
      simp only [List.mem_cons, List.not_mem_nil, or_false] at hx
      rcases hx with rfl | rfl | rfl | rfl
      · exact q _ (by omega) (by omega)
      · exact q _ (by omega) (by omega)
      · exact q _ (by omega) (by omega)
      · exact q _ (by omega) (by omega)
    · rw [decide_eq_false h6]
      refine iff_ ?_
      by_cases h7 : w = 6
      · rw [decide_eq_true h7]
        refine ift ?_
        refine cast_ok hG hm D' (by decide) (by decide) fun i h4 h8 => ?_
        exact q _ (by omega) (by omega)
      · rw [decide_eq_false h7]
        refine iff_ ?_
        refine ⟨⟨by decide, by decide, by decide⟩, mulL (by omega) (by omega), ?_⟩
        refine cast_ok hG hm D' (by decide) (by decide) fun i h4 h8 => ?_
        refine ⟨⟨by decide, by decide, by decide⟩, ?_⟩
        exact q _ (by omega) (by omega)
theorem form_ok {k n : Nat} (hn : n ≤ 100) {Q : Rv → Prop} {E : XP} (q : ∀ f, frm n f → Q (.v (formD f))) : CW G fs l (k + 4) "_law_form" [.pail, .int n] Q E := by
  refine cw_fn_mk D'.form rfl ?_
  rw [hG]
  unfold lh_form
  simp only [exSs, exS, evR, evT, evS, evP, evAs, evO, evC, evI, evIF, evF, mkV, mkT, Rvd_v, Rvd_f, varW_z, varW_s, barW_z, barW_zo, barW_s, ex_bl, libW, isi_i, isi_s, isi_t, eqW_i, fzE, fzV, slotOf, bindTg, bindTgs, wip, startD, List.map_cons, List.map_nil, List.replicate, List.length_cons, List.length_nil, List.cons_append, List.nil_append, List.set_cons_zero, List.set_cons_succ, Nat.reduceAdd, Nat.reduceSub, Nat.sub_self, Nat.add_sub_cancel, List.getElem?_cons_zero, List.getElem?_cons_succ, setAll, b_isi, b_lenL, b_lenT, b_lenS, b_lenO, b_all, b_any, b_tupL, b_tupT, b_lstL, b_lstT, b_strO, b_strI, b_strS, b_intI, b_intS, b_abs, b_min, b_max, b_sum, b_dvm, b_boolO, b_reprO, b_reprL, m_joinL, m_joinT, m_split, y_join, y_split, c_lt, c_le, c_gt, c_ge, c_is, c_isn, c_eq, c_ne, c_in, c_nin, i_str, i_tup, i_lst, t_bl, t_int, n_int, o_addI, o_addS, o_addT, o_addL, o_sub, o_mul, o_fdv, o_mod, o_pow, x_lst, x_tup, x_str, l_lst, l_tup, l_str, q_lst, q_tup, q_str, e_lst, e_tup]
  refine ⟨_, rfl, ⟨by omega, by omega⟩, ?_⟩
  rw [List.length_map, List.length_range]
  refine ⟨sl_le (by omega), ?_⟩
  refine fold_anyM (α := Int) (g := D.int) (P := fun i => -1000000 ≤ i ∧ i ≤ 1000000) _ _ (fun x hx acc K hk => ?_) fun as h1 h2 => ?_
  · simp only [if_true]
    exact wide_ok hG hm D' fun i a b => hk i ⟨a, b⟩
  · rw [List.length_map, List.length_range] at h1
    simp only [exSs, exS, evR, evT, evS, evP, evAs, evO, evC, evI, evIF, evF, mkV, mkT, Rvd_v, Rvd_f, varW_z, varW_s, barW_z, barW_zo, barW_s, ex_bl, libW, isi_i, isi_s, isi_t, eqW_i, fzE, fzV, slotOf, bindTg, bindTgs, wip, startD, List.map_cons, List.map_nil, List.replicate, List.length_cons, List.length_nil, List.cons_append, List.nil_append, List.set_cons_zero, List.set_cons_succ, Nat.reduceAdd, Nat.reduceSub, Nat.sub_self, Nat.add_sub_cancel, List.getElem?_cons_zero, List.getElem?_cons_succ, setAll, b_isi, b_lenL, b_lenT, b_lenS, b_lenO, b_all, b_any, b_tupL, b_tupT, b_lstL, b_lstT, b_strO, b_strI, b_strS, b_intI, b_intS, b_abs, b_min, b_max, b_sum, b_dvm, b_boolO, b_reprO, b_reprL, m_joinL, m_joinT, m_split, y_join, y_split, c_lt, c_le, c_gt, c_ge, c_is, c_isn, c_eq, c_ne, c_in, c_nin, i_str, i_tup, i_lst, t_bl, t_int, n_int, o_addI, o_addS, o_addT, o_addL, o_sub, o_mul, o_fdv, o_mod, o_pow, x_lst, x_tup, x_str, l_lst, l_tup, l_str, q_lst, q_tup, q_str, e_lst, e_tup]
    exact q as ⟨by omega, h2⟩
end
end En
namespace En
open PySem L2 PyProof.Rows TL
/-! ### parts of a program, drawn -/
def partsD (ns : List Str) (ss : List Say) (as : List Arm) : List D := [nmsD ns, sysD ss, armsD as]
def okArm (n : Nat) (T : List Str) (a : Arm) : Prop := a.1 ∈ T ∧ a.2.1 ∈ T ∧ a.2.2.1.length ≤ 3 ∧ a.2.2.2.length = n ∧ (∀ f ∈ a.2.2.1, frm n f) ∧ ∀ f ∈ a.2.2.2, frm n f
theorem good_of {ns T : List Str} {ss : List Say} {as : List Arm} (n1 : ns ≠ []) (n2 : ns.length ≤ 3) (n3 : ∀ s ∈ ns, nmS s = true) (n4 : ns.Nodup) (hT : T.length ≤ 3) (hTn : ∀ s ∈ T, nmS s = true)
    (s1 : ss.length ≤ 3) (s2 : ∀ s ∈ ss, s.1 ∈ T ∧ frm ns.length s.2) (a1 : as ≠ []) (a2 : as.length ≤ 5) (a3 : ∀ a ∈ as, okArm ns.length T a) : Good ns ss as where
  n1 := n1
  n2 := n2
  n3 := n3
  n4 := n4
  s1 := s1
  s2 := fun s hs => ⟨hTn _ (s2 s hs).1, (s2 s hs).2⟩
  a1 := a1
  a2 := a2
  a3 := fun a ha => by
    obtain ⟨h1, h2, h3⟩ := a3 a ha
    exact ⟨hTn _ h1, hTn _ h2, h3⟩
  p := by
    refine Nat.le_trans (plc_le (ys := T) fun x hx => ?_) hT
    rcases List.mem_append.mp hx with z | z
    · obtain ⟨s, hs, rfl⟩ := List.mem_map.mp z
      exact (s2 s hs).1
    · obtain ⟨a, ha, z⟩ := List.mem_flatMap.mp z
      obtain ⟨h1, h2, _⟩ := a3 a ha
      simp only [List.mem_cons, List.not_mem_nil, or_false] at z
      rcases z with rfl | rfl
      · exact h1
      · exact h2
section
variable {sub : Sub} {fs : List (Str × Fn)} {l : List (Str × Prim)} {G : Cfg} (hG : G.B = libW sub) (hm : ∀ k, MonoC (CW G fs l k)) (D' : LgD fs l)
include hG hm D'
theorem parts_ok (hp : fs.lookup ("_law_parts" : Str) = some ⟨1, 10, lh_parts⟩) {k : Nat} {Q : Rv → Prop} {E : XP} (q : ∀ ns ss as, Good ns ss as → Q (.fr (partsD ns ss as))) : CW G fs l (k + 6) "_law_parts" [.pail] Q E := by
  have hB : G.B.Mono := by rw [hG]; exact libW_mono sub
  refine cw_fn_mk hp rfl ?_
  refine ss_c ?_
  unfold exS
  rw [hG]
  simp only [exSs, exS, evR, evT, evS, evP, evAs, evO, evC, evI, evIF, evF, mkV, mkT, Rvd_v, Rvd_f, varW_z, varW_s, barW_z, barW_zo, barW_s, ex_bl, libW, isi_i, isi_s, isi_t, eqW_i, fzE, fzV, slotOf, bindTg, bindTgs, wip, startD, List.map_cons, List.map_nil, List.replicate, List.length_cons, List.length_nil, List.cons_append, List.nil_append, List.set_cons_zero, List.set_cons_succ, Nat.reduceAdd, Nat.reduceSub, Nat.sub_self, Nat.add_sub_cancel, List.getElem?_cons_zero, List.getElem?_cons_succ, setAll, b_isi, b_lenL, b_lenT, b_lenS, b_lenO, b_all, b_any, b_tupL, b_tupT, b_lstL, b_lstT, b_strO, b_strI, b_strS, b_intI, b_intS, b_abs, b_min, b_max, b_sum, b_dvm, b_boolO, b_reprO, b_reprL, m_joinL, m_joinT, m_split, y_join, y_split, c_lt, c_le, c_gt, c_ge, c_is, c_isn, c_eq, c_ne, c_in, c_nin, i_str, i_tup, i_lst, t_bl, t_int, n_int, o_addI, o_addS, o_addT, o_addL, o_sub, o_mul, o_fdv, o_mod, o_pow, x_lst, x_tup, x_str, l_lst, l_tup, l_str, q_lst, q_tup, q_str, e_lst, e_tup]
  refine cast_ok hG hm D' (by decide) (by decide) fun sz hs0 hs1 => ?_
  simp only [exSs, exS, evR, evT, evS, evP, evAs, evO, evC, evI, evIF, evF, mkV, mkT, Rvd_v, Rvd_f, varW_z, varW_s, barW_z, barW_zo, barW_s, ex_bl, libW, isi_i, isi_s, isi_t, eqW_i, fzE, fzV, slotOf, bindTg, bindTgs, wip, startD, List.map_cons, List.map_nil, List.replicate, List.length_cons, List.length_nil, List.cons_append, List.nil_append, List.set_cons_zero, List.set_cons_succ, Nat.reduceAdd, Nat.reduceSub, Nat.sub_self, Nat.add_sub_cancel, List.getElem?_cons_zero, List.getElem?_cons_succ, setAll, b_isi, b_lenL, b_lenT, b_lenS, b_lenO, b_all, b_any, b_tupL, b_tupT, b_lstL, b_lstT, b_strO, b_strI, b_strS, b_intI, b_intS, b_abs, b_min, b_max, b_sum, b_dvm, b_boolO, b_reprO, b_reprL, m_joinL, m_joinT, m_split, y_join, y_split, c_lt, c_le, c_gt, c_ge, c_is, c_isn, c_eq, c_ne, c_in, c_nin, i_str, i_tup, i_lst, t_bl, t_int, n_int, o_addI, o_addS, o_addT, o_addL, o_sub, o_mul, o_fdv, o_mod, o_pow, x_lst, x_tup, x_str, l_lst, l_tup, l_str, q_lst, q_tup, q_str, e_lst, e_tup]
  obtain ⟨m, rfl⟩ := Int.eq_ofNat_of_zero_le hs0
  refine tags_ok hG hm D' fun ts ht => ?_
  refine ⟨sl_le (by omega), _, rfl, _, _, rfl, _, _, rfl, rfl, ?_⟩
  refine ⟨3, rfl, ?_⟩
  refine cast_ok hG hm D' (by decide) (by decide) fun c hc0 hc1 => ?_
  obtain ⟨c, rfl⟩ := Int.eq_ofNat_of_zero_le hc0
  refine ⟨_, rfl, ?_⟩
  have ec : cutD (ts.map D.str) (some ((3 : Nat) : Int)) (some ((4 + c : Nat) : Int)) = ((ts.map D.str).drop 3).take (4 + c - 3) := cut_mid
  have ec : cutD (ts.map D.str) (some 3) (some (4 + (c : Int))) = ((ts.drop 3).take (c + 1)).map D.str := by
    have e : (4 + c - 3) = c + 1 := by omega
    rw [e] at ec
    rw [List.map_take, List.map_drop]
    exact ec
  simp only [Rvd_f, l_lst]
  rw [ec]
  have hT : ∃ T : List Str, T = (ts.drop 3).take (c + 1) := ⟨_, rfl⟩
  obtain ⟨T, eT⟩ := hT
  rw [← eT]
  have hTl : T.length = c + 1 := by rw [eT, List.length_take, List.length_drop, ht.len]; omega
  have hTm : ∀ s ∈ T, nmS s = true := fun s hs => ht.nm s (by rw [eT] at hs; exact List.mem_of_mem_drop (List.mem_of_mem_take hs))
  have hT0 : T.map D.str ≠ [] := fun e => by
    have := List.map_eq_nil_iff.mp e
    rw [this] at hTl
    cases hTl
  have pick : ∀ {k : Nat} {Q : Rv → Prop} {E : XP}, (∀ s ∈ T, Q (.v (.str s))) → CW G fs l (k + 2) "_law_any_of" [.pail, .lst (T.map D.str)] Q E := fun {k Q E} h => any_of_ok hG hm D' hT0 (by rw [List.length_map]; omega) fun x hx => by
    obtain ⟨s, hs, rfl⟩ := List.mem_map.mp hx
    exact h s hs
  have fm : ∀ {k : Nat} {Q : Rv → Prop} {E : XP}, (∀ f, frm (m + 1) f → Q (.v (formD f))) → CW G fs l (k + 4) "_law_form" [.pail, .int (1 + (m : Int))] Q E := fun {k Q E} h => by
    have e : (1 + (m : Int)) = ((m + 1 : Nat) : Int) := by omega
    rw [e]
    exact form_ok hG hm D' (by omega) h
  refine cast_ok hG hm D' (by decide) (by decide) fun x hx0 hx1 => ?_
  refine ⟨x, rfl, ⟨by omega, by omega⟩, ?_⟩
  rw [List.length_map, List.length_range]
  refine ⟨sl_le (by omega), ?_⟩
  refine fold_anyM (α := Say) (g := sayD) (P := fun s => s.1 ∈ T ∧ frm (m + 1) s.2) _ _ (fun y hy acc K hk => ?_) fun ss s1 s2 => ?_
  · simp only [if_true]
    refine pick fun s hs => ?_
    refine fm fun f hf => ?_
    exact ⟨sl_le (by omega), hk (s, f) ⟨hs, hf⟩⟩
  · rw [List.length_map, List.length_range] at s1
    rw [List.nil_append]
    refine ⟨sl_le (by omega), ?_⟩
    refine cast_ok hG hm D' (by decide) (by decide) fun z hz0 hz1 => ?_
    simp only [exSs, exS, evR, evT, evS, evP, evAs, evO, evC, evI, evIF, evF, mkV, mkT, Rvd_v, Rvd_f, varW_z, varW_s, barW_z, barW_zo, barW_s, ex_bl, libW, isi_i, isi_s, isi_t, eqW_i, fzE, fzV, slotOf, bindTg, bindTgs, wip, startD, List.map_cons, List.map_nil, List.replicate, List.length_cons, List.length_nil, List.cons_append, List.nil_append, List.set_cons_zero, List.set_cons_succ, Nat.reduceAdd, Nat.reduceSub, Nat.sub_self, Nat.add_sub_cancel, List.getElem?_cons_zero, List.getElem?_cons_succ, setAll, b_isi, b_lenL, b_lenT, b_lenS, b_lenO, b_all, b_any, b_tupL, b_tupT, b_lstL, b_lstT, b_strO, b_strI, b_strS, b_intI, b_intS, b_abs, b_min, b_max, b_sum, b_dvm, b_boolO, b_reprO, b_reprL, m_joinL, m_joinT, m_split, y_join, y_split, c_lt, c_le, c_gt, c_ge, c_is, c_isn, c_eq, c_ne, c_in, c_nin, i_str, i_tup, i_lst, t_bl, t_int, n_int, o_addI, o_addS, o_addT, o_addL, o_sub, o_mul, o_fdv, o_mod, o_pow, x_lst, x_tup, x_str, l_lst, l_tup, l_str, q_lst, q_tup, q_str, e_lst, e_tup]
    refine ⟨_, rfl, ⟨by omega, by omega⟩, ?_⟩
    refine for_inv (fun i r => ∃ as a b c d, as.length = i ∧ (∀ a ∈ as, okArm (m + 1) T a) ∧ r = [some (.val .pail), some (.val (.int (1 + (m : Int)))), some (.val (.lst (ts.map D.str))), some (.val (.lst (T.map D.str))), some (.val (.tup (ss.map sayD))), a, some (.own (as.map armD) none), b, c, d]) ⟨[], _, _, _, _, rfl, (fun _ h => by cases h), rfl⟩ (fun i y r hy hp K hk => ?_) fun r hp => ?_
    · obtain ⟨as, a, b, c', d, la, ha, rfl⟩ := hp
      have hi : i < 5 := by
        have := (List.getElem?_eq_some_iff.mp hy).1
        rw [List.length_map, List.length_range] at this
        omega
      simp only [exSs, exS, evR, evT, evS, evP, evAs, evO, evC, evI, evIF, evF, mkV, mkT, Rvd_v, Rvd_f, varW_z, varW_s, barW_z, barW_zo, barW_s, ex_bl, libW, isi_i, isi_s, isi_t, eqW_i, fzE, fzV, slotOf, bindTg, bindTgs, wip, startD, List.map_cons, List.map_nil, List.replicate, List.length_cons, List.length_nil, List.cons_append, List.nil_append, List.set_cons_zero, List.set_cons_succ, Nat.reduceAdd, Nat.reduceSub, Nat.sub_self, Nat.add_sub_cancel, List.getElem?_cons_zero, List.getElem?_cons_succ, setAll, b_isi, b_lenL, b_lenT, b_lenS, b_lenO, b_all, b_any, b_tupL, b_tupT, b_lstL, b_lstT, b_strO, b_strI, b_strS, b_intI, b_intS, b_abs, b_min, b_max, b_sum, b_dvm, b_boolO, b_reprO, b_reprL, m_joinL, m_joinT, m_split, y_join, y_split, c_lt, c_le, c_gt, c_ge, c_is, c_isn, c_eq, c_ne, c_in, c_nin, i_str, i_tup, i_lst, t_bl, t_int, n_int, o_addI, o_addS, o_addT, o_addL, o_sub, o_mul, o_fdv, o_mod, o_pow, x_lst, x_tup, x_str, l_lst, l_tup, l_str, q_lst, q_tup, q_str, e_lst, e_tup]
      refine cast_ok hG hm D' (by decide) (by decide) fun v hv0 hv1 => ?_
      refine ⟨v, rfl, ⟨by omega, by omega⟩, ?_⟩
      rw [List.length_map, List.length_range]
      refine ⟨sl_le (by omega), ?_⟩
      refine fold_anyM (α := List Int) (g := formD) (P := frm (m + 1)) _ _ (fun y hy acc K hk => ?_) fun us u1 u2 => ?_
      · simp only [if_true]
        exact fm hk
      · rw [List.length_map, List.length_range] at u1
        refine ⟨_, rfl, ⟨by omega, by omega⟩, ?_⟩
        rw [List.length_map, List.length_range]
        refine ⟨sl_le (by omega), ?_⟩
        refine fold_anyM (α := List Int) (g := formD) (P := frm (m + 1)) _ _ (fun y hy acc K hk => ?_) fun ws w1 w2 => ?_
        · simp only [if_true]
          exact fm hk
        · rw [List.length_map, List.length_range] at w1
          rw [List.nil_append, List.nil_append]
          refine ⟨_, _, rfl, ?_, ?_⟩
          · rw [List.length_map, sizeLine_eq]
            omega
          refine pick fun s hs => ?_
          refine pick fun t ht => ?_
          refine ⟨sl_le (by omega), ?_⟩
          have e : as.map armD ++ [D.tup [.str s, .str t, .tup (us.map formD), .tup (ws.map formD)]] = (as ++ [(s, t, us, ws)]).map armD := by
            rw [List.map_append]
            rfl
          simp only [Rvd_v]
          rw [e]
          refine hk _ ⟨as ++ [(s, t, us, ws)], _, _, _, _, by simp [la], fun a h => ?_, rfl⟩
          rcases List.mem_append.mp h with z | z
          · exact ha a z
          · rw [List.mem_singleton] at z
            subst z
            exact ⟨hs, ht, show us.length ≤ 3 by omega, show ws.length = m + 1 by omega, u2, w2⟩
    · obtain ⟨as, a, b, c', d, la, ha, rfl⟩ := hp
      rw [List.length_map, List.length_range] at la
      simp only [exSs, exS, evR, evT, evS, evP, evAs, evO, evC, evI, evIF, evF, mkV, mkT, Rvd_v, Rvd_f, varW_z, varW_s, barW_z, barW_zo, barW_s, ex_bl, libW, isi_i, isi_s, isi_t, eqW_i, fzE, fzV, slotOf, bindTg, bindTgs, wip, startD, List.map_cons, List.map_nil, List.replicate, List.length_cons, List.length_nil, List.cons_append, List.nil_append, List.set_cons_zero, List.set_cons_succ, Nat.reduceAdd, Nat.reduceSub, Nat.sub_self, Nat.add_sub_cancel, List.getElem?_cons_zero, List.getElem?_cons_succ, setAll, b_isi, b_lenL, b_lenT, b_lenS, b_lenO, b_all, b_any, b_tupL, b_tupT, b_lstL, b_lstT, b_strO, b_strI, b_strS, b_intI, b_intS, b_abs, b_min, b_max, b_sum, b_dvm, b_boolO, b_reprO, b_reprL, m_joinL, m_joinT, m_split, y_join, y_split, c_lt, c_le, c_gt, c_ge, c_is, c_isn, c_eq, c_ne, c_in, c_nin, i_str, i_tup, i_lst, t_bl, t_int, n_int, o_addI, o_addS, o_addT, o_addL, o_sub, o_mul, o_fdv, o_mod, o_pow, x_lst, x_tup, x_str, l_lst, l_tup, l_str, q_lst, q_tup, q_str, e_lst, e_tup]
      refine ⟨_, rfl, sl_le (by omega), ?_⟩
      have ec2 : cutD (ts.map D.str) none (some ((m + 1 : Nat) : Int)) = (ts.map D.str).take (m + 1) := cut_take
      have ec2 : cutD (ts.map D.str) none (some (1 + (m : Int))) = (ts.take (m + 1)).map D.str := by
        have e : (1 + (m : Int)) = ((m + 1 : Nat) : Int) := by omega
        rw [List.map_take, e]
        exact ec2
      rw [ec2]
      have ln : (ts.take (m + 1)).length = m + 1 := by rw [List.length_take, ht.len]; omega
      refine q (ts.take (m + 1)) ss as (good_of (T := T) ?_ ?_ ?_ ?_ ?_ hTm ?_ ?_ ?_ ?_ ?_)
      · intro e
        rw [e] at ln
        cases ln
      · omega
      · exact fun s hs => ht.nm s (List.mem_of_mem_take hs)
      · exact ht.nd.sublist (List.take_sublist _ _)
      · omega
      · omega
      · intro s hs
        rw [ln]
        exact s2 s hs
      · intro e
        rw [e] at la
        simp at la
        omega
      · omega
      · intro a h
        rw [ln]
        exact ha a h
omit D' in
theorem words_ok (hw : fs.lookup ("_law_words" : Str) = some ⟨1, 2, lh_words⟩) {k n : Nat} {f : List Int} (hf : frm n f) (hn : n ≤ 100) {Q : Rv → Prop} {E : XP} (q : Q (.v (.str (wordsS f)))) : CW G fs l (k + 1) "_law_words" [formD f] Q E := by
  have hB : G.B.Mono := by rw [hG]; exact libW_mono sub
  refine cw_fn_mk hw rfl ?_
  rw [hG]
  unfold lh_words formD
  simp only [exSs, exS, evR, evT, evS, evP, evAs, evO, evC, evI, evIF, evF, mkV, mkT, Rvd_v, Rvd_f, varW_z, varW_s, barW_z, barW_zo, barW_s, ex_bl, libW, isi_i, isi_s, isi_t, eqW_i, fzE, fzV, slotOf, bindTg, bindTgs, wip, startD, List.map_cons, List.map_nil, List.replicate, List.length_cons, List.length_nil, List.cons_append, List.nil_append, List.set_cons_zero, List.set_cons_succ, Nat.reduceAdd, Nat.reduceSub, Nat.sub_self, Nat.add_sub_cancel, List.getElem?_cons_zero, List.getElem?_cons_succ, setAll, b_isi, b_lenL, b_lenT, b_lenS, b_lenO, b_all, b_any, b_tupL, b_tupT, b_lstL, b_lstT, b_strO, b_strI, b_strS, b_intI, b_intS, b_abs, b_min, b_max, b_sum, b_dvm, b_boolO, b_reprO, b_reprL, m_joinL, m_joinT, m_split, y_join, y_split, c_lt, c_le, c_gt, c_ge, c_is, c_isn, c_eq, c_ne, c_in, c_nin, i_str, i_tup, i_lst, t_bl, t_int, n_int, o_addI, o_addS, o_addT, o_addL, o_sub, o_mul, o_fdv, o_mod, o_pow, x_lst, x_tup, x_str, l_lst, l_tup, l_str, q_lst, q_tup, q_str, e_lst, e_tup, List.length_map, true_and]
  refine ⟨sl_le (by rw [hf.1]; omega), ?_⟩
  refine fold_map2 (h := fun i => D.str (numS i)) f _ (fun i hi acc K hk => ?_) ?_
  · simp only [if_true]
    refine ⟨?_, hk⟩
    have h2 := hf.2 i hi
    exact log2_small (by omega)
  · refine ⟨f.map numS, ?_, ?_, q⟩
    · rw [List.nil_append, ← unStr_map (f.map numS), List.map_map]
      rfl
    · have := sum_len (b := 8) (l := f.map numS) fun x hx => by
        obtain ⟨i, hi, rfl⟩ := List.mem_map.mp hx
        exact numS_len (hf.2 i hi).1 (hf.2 i hi).2
      rw [List.length_map, hf.1] at this
      rw [List.length_map, hf.1]
      have e : (" " : Str).length = 1 := rfl
      rw [e]
      omega
omit D' in
theorem arm_lines_ok (hw : fs.lookup ("_law_words" : Str) = some ⟨1, 2, lh_words⟩) (ha : fs.lookup ("_law_arm_lines" : Str) = some ⟨1, 8, lh_arm_lines⟩) {k n : Nat} {a : Arm} (hn : n ≤ 3) (hA : nmS a.1 = true ∧ nmS a.2.1 = true ∧ a.2.2.1.length ≤ 3 ∧ a.2.2.2.length = n ∧ (∀ f ∈ a.2.2.1, frm n f) ∧ ∀ f ∈ a.2.2.2, frm n f) {Q : Rv → Prop} {E : XP} (q : Q (.fr ((armL a).map D.str))) : CW G fs l (k + 2) "_law_arm_lines" [armD a] Q E := by
  have hB : G.B.Mono := by rw [hG]; exact libW_mono sub
  obtain ⟨h1, h2, h3, h4, h5, h6⟩ := hA
  have l1 := nmS_len h1
  have l2 := nmS_len h2
  have e7 : (Str.ofString "branch ").length = 7 := rfl
  have e1 : (Str.ofString " ").length = 1 := rfl
  have e5 : (Str.ofString "then ").length = 5 := rfl
  have e5' : (Str.ofString "test ").length = 5 := rfl
  have e2 : (Str.ofString "; ").length = 2 := rfl
  have b6 : ∀ x ∈ a.2.2.2.map wordsS, x.length ≤ 36 := fun x hx => by
    obtain ⟨f, hf, rfl⟩ := List.mem_map.mp hx
    exact wordsS_len (h6 f hf) hn
  refine cw_fn_mk ha rfl ?_
  rw [hG]
  unfold lh_arm_lines armD
  simp only [exSs, exS, evR, evT, evS, evP, evAs, evO, evC, evI, evIF, evF, mkV, mkT, Rvd_v, Rvd_f, varW_z, varW_s, barW_z, barW_zo, barW_s, ex_bl, libW, isi_i, isi_s, isi_t, eqW_i, fzE, fzV, slotOf, bindTg, bindTgs, wip, startD, List.map_cons, List.map_nil, List.replicate, List.length_cons, List.length_nil, List.cons_append, List.nil_append, List.set_cons_zero, List.set_cons_succ, Nat.reduceAdd, Nat.reduceSub, Nat.sub_self, Nat.add_sub_cancel, List.getElem?_cons_zero, List.getElem?_cons_succ, setAll, b_isi, b_lenL, b_lenT, b_lenS, b_lenO, b_all, b_any, b_tupL, b_tupT, b_lstL, b_lstT, b_strO, b_strI, b_strS, b_intI, b_intS, b_abs, b_min, b_max, b_sum, b_dvm, b_boolO, b_reprO, b_reprL, m_joinL, m_joinT, m_split, y_join, y_split, c_lt, c_le, c_gt, c_ge, c_is, c_isn, c_eq, c_ne, c_in, c_nin, i_str, i_tup, i_lst, t_bl, t_int, n_int, o_addI, o_addS, o_addT, o_addL, o_sub, o_mul, o_fdv, o_mod, o_pow, x_lst, x_tup, x_str, l_lst, l_tup, l_str, q_lst, q_tup, q_str, e_lst, e_tup, List.length_map, true_and, app_len]
  refine ⟨_, rfl, _, _, rfl, _, _, rfl, _, _, rfl, _, _, rfl, rfl, ?_⟩
  refine ⟨sl_le (by omega), sl_le (by simp only [app_len]; omega), sl_le (by simp only [app_len]; omega), sl_le (by omega), ?_⟩
  simp only [exSs, exS, evR, evT, evS, evP, evAs, evO, evC, evI, evIF, evF, mkV, mkT, Rvd_v, Rvd_f, varW_z, varW_s, barW_z, barW_zo, barW_s, ex_bl, libW, isi_i, isi_s, isi_t, eqW_i, fzE, fzV, slotOf, bindTg, bindTgs, wip, startD, List.map_cons, List.map_nil, List.replicate, List.length_cons, List.length_nil, List.cons_append, List.nil_append, List.set_cons_zero, List.set_cons_succ, Nat.reduceAdd, Nat.reduceSub, Nat.sub_self, Nat.add_sub_cancel, List.getElem?_cons_zero, List.getElem?_cons_succ, setAll, b_isi, b_lenL, b_lenT, b_lenS, b_lenO, b_all, b_any, b_tupL, b_tupT, b_lstL, b_lstT, b_strO, b_strI, b_strS, b_intI, b_intS, b_abs, b_min, b_max, b_sum, b_dvm, b_boolO, b_reprO, b_reprL, m_joinL, m_joinT, m_split, y_join, y_split, c_lt, c_le, c_gt, c_ge, c_is, c_isn, c_eq, c_ne, c_in, c_nin, i_str, i_tup, i_lst, t_bl, t_int, n_int, o_addI, o_addS, o_addT, o_addL, o_sub, o_mul, o_fdv, o_mod, o_pow, x_lst, x_tup, x_str, l_lst, l_tup, l_str, q_lst, q_tup, q_str, e_lst, e_tup, List.length_map, true_and, app_len]
  refine ⟨sl_le (by omega), ?_⟩
  refine fold_map2 (h := fun f => D.str ("test " ++ wordsS f)) a.2.2.1 _ (fun f hf acc K hk => ?_) ?_
  · simp only [if_true]
    refine words_ok hG hm hw (h5 f hf) (by omega) ?_
    have := wordsS_len (h5 f hf) hn
    simp only [exSs, exS, evR, evT, evS, evP, evAs, evO, evC, evI, evIF, evF, mkV, mkT, Rvd_v, Rvd_f, varW_z, varW_s, barW_z, barW_zo, barW_s, ex_bl, libW, isi_i, isi_s, isi_t, eqW_i, fzE, fzV, slotOf, bindTg, bindTgs, wip, startD, List.map_cons, List.map_nil, List.replicate, List.length_cons, List.length_nil, List.cons_append, List.nil_append, List.set_cons_zero, List.set_cons_succ, Nat.reduceAdd, Nat.reduceSub, Nat.sub_self, Nat.add_sub_cancel, List.getElem?_cons_zero, List.getElem?_cons_succ, setAll, b_isi, b_lenL, b_lenT, b_lenS, b_lenO, b_all, b_any, b_tupL, b_tupT, b_lstL, b_lstT, b_strO, b_strI, b_strS, b_intI, b_intS, b_abs, b_min, b_max, b_sum, b_dvm, b_boolO, b_reprO, b_reprL, m_joinL, m_joinT, m_split, y_join, y_split, c_lt, c_le, c_gt, c_ge, c_is, c_isn, c_eq, c_ne, c_in, c_nin, i_str, i_tup, i_lst, t_bl, t_int, n_int, o_addI, o_addS, o_addT, o_addL, o_sub, o_mul, o_fdv, o_mod, o_pow, x_lst, x_tup, x_str, l_lst, l_tup, l_str, q_lst, q_tup, q_str, e_lst, e_tup]
    exact ⟨sl_le (by omega), hk⟩
  · simp only [exSs, exS, evR, evT, evS, evP, evAs, evO, evC, evI, evIF, evF, mkV, mkT, Rvd_v, Rvd_f, varW_z, varW_s, barW_z, barW_zo, barW_s, ex_bl, libW, isi_i, isi_s, isi_t, eqW_i, fzE, fzV, slotOf, bindTg, bindTgs, wip, startD, List.map_cons, List.map_nil, List.replicate, List.length_cons, List.length_nil, List.cons_append, List.nil_append, List.set_cons_zero, List.set_cons_succ, Nat.reduceAdd, Nat.reduceSub, Nat.sub_self, Nat.add_sub_cancel, List.getElem?_cons_zero, List.getElem?_cons_succ, setAll, b_isi, b_lenL, b_lenT, b_lenS, b_lenO, b_all, b_any, b_tupL, b_tupT, b_lstL, b_lstT, b_strO, b_strI, b_strS, b_intI, b_intS, b_abs, b_min, b_max, b_sum, b_dvm, b_boolO, b_reprO, b_reprL, m_joinL, m_joinT, m_split, y_join, y_split, c_lt, c_le, c_gt, c_ge, c_is, c_isn, c_eq, c_ne, c_in, c_nin, i_str, i_tup, i_lst, t_bl, t_int, n_int, o_addI, o_addS, o_addT, o_addL, o_sub, o_mul, o_fdv, o_mod, o_pow, x_lst, x_tup, x_str, l_lst, l_tup, l_str, q_lst, q_tup, q_str, e_lst, e_tup, List.length_map]
    refine ⟨sl_le (by omega), ?_⟩
    refine ⟨sl_le (by omega), ?_⟩
    refine fold_map2 (h := fun f => D.str (wordsS f)) a.2.2.2 _ (fun f hf acc K hk => ?_) ?_
    · simp only [if_true]
      exact words_ok hG hm hw (h6 f hf) (by omega) hk
    · refine ⟨a.2.2.2.map wordsS, ?_, ?_, ?_, sl_le (by omega), sl_le (by omega), ?_⟩
      · rw [List.nil_append, ← unStr_map (a.2.2.2.map wordsS), List.map_map]
        rfl
      · have := sum_len b6
        rw [List.length_map] at this ⊢
        rw [e2]
        omega
      · have := join_len (y := ("; " : Str)) b6
        rw [List.length_map] at this
        have h7 : a.2.2.2.length * (36 + Str.length (Str.ofString "; ")) ≤ 3 * 38 := Nat.mul_le_mul (by omega) (by omega)
        exact sl_le (by omega)
      · have e : (armL a).map D.str = D.str (Str.ofString "branch " ++ a.1 ++ Str.ofString " " ++ a.2.1) :: (a.2.2.1.map (fun f => D.str (Str.ofString "test " ++ wordsS f)) ++ [D.str (Str.ofString "then " ++ Txt.join (Str.ofString "; ") (a.2.2.2.map wordsS))]) := by
          unfold armL
          rw [app_asc, app_asc, List.map_cons, List.map_append, List.map_map]
          rfl
        rw [← e]
        exact q
omit D' in
theorem lines_ok (hw : fs.lookup ("_law_words" : Str) = some ⟨1, 2, lh_words⟩) (ha : fs.lookup ("_law_arm_lines" : Str) = some ⟨1, 8, lh_arm_lines⟩) (hl : fs.lookup ("_law_lines" : Str) = some ⟨1, 5, lh_lines⟩) {k : Nat} {ns : List Str} {ss : List Say} {as : List Arm} (g : Good ns ss as) {Q : Rv → Prop} {E : XP} (q : Q (.fr ((linesP ns ss as).map D.str))) : CW G fs l (k + 3) "_law_lines" [.lst (partsD ns ss as)] Q E := by
  have hB : G.B.Mono := by rw [hG]; exact libW_mono sub
  have hn := g.n2
  have e1 : (Str.ofString " ").length = 1 := rfl
  have e5 : (Str.ofString "vars ").length = 5 := rfl
  have e4 : (Str.ofString "say ").length = 4 := rfl
  refine cw_fn_mk hl rfl ?_
  refine ss_c (s_own hB (hm _) (.fr [.str (varL ns)]) ?_ ?_)
  · rw [hG]
    unfold partsD
    simp only [exSs, exS, evR, evT, evS, evP, evAs, evO, evC, evI, evIF, evF, mkV, mkT, Rvd_v, Rvd_f, varW_z, varW_s, barW_z, barW_zo, barW_s, ex_bl, libW, isi_i, isi_s, isi_t, eqW_i, fzE, fzV, slotOf, bindTg, bindTgs, wip, startD, List.map_cons, List.map_nil, List.replicate, List.length_cons, List.length_nil, List.cons_append, List.nil_append, List.set_cons_zero, List.set_cons_succ, Nat.reduceAdd, Nat.reduceSub, Nat.sub_self, Nat.add_sub_cancel, List.getElem?_cons_zero, List.getElem?_cons_succ, setAll, b_isi, b_lenL, b_lenT, b_lenS, b_lenO, b_all, b_any, b_tupL, b_tupT, b_lstL, b_lstT, b_strO, b_strI, b_strS, b_intI, b_intS, b_abs, b_min, b_max, b_sum, b_dvm, b_boolO, b_reprO, b_reprL, m_joinL, m_joinT, m_split, y_join, y_split, c_lt, c_le, c_gt, c_ge, c_is, c_isn, c_eq, c_ne, c_in, c_nin, i_str, i_tup, i_lst, t_bl, t_int, n_int, o_addI, o_addS, o_addT, o_addL, o_sub, o_mul, o_fdv, o_mod, o_pow, x_lst, x_tup, x_str, l_lst, l_tup, l_str, q_lst, q_tup, q_str, e_lst, e_tup, true_and]
    refine ⟨nmsD ns, rfl, ?_⟩
    unfold nmsD
    simp only [exSs, exS, evR, evT, evS, evP, evAs, evO, evC, evI, evIF, evF, mkV, mkT, Rvd_v, Rvd_f, varW_z, varW_s, barW_z, barW_zo, barW_s, ex_bl, libW, isi_i, isi_s, isi_t, eqW_i, fzE, fzV, slotOf, bindTg, bindTgs, wip, startD, List.map_cons, List.map_nil, List.replicate, List.length_cons, List.length_nil, List.cons_append, List.nil_append, List.set_cons_zero, List.set_cons_succ, Nat.reduceAdd, Nat.reduceSub, Nat.sub_self, Nat.add_sub_cancel, List.getElem?_cons_zero, List.getElem?_cons_succ, setAll, b_isi, b_lenL, b_lenT, b_lenS, b_lenO, b_all, b_any, b_tupL, b_tupT, b_lstL, b_lstT, b_strO, b_strI, b_strS, b_intI, b_intS, b_abs, b_min, b_max, b_sum, b_dvm, b_boolO, b_reprO, b_reprL, m_joinL, m_joinT, m_split, y_join, y_split, c_lt, c_le, c_gt, c_ge, c_is, c_isn, c_eq, c_ne, c_in, c_nin, i_str, i_tup, i_lst, t_bl, t_int, n_int, o_addI, o_addS, o_addT, o_addL, o_sub, o_mul, o_fdv, o_mod, o_pow, x_lst, x_tup, x_str, l_lst, l_tup, l_str, q_lst, q_tup, q_str, e_lst, e_tup, true_and]
    have := sum_len (b := 8) (l := ns) fun x hx => nmS_len (g.n3 x hx)
    have h2 := join_len (y := (" " : Str)) (b := 8) (l := ns) fun x hx => nmS_len (g.n3 x hx)
    have e1' : (" " : Str).length = 1 := rfl
    rw [e1'] at h2
    refine ⟨ns, unStr_map ns, ?_, ?_, ?_, ?_⟩
    · rw [e1]
      omega
    · rw [e5]
      exact sl_le (by show 5 + (Txt.join (" " : Str) ns).length ≤ _; omega)
    · exact sl_le (by omega)
    · rfl
  refine ss_c ?_
  unfold exS
  rw [hG]
  unfold partsD
  simp only [exSs, exS, evR, evT, evS, evP, evAs, evO, evC, evI, evIF, evF, mkV, mkT, Rvd_v, Rvd_f, varW_z, varW_s, barW_z, barW_zo, barW_s, ex_bl, libW, isi_i, isi_s, isi_t, eqW_i, fzE, fzV, slotOf, bindTg, bindTgs, wip, startD, List.map_cons, List.map_nil, List.replicate, List.length_cons, List.length_nil, List.cons_append, List.nil_append, List.set_cons_zero, List.set_cons_succ, Nat.reduceAdd, Nat.reduceSub, Nat.sub_self, Nat.add_sub_cancel, List.getElem?_cons_zero, List.getElem?_cons_succ, setAll, b_isi, b_lenL, b_lenT, b_lenS, b_lenO, b_all, b_any, b_tupL, b_tupT, b_lstL, b_lstT, b_strO, b_strI, b_strS, b_intI, b_intS, b_abs, b_min, b_max, b_sum, b_dvm, b_boolO, b_reprO, b_reprL, m_joinL, m_joinT, m_split, y_join, y_split, c_lt, c_le, c_gt, c_ge, c_is, c_isn, c_eq, c_ne, c_in, c_nin, i_str, i_tup, i_lst, t_bl, t_int, n_int, o_addI, o_addS, o_addT, o_addL, o_sub, o_mul, o_fdv, o_mod, o_pow, x_lst, x_tup, x_str, l_lst, l_tup, l_str, q_lst, q_tup, q_str, e_lst, e_tup]
  refine ⟨sysD ss, rfl, ?_⟩
  unfold sysD
  simp only [exSs, exS, evR, evT, evS, evP, evAs, evO, evC, evI, evIF, evF, mkV, mkT, Rvd_v, Rvd_f, varW_z, varW_s, barW_z, barW_zo, barW_s, ex_bl, libW, isi_i, isi_s, isi_t, eqW_i, fzE, fzV, slotOf, bindTg, bindTgs, wip, startD, List.map_cons, List.map_nil, List.replicate, List.length_cons, List.length_nil, List.cons_append, List.nil_append, List.set_cons_zero, List.set_cons_succ, Nat.reduceAdd, Nat.reduceSub, Nat.sub_self, Nat.add_sub_cancel, List.getElem?_cons_zero, List.getElem?_cons_succ, setAll, b_isi, b_lenL, b_lenT, b_lenS, b_lenO, b_all, b_any, b_tupL, b_tupT, b_lstL, b_lstT, b_strO, b_strI, b_strS, b_intI, b_intS, b_abs, b_min, b_max, b_sum, b_dvm, b_boolO, b_reprO, b_reprL, m_joinL, m_joinT, m_split, y_join, y_split, c_lt, c_le, c_gt, c_ge, c_is, c_isn, c_eq, c_ne, c_in, c_nin, i_str, i_tup, i_lst, t_bl, t_int, n_int, o_addI, o_addS, o_addT, o_addL, o_sub, o_mul, o_fdv, o_mod, o_pow, x_lst, x_tup, x_str, l_lst, l_tup, l_str, q_lst, q_tup, q_str, e_lst, e_tup]
  refine for_inv (fun i r => ∃ a b c, r = [some (.val (.lst [nmsD ns, .tup (ss.map sayD), armsD as])), some (.own (D.str (varL ns) :: (ss.take i).map fun s => D.str (sayL s)) none), a, b, c]) ⟨_, _, _, rfl⟩ (fun i x r hx hp K hk => ?_) fun r hp => ?_
  · obtain ⟨a, b, c, rfl⟩ := hp
    rw [List.getElem?_map] at hx
    obtain ⟨s, hs, rfl⟩ := Option.map_eq_some_iff.mp hx
    have hsm := List.mem_of_getElem? hs
    obtain ⟨h1, h2⟩ := g.s2 s hsm
    have l1 := nmS_len h1
    have l2 := wordsS_len h2 hn
    refine ⟨_, rfl, _, _, rfl, _, _, rfl, rfl, ?_⟩
    simp only [exSs, exS, evR, evT, evS, evP, evAs, evO, evC, evI, evIF, evF, mkV, mkT, Rvd_v, Rvd_f, varW_z, varW_s, barW_z, barW_zo, barW_s, ex_bl, libW, isi_i, isi_s, isi_t, eqW_i, fzE, fzV, slotOf, bindTg, bindTgs, wip, startD, List.map_cons, List.map_nil, List.replicate, List.length_cons, List.length_nil, List.cons_append, List.nil_append, List.set_cons_zero, List.set_cons_succ, Nat.reduceAdd, Nat.reduceSub, Nat.sub_self, Nat.add_sub_cancel, List.getElem?_cons_zero, List.getElem?_cons_succ, setAll, b_isi, b_lenL, b_lenT, b_lenS, b_lenO, b_all, b_any, b_tupL, b_tupT, b_lstL, b_lstT, b_strO, b_strI, b_strS, b_intI, b_intS, b_abs, b_min, b_max, b_sum, b_dvm, b_boolO, b_reprO, b_reprL, m_joinL, m_joinT, m_split, y_join, y_split, c_lt, c_le, c_gt, c_ge, c_is, c_isn, c_eq, c_ne, c_in, c_nin, i_str, i_tup, i_lst, t_bl, t_int, n_int, o_addI, o_addS, o_addT, o_addL, o_sub, o_mul, o_fdv, o_mod, o_pow, x_lst, x_tup, x_str, l_lst, l_tup, l_str, q_lst, q_tup, q_str, e_lst, e_tup, List.length_map, app_len]
    refine ⟨_, _, rfl, ?_, sl_le (by omega), sl_le (by omega), ?_⟩
    · rw [List.length_cons, List.length_map, List.length_take, sizeLine_eq]
      have := g.s1
      omega
    refine words_ok hG hm hw h2 (by omega) ?_
    simp only [exSs, exS, evR, evT, evS, evP, evAs, evO, evC, evI, evIF, evF, mkV, mkT, Rvd_v, Rvd_f, varW_z, varW_s, barW_z, barW_zo, barW_s, ex_bl, libW, isi_i, isi_s, isi_t, eqW_i, fzE, fzV, slotOf, bindTg, bindTgs, wip, startD, List.map_cons, List.map_nil, List.replicate, List.length_cons, List.length_nil, List.cons_append, List.nil_append, List.set_cons_zero, List.set_cons_succ, Nat.reduceAdd, Nat.reduceSub, Nat.sub_self, Nat.add_sub_cancel, List.getElem?_cons_zero, List.getElem?_cons_succ, setAll, b_isi, b_lenL, b_lenT, b_lenS, b_lenO, b_all, b_any, b_tupL, b_tupT, b_lstL, b_lstT, b_strO, b_strI, b_strS, b_intI, b_intS, b_abs, b_min, b_max, b_sum, b_dvm, b_boolO, b_reprO, b_reprL, m_joinL, m_joinT, m_split, y_join, y_split, c_lt, c_le, c_gt, c_ge, c_is, c_isn, c_eq, c_ne, c_in, c_nin, i_str, i_tup, i_lst, t_bl, t_int, n_int, o_addI, o_addS, o_addT, o_addL, o_sub, o_mul, o_fdv, o_mod, o_pow, x_lst, x_tup, x_str, l_lst, l_tup, l_str, q_lst, q_tup, q_str, e_lst, e_tup, app_len]
    refine ⟨sl_le (by omega), ?_⟩
    have e : (ss.take (i + 1)).map (fun s => D.str (sayL s)) = (ss.take i).map (fun s => D.str (sayL s)) ++ [.str (Str.ofString "say " ++ s.1 ++ Str.ofString " " ++ wordsS s.2)] := by
      rw [List.take_succ, hs, app_asc, app_asc, List.map_append]
      rfl
    rw [e] at hk
    exact hk _ ⟨_, _, _, rfl⟩
  · obtain ⟨a, b, c, rfl⟩ := hp
    rw [List.length_map, List.take_length]
    simp only [exSs, exS, evR, evT, evS, evP, evAs, evO, evC, evI, evIF, evF, mkV, mkT, Rvd_v, Rvd_f, varW_z, varW_s, barW_z, barW_zo, barW_s, ex_bl, libW, isi_i, isi_s, isi_t, eqW_i, fzE, fzV, slotOf, bindTg, bindTgs, wip, startD, List.map_cons, List.map_nil, List.replicate, List.length_cons, List.length_nil, List.cons_append, List.nil_append, List.set_cons_zero, List.set_cons_succ, Nat.reduceAdd, Nat.reduceSub, Nat.sub_self, Nat.add_sub_cancel, List.getElem?_cons_zero, List.getElem?_cons_succ, setAll, b_isi, b_lenL, b_lenT, b_lenS, b_lenO, b_all, b_any, b_tupL, b_tupT, b_lstL, b_lstT, b_strO, b_strI, b_strS, b_intI, b_intS, b_abs, b_min, b_max, b_sum, b_dvm, b_boolO, b_reprO, b_reprL, m_joinL, m_joinT, m_split, y_join, y_split, c_lt, c_le, c_gt, c_ge, c_is, c_isn, c_eq, c_ne, c_in, c_nin, i_str, i_tup, i_lst, t_bl, t_int, n_int, o_addI, o_addS, o_addT, o_addL, o_sub, o_mul, o_fdv, o_mod, o_pow, x_lst, x_tup, x_str, l_lst, l_tup, l_str, q_lst, q_tup, q_str, e_lst, e_tup]
    refine ⟨armsD as, rfl, ?_⟩
    unfold armsD
    simp only [exSs, exS, evR, evT, evS, evP, evAs, evO, evC, evI, evIF, evF, mkV, mkT, Rvd_v, Rvd_f, varW_z, varW_s, barW_z, barW_zo, barW_s, ex_bl, libW, isi_i, isi_s, isi_t, eqW_i, fzE, fzV, slotOf, bindTg, bindTgs, wip, startD, List.map_cons, List.map_nil, List.replicate, List.length_cons, List.length_nil, List.cons_append, List.nil_append, List.set_cons_zero, List.set_cons_succ, Nat.reduceAdd, Nat.reduceSub, Nat.sub_self, Nat.add_sub_cancel, List.getElem?_cons_zero, List.getElem?_cons_succ, setAll, b_isi, b_lenL, b_lenT, b_lenS, b_lenO, b_all, b_any, b_tupL, b_tupT, b_lstL, b_lstT, b_strO, b_strI, b_strS, b_intI, b_intS, b_abs, b_min, b_max, b_sum, b_dvm, b_boolO, b_reprO, b_reprL, m_joinL, m_joinT, m_split, y_join, y_split, c_lt, c_le, c_gt, c_ge, c_is, c_isn, c_eq, c_ne, c_in, c_nin, i_str, i_tup, i_lst, t_bl, t_int, n_int, o_addI, o_addS, o_addT, o_addL, o_sub, o_mul, o_fdv, o_mod, o_pow, x_lst, x_tup, x_str, l_lst, l_tup, l_str, q_lst, q_tup, q_str, e_lst, e_tup]
    have e0 : D.str (varL ns) :: (ss.map fun s => D.str (sayL s)) = (linesP ns ss (as.take 0)).map D.str := by simp [linesP]
    rw [e0]
    refine for_inv (fun i r => ∃ a b c, r = [some (.val (.lst [nmsD ns, .tup (ss.map sayD), .tup (as.map armD)])), some (.own ((linesP ns ss (as.take i)).map D.str) none), a, b, c]) ⟨_, _, _, rfl⟩ (fun i x r hx hp K hk => ?_) fun r hp => ?_
    · obtain ⟨a, b, c, rfl⟩ := hp
      rw [List.getElem?_map] at hx
      obtain ⟨s, hs, rfl⟩ := Option.map_eq_some_iff.mp hx
      have hsm := List.mem_of_getElem? hs
      simp only [exSs, exS, evR, evT, evS, evP, evAs, evO, evC, evI, evIF, evF, mkV, mkT, Rvd_v, Rvd_f, varW_z, varW_s, barW_z, barW_zo, barW_s, ex_bl, libW, isi_i, isi_s, isi_t, eqW_i, fzE, fzV, slotOf, bindTg, bindTgs, wip, startD, List.map_cons, List.map_nil, List.replicate, List.length_cons, List.length_nil, List.cons_append, List.nil_append, List.set_cons_zero, List.set_cons_succ, Nat.reduceAdd, Nat.reduceSub, Nat.sub_self, Nat.add_sub_cancel, List.getElem?_cons_zero, List.getElem?_cons_succ, setAll, b_isi, b_lenL, b_lenT, b_lenS, b_lenO, b_all, b_any, b_tupL, b_tupT, b_lstL, b_lstT, b_strO, b_strI, b_strS, b_intI, b_intS, b_abs, b_min, b_max, b_sum, b_dvm, b_boolO, b_reprO, b_reprL, m_joinL, m_joinT, m_split, y_join, y_split, c_lt, c_le, c_gt, c_ge, c_is, c_isn, c_eq, c_ne, c_in, c_nin, i_str, i_tup, i_lst, t_bl, t_int, n_int, o_addI, o_addS, o_addT, o_addL, o_sub, o_mul, o_fdv, o_mod, o_pow, x_lst, x_tup, x_str, l_lst, l_tup, l_str, q_lst, q_tup, q_str, e_lst, e_tup]
      refine arm_lines_ok hG hm hw ha hn (g.a3 s hsm) ?_
      simp only [exSs, exS, evR, evT, evS, evP, evAs, evO, evC, evI, evIF, evF, mkV, mkT, Rvd_v, Rvd_f, varW_z, varW_s, barW_z, barW_zo, barW_s, ex_bl, libW, isi_i, isi_s, isi_t, eqW_i, fzE, fzV, slotOf, bindTg, bindTgs, wip, startD, List.map_cons, List.map_nil, List.replicate, List.length_cons, List.length_nil, List.cons_append, List.nil_append, List.set_cons_zero, List.set_cons_succ, Nat.reduceAdd, Nat.reduceSub, Nat.sub_self, Nat.add_sub_cancel, List.getElem?_cons_zero, List.getElem?_cons_succ, setAll, b_isi, b_lenL, b_lenT, b_lenS, b_lenO, b_all, b_any, b_tupL, b_tupT, b_lstL, b_lstT, b_strO, b_strI, b_strS, b_intI, b_intS, b_abs, b_min, b_max, b_sum, b_dvm, b_boolO, b_reprO, b_reprL, m_joinL, m_joinT, m_split, y_join, y_split, c_lt, c_le, c_gt, c_ge, c_is, c_isn, c_eq, c_ne, c_in, c_nin, i_str, i_tup, i_lst, t_bl, t_int, n_int, o_addI, o_addS, o_addT, o_addL, o_sub, o_mul, o_fdv, o_mod, o_pow, x_lst, x_tup, x_str, l_lst, l_tup, l_str, q_lst, q_tup, q_str, e_lst, e_tup]
      refine ⟨?_, ?_⟩
      · have h1 := arm_len (n := 0) (g.a3 s hsm).2.2.1
        have h3 := arms_len (as := as.take i) fun a ha => (g.a3 a (List.mem_of_mem_take ha)).2.2.1
        have h4 : (as.take i).length ≤ 5 := by rw [List.length_take]; have := g.a2; omega
        have := Nat.mul_le_mul_right 5 h4
        have h5 := g.s1
        rw [List.length_map, List.length_map]
        unfold linesP
        rw [List.length_cons, List.length_append, List.length_map]
        exact sl_le (by omega)
      · have e : (linesP ns ss (as.take (i + 1))).map D.str = (linesP ns ss (as.take i)).map D.str ++ (armL s).map D.str := by
          rw [List.take_succ, hs]
          simp [linesP]
        rw [e] at hk
        exact hk _ ⟨_, _, _, rfl⟩
    · obtain ⟨a, b, c, rfl⟩ := hp
      rw [List.length_map, List.take_length]
      exact .inl ⟨_, _, rfl, q⟩
omit D' in
theorem sheet_ok (hw : fs.lookup ("_law_words" : Str) = some ⟨1, 2, lh_words⟩) (ha : fs.lookup ("_law_arm_lines" : Str) = some ⟨1, 8, lh_arm_lines⟩) (hl : fs.lookup ("_law_lines" : Str) = some ⟨1, 5, lh_lines⟩) (hs : fs.lookup ("_law_sheet" : Str) = some ⟨1, 1, lh_sheet⟩) {k : Nat} {ns : List Str} {ss : List Say} {as : List Arm} (g : Good ns ss as) {Q : Rv → Prop} {E : XP} (q : Q (.v (.str (textP ns ss as)))) : CW G fs l (k + 4) "_law_sheet" [.lst (partsD ns ss as)] Q E := by
  refine cw_fn_mk hs rfl ?_
  rw [hG]
  unfold lh_sheet
  simp only [exSs, exS, evR, evT, evS, evP, evAs, evO, evC, evI, evIF, evF, mkV, mkT, Rvd_v, Rvd_f, varW_z, varW_s, barW_z, barW_zo, barW_s, ex_bl, libW, isi_i, isi_s, isi_t, eqW_i, fzE, fzV, slotOf, bindTg, bindTgs, wip, startD, List.map_cons, List.map_nil, List.replicate, List.length_cons, List.length_nil, List.cons_append, List.nil_append, List.set_cons_zero, List.set_cons_succ, Nat.reduceAdd, Nat.reduceSub, Nat.sub_self, Nat.add_sub_cancel, List.getElem?_cons_zero, List.getElem?_cons_succ, setAll, b_isi, b_lenL, b_lenT, b_lenS, b_lenO, b_all, b_any, b_tupL, b_tupT, b_lstL, b_lstT, b_strO, b_strI, b_strS, b_intI, b_intS, b_abs, b_min, b_max, b_sum, b_dvm, b_boolO, b_reprO, b_reprL, m_joinL, m_joinT, m_split, y_join, y_split, c_lt, c_le, c_gt, c_ge, c_is, c_isn, c_eq, c_ne, c_in, c_nin, i_str, i_tup, i_lst, t_bl, t_int, n_int, o_addI, o_addS, o_addT, o_addL, o_sub, o_mul, o_fdv, o_mod, o_pow, x_lst, x_tup, x_str, l_lst, l_tup, l_str, q_lst, q_tup, q_str, e_lst, e_tup, true_and]
  refine lines_ok hG hm hw ha hl g ?_
  simp only [exSs, exS, evR, evT, evS, evP, evAs, evO, evC, evI, evIF, evF, mkV, mkT, Rvd_v, Rvd_f, varW_z, varW_s, barW_z, barW_zo, barW_s, ex_bl, libW, isi_i, isi_s, isi_t, eqW_i, fzE, fzV, slotOf, bindTg, bindTgs, wip, startD, List.map_cons, List.map_nil, List.replicate, List.length_cons, List.length_nil, List.cons_append, List.nil_append, List.set_cons_zero, List.set_cons_succ, Nat.reduceAdd, Nat.reduceSub, Nat.sub_self, Nat.add_sub_cancel, List.getElem?_cons_zero, List.getElem?_cons_succ, setAll, b_isi, b_lenL, b_lenT, b_lenS, b_lenO, b_all, b_any, b_tupL, b_tupT, b_lstL, b_lstT, b_strO, b_strI, b_strS, b_intI, b_intS, b_abs, b_min, b_max, b_sum, b_dvm, b_boolO, b_reprO, b_reprL, m_joinL, m_joinT, m_split, y_join, y_split, c_lt, c_le, c_gt, c_ge, c_is, c_isn, c_eq, c_ne, c_in, c_nin, i_str, i_tup, i_lst, t_bl, t_int, n_int, o_addI, o_addS, o_addT, o_addL, o_sub, o_mul, o_fdv, o_mod, o_pow, x_lst, x_tup, x_str, l_lst, l_tup, l_str, q_lst, q_tup, q_str, e_lst, e_tup, true_and]
  refine ⟨_, unStr_map _, ?_, q⟩
  have h1 := sum_len fun x hx => g.len1 hx
  have h2 := g.lenL
  have e1 : (Str.ofString "\n").length = 1 := rfl
  rw [e1]
  omega
end
end En
namespace En
open PySem L2 PyProof.Rows TL
/-! ### places by the law; a program built -/
theorem plc_len (xs : List Str) : (plc xs).length ≤ xs.length := plc_le fun x h => h
theorem plc_app (xs : List Str) (y : Str) : plc (xs ++ [y]) = if y ∈ plc xs then plc xs else plc xs ++ [y] := plcGo_app xs [] y
section
variable {sub : Sub} {fs : List (Str × Fn)} {l : List (Str × Prim)} {G : Cfg} (hG : G.B = libW sub) (hm : ∀ k, MonoC (CW G fs l k)) (D' : LgD fs l)
include hG hm D'
omit hm D' in
theorem spots_step {C : Call} {r0 a3 a4 : Option Slot} {s : Str} {xs : List Str} {N : Nd} {E : XP} (hl : xs.length < 100000) (q : N.nx [r0, some (.own ((plc (xs ++ [s])).map D.str) none), some (.val (.str s)), a3, a4]) :
    exSs G.B C (.cons (.iff (.cmp .NotIn (.var 2) (.var 1)) (.cons (.app 1 (.var 2)) .nil) .nil) .nil) N [r0, some (.own ((plc xs).map D.str) none), some (.val (.str s)), a3, a4] E := by
  have hpl := plc_len xs
  rw [plc_app] at q
  rw [hG]
  simp only [exSs, exS, evR, evT, evS, evP, evAs, evO, evC, evI, evIF, evF, mkV, mkT, Rvd_v, Rvd_f, varW_z, varW_s, barW_z, barW_zo, barW_s, ex_bl, libW, isi_i, isi_s, isi_t, eqW_i, fzE, fzV, slotOf, bindTg, bindTgs, wip, startD, List.map_cons, List.map_nil, List.replicate, List.length_cons, List.length_nil, List.cons_append, List.nil_append, List.set_cons_zero, List.set_cons_succ, Nat.reduceAdd, Nat.reduceSub, Nat.sub_self, Nat.add_sub_cancel, List.getElem?_cons_zero, List.getElem?_cons_succ, setAll, b_isi, b_lenL, b_lenT, b_lenS, b_lenO, b_all, b_any, b_tupL, b_tupT, b_lstL, b_lstT, b_strO, b_strI, b_strS, b_intI, b_intS, b_abs, b_min, b_max, b_sum, b_dvm, b_boolO, b_reprO, b_reprL, m_joinL, m_joinT, m_split, y_join, y_split, c_lt, c_le, c_gt, c_ge, c_is, c_isn, c_eq, c_ne, c_in, c_nin, i_str, i_tup, i_lst, t_bl, t_int, n_int, o_addI, o_addS, o_addT, o_addL, o_sub, o_mul, o_fdv, o_mod, o_pow, x_lst, x_tup, x_str, l_lst, l_tup, l_str, q_lst, q_tup, q_str, e_lst, e_tup]
  refine ⟨rfl, strs_flat _, ?_⟩
  rw [strs_any]
  by_cases h : s ∈ plc xs
  · rw [decide_eq_true h]
    rw [if_pos h] at q
    exact iff_ q
  · rw [decide_eq_false h]
    rw [if_neg h, List.map_append] at q
    refine ift ?_
    refine ⟨_, _, rfl, ?_, q⟩
    rw [List.length_map, sizeLine_eq]
    omega
omit D' in
theorem spots_any (hs : fs.lookup ("_law_spots" : Str) = some ⟨1, 5, lh_spots⟩) {k : Nat} {ns : List Str} {ss : List Say} {as : List Arm} (h1 : ss.length ≤ 100) (h2 : as.length ≤ 100) {Q : Rv → Prop} {E : XP} (q : Q (.v (nmsD (plc (spots ss as))))) : CW G fs l (k + 1) "_law_spots" [.lst (partsD ns ss as)] Q E := by
  have hB : G.B.Mono := by rw [hG]; exact libW_mono sub
  refine cw_fn_mk hs rfl ?_
  refine ss_c (s_own hB (hm _) (.fr []) ?_ ?_)
  · rw [hG]
    simp only [exSs, exS, evR, evT, evS, evP, evAs, evO, evC, evI, evIF, evF, mkV, mkT, Rvd_v, Rvd_f, varW_z, varW_s, barW_z, barW_zo, barW_s, ex_bl, libW, isi_i, isi_s, isi_t, eqW_i, fzE, fzV, slotOf, bindTg, bindTgs, wip, startD, List.map_cons, List.map_nil, List.replicate, List.length_cons, List.length_nil, List.cons_append, List.nil_append, List.set_cons_zero, List.set_cons_succ, Nat.reduceAdd, Nat.reduceSub, Nat.sub_self, Nat.add_sub_cancel, List.getElem?_cons_zero, List.getElem?_cons_succ, setAll, b_isi, b_lenL, b_lenT, b_lenS, b_lenO, b_all, b_any, b_tupL, b_tupT, b_lstL, b_lstT, b_strO, b_strI, b_strS, b_intI, b_intS, b_abs, b_min, b_max, b_sum, b_dvm, b_boolO, b_reprO, b_reprL, m_joinL, m_joinT, m_split, y_join, y_split, c_lt, c_le, c_gt, c_ge, c_is, c_isn, c_eq, c_ne, c_in, c_nin, i_str, i_tup, i_lst, t_bl, t_int, n_int, o_addI, o_addS, o_addT, o_addL, o_sub, o_mul, o_fdv, o_mod, o_pow, x_lst, x_tup, x_str, l_lst, l_tup, l_str, q_lst, q_tup, q_str, e_lst, e_tup]
    exact ⟨sl_le (by omega), trivial⟩
  refine ss_c ?_
  unfold exS
  simp only [evIF, evS]
  refine S_is hB (hm _) (sysD ss) ?_ ?_
  · rw [hG]
    unfold partsD
    simp only [exSs, exS, evR, evT, evS, evP, evAs, evO, evC, evI, evIF, evF, mkV, mkT, Rvd_v, Rvd_f, varW_z, varW_s, barW_z, barW_zo, barW_s, ex_bl, libW, isi_i, isi_s, isi_t, eqW_i, fzE, fzV, slotOf, bindTg, bindTgs, wip, startD, List.map_cons, List.map_nil, List.replicate, List.length_cons, List.length_nil, List.cons_append, List.nil_append, List.set_cons_zero, List.set_cons_succ, Nat.reduceAdd, Nat.reduceSub, Nat.sub_self, Nat.add_sub_cancel, List.getElem?_cons_zero, List.getElem?_cons_succ, setAll, b_isi, b_lenL, b_lenT, b_lenS, b_lenO, b_all, b_any, b_tupL, b_tupT, b_lstL, b_lstT, b_strO, b_strI, b_strS, b_intI, b_intS, b_abs, b_min, b_max, b_sum, b_dvm, b_boolO, b_reprO, b_reprL, m_joinL, m_joinT, m_split, y_join, y_split, c_lt, c_le, c_gt, c_ge, c_is, c_isn, c_eq, c_ne, c_in, c_nin, i_str, i_tup, i_lst, t_bl, t_int, n_int, o_addI, o_addS, o_addT, o_addL, o_sub, o_mul, o_fdv, o_mod, o_pow, x_lst, x_tup, x_str, l_lst, l_tup, l_str, q_lst, q_tup, q_str, e_lst, e_tup]
    exact ⟨_, rfl, rfl⟩
  unfold sysD
  simp only [q_tup, fzE]
  refine for_inv (fun i r => ∃ a b c, r = [some (.val (.lst (partsD ns ss as))), some (.own ((plc ((ss.take i).map (·.1))).map D.str) none), a, b, c]) ⟨_, _, _, rfl⟩ (fun i x r hx hp K hk => ?_) fun r hp => ?_
  · obtain ⟨a, b, c, rfl⟩ := hp
    rw [List.getElem?_map] at hx
    obtain ⟨s, hs, rfl⟩ := Option.map_eq_some_iff.mp hx
    refine ⟨_, rfl, _, _, rfl, _, _, rfl, rfl, ?_⟩
    refine spots_step hG (by rw [List.length_map, List.length_take]; omega) (hk _ ?_)
    have e : (ss.take (i + 1)).map (·.1) = (ss.take i).map (·.1) ++ [s.1] := by
      rw [List.take_succ, hs, List.map_append]
      rfl
    rw [e]
    exact ⟨_, _, _, rfl⟩
  · obtain ⟨a, b, c, rfl⟩ := hp
    rw [List.length_map, List.take_length]
    refine ss_c ?_
    unfold exS
    simp only [evIF, evS]
    refine S_is hB (hm _) (armsD as) ?_ ?_
    · rw [hG]
      unfold partsD
      simp only [exSs, exS, evR, evT, evS, evP, evAs, evO, evC, evI, evIF, evF, mkV, mkT, Rvd_v, Rvd_f, varW_z, varW_s, barW_z, barW_zo, barW_s, ex_bl, libW, isi_i, isi_s, isi_t, eqW_i, fzE, fzV, slotOf, bindTg, bindTgs, wip, startD, List.map_cons, List.map_nil, List.replicate, List.length_cons, List.length_nil, List.cons_append, List.nil_append, List.set_cons_zero, List.set_cons_succ, Nat.reduceAdd, Nat.reduceSub, Nat.sub_self, Nat.add_sub_cancel, List.getElem?_cons_zero, List.getElem?_cons_succ, setAll, b_isi, b_lenL, b_lenT, b_lenS, b_lenO, b_all, b_any, b_tupL, b_tupT, b_lstL, b_lstT, b_strO, b_strI, b_strS, b_intI, b_intS, b_abs, b_min, b_max, b_sum, b_dvm, b_boolO, b_reprO, b_reprL, m_joinL, m_joinT, m_split, y_join, y_split, c_lt, c_le, c_gt, c_ge, c_is, c_isn, c_eq, c_ne, c_in, c_nin, i_str, i_tup, i_lst, t_bl, t_int, n_int, o_addI, o_addS, o_addT, o_addL, o_sub, o_mul, o_fdv, o_mod, o_pow, x_lst, x_tup, x_str, l_lst, l_tup, l_str, q_lst, q_tup, q_str, e_lst, e_tup]
      exact ⟨_, rfl, rfl⟩
    unfold armsD
    simp only [q_tup, fzE]
    have e0 : ss.map (·.1) = spots ss (as.take 0) := by simp [spots]
    rw [e0]
    refine for_inv (fun i r => ∃ a b c, r = [some (.val (.lst (partsD ns ss as))), some (.own ((plc (spots ss (as.take i))).map D.str) none), a, b, c]) ⟨_, _, _, rfl⟩ (fun i x r hx hp K hk => ?_) fun r hp => ?_
    · obtain ⟨a, b, c, rfl⟩ := hp
      rw [List.getElem?_map] at hx
      obtain ⟨s, hs, rfl⟩ := Option.map_eq_some_iff.mp hx
      show exSs _ _ _ _ [some (.val (.lst (partsD ns ss as))), some (.own ((plc (spots ss (as.take i))).map D.str) none), a, b, some (.val (armD s))] _
      refine ss_c ?_
      unfold exS
      simp only [evIF, evS]
      have hsl := spots_len ss (as.take i)
      have htl : (as.take i).length ≤ 100 := by rw [List.length_take]; omega
      refine S_is hB (hm _) (.tup [.str s.1, .str s.2.1]) ?_ ?_
      · rw [hG]
        unfold armD
        simp only [exSs, exS, evR, evT, evS, evP, evAs, evO, evC, evI, evIF, evF, mkV, mkT, Rvd_v, Rvd_f, varW_z, varW_s, barW_z, barW_zo, barW_s, ex_bl, libW, isi_i, isi_s, isi_t, eqW_i, fzE, fzV, slotOf, bindTg, bindTgs, wip, startD, List.map_cons, List.map_nil, List.replicate, List.length_cons, List.length_nil, List.cons_append, List.nil_append, List.set_cons_zero, List.set_cons_succ, Nat.reduceAdd, Nat.reduceSub, Nat.sub_self, Nat.add_sub_cancel, List.getElem?_cons_zero, List.getElem?_cons_succ, setAll, b_isi, b_lenL, b_lenT, b_lenS, b_lenO, b_all, b_any, b_tupL, b_tupT, b_lstL, b_lstT, b_strO, b_strI, b_strS, b_intI, b_intS, b_abs, b_min, b_max, b_sum, b_dvm, b_boolO, b_reprO, b_reprL, m_joinL, m_joinT, m_split, y_join, y_split, c_lt, c_le, c_gt, c_ge, c_is, c_isn, c_eq, c_ne, c_in, c_nin, i_str, i_tup, i_lst, t_bl, t_int, n_int, o_addI, o_addS, o_addT, o_addL, o_sub, o_mul, o_fdv, o_mod, o_pow, x_lst, x_tup, x_str, l_lst, l_tup, l_str, q_lst, q_tup, q_str, e_lst, e_tup]
        exact ⟨2, rfl, rfl⟩
      simp only [q_tup, fzE]
      unfold forW
      refine spots_step hG (by omega) ?_
      unfold forW
      refine spots_step hG (by rw [List.length_append]; simp; omega) ?_
      unfold forW
      unfold exSs
      have e : spots ss (as.take (i + 1)) = spots ss (as.take i) ++ [s.1] ++ [s.2.1] := by
        rw [List.take_succ, hs]
        simp [spots]
      rw [← e]
      exact hk _ ⟨_, _, _, rfl⟩
    · obtain ⟨a, b, c, rfl⟩ := hp
      rw [List.length_map, List.take_length]
      refine ss_c ?_
      unfold exS
      rw [hG]
      simp only [exSs, exS, evR, evT, evS, evP, evAs, evO, evC, evI, evIF, evF, mkV, mkT, Rvd_v, Rvd_f, varW_z, varW_s, barW_z, barW_zo, barW_s, ex_bl, libW, isi_i, isi_s, isi_t, eqW_i, fzE, fzV, slotOf, bindTg, bindTgs, wip, startD, List.map_cons, List.map_nil, List.replicate, List.length_cons, List.length_nil, List.cons_append, List.nil_append, List.set_cons_zero, List.set_cons_succ, Nat.reduceAdd, Nat.reduceSub, Nat.sub_self, Nat.add_sub_cancel, List.getElem?_cons_zero, List.getElem?_cons_succ, setAll, b_isi, b_lenL, b_lenT, b_lenS, b_lenO, b_all, b_any, b_tupL, b_tupT, b_lstL, b_lstT, b_strO, b_strI, b_strS, b_intI, b_intS, b_abs, b_min, b_max, b_sum, b_dvm, b_boolO, b_reprO, b_reprL, m_joinL, m_joinT, m_split, y_join, y_split, c_lt, c_le, c_gt, c_ge, c_is, c_isn, c_eq, c_ne, c_in, c_nin, i_str, i_tup, i_lst, t_bl, t_int, n_int, o_addI, o_addS, o_addT, o_addL, o_sub, o_mul, o_fdv, o_mod, o_pow, x_lst, x_tup, x_str, l_lst, l_tup, l_str, q_lst, q_tup, q_str, e_lst, e_tup]
      exact q
omit D' in
theorem spots_ok (hs : fs.lookup ("_law_spots" : Str) = some ⟨1, 5, lh_spots⟩) {k : Nat} {ns : List Str} {ss : List Say} {as : List Arm} (g : Good ns ss as) {Q : Rv → Prop} {E : XP} (q : Q (.v (nmsD (plc (spots ss as))))) : CW G fs l (k + 1) "_law_spots" [.lst (partsD ns ss as)] Q E := spots_any hG hm hs (by have := g.s1; omega) (by have := g.a2; omega) q
end
end En
namespace En
open PySem L2 PyProof.Rows TL
/-! ### data that repr shows -/
structure Sz (d : D) (dep w : Nat) : Prop where
  dat : isDat d = true
  shw : (toPy d).showable = true
  dp : (toPy d).depth ≤ dep
  sh : (toPy d).leavesShort 120 = true
  wt : (toPy d).weight ≤ w
structure Szs (ds : List D) (dep w : Nat) : Prop where
  dat : isDats ds = true
  shw : PyData.showableAll (toPys ds) = true
  dp : PyData.depthAll (toPys ds) ≤ dep
  sh : PyData.leavesShortAll 120 (toPys ds) = true
  wt : PyData.weightAll (toPys ds) ≤ w
theorem Sz.le {d : D} {a b a' b' : Nat} (h : Sz d a b) (h1 : a ≤ a') (h2 : b ≤ b') : Sz d a' b' := ⟨h.dat, h.shw, Nat.le_trans h.dp h1, h.sh, Nat.le_trans h.wt h2⟩
theorem Szs.nil {a b : Nat} : Szs [] a b := ⟨rfl, rfl, Nat.zero_le _, rfl, Nat.zero_le _⟩
theorem Szs.cons {d : D} {ds : List D} {a b c : Nat} (h : Sz d a b) (hs : Szs ds a c) : Szs (d :: ds) a (b + 1 + c) where
  dat := by simp only [isDats, h.dat, hs.dat, Bool.and_self]
  shw := by simp only [toPys, PyData.showableAll, h.shw, hs.shw, Bool.and_self]
  dp := by
    simp only [toPys, PyData.depthAll]
    have := h.dp
    have := hs.dp
    omega
  sh := by simp only [toPys, PyData.leavesShortAll, h.sh, hs.sh, Bool.and_self]
  wt := by
    simp only [toPys, PyData.weightAll]
    have := h.wt
    have := hs.wt
    omega
theorem Szs.le {d : List D} {a b a' b' : Nat} (h : Szs d a b) (h1 : a ≤ a') (h2 : b ≤ b') : Szs d a' b' := ⟨h.dat, h.shw, Nat.le_trans h.dp h1, h.sh, Nat.le_trans h.wt h2⟩
theorem Szs.map {α : Type} {f : α → D} {a b : Nat} : ∀ {l : List α}, (∀ x ∈ l, Sz (f x) a b) → Szs (l.map f) a (l.length * (b + 1))
  | [], _ => Szs.nil
  | x :: l, h => by
    have h1 := Szs.cons (h x List.mem_cons_self) (Szs.map fun y hy => h y (List.mem_cons_of_mem _ hy))
    refine h1.le (Nat.le_refl _) ?_
    rw [List.length_cons, Nat.succ_mul]
    omega
theorem Szs.mapN {α : Type} {f : α → D} {a b n : Nat} {l : List α} (h : ∀ x ∈ l, Sz (f x) a b) (hn : l.length ≤ n) : Szs (l.map f) a (n * (b + 1)) := (Szs.map h).le (Nat.le_refl _) (Nat.mul_le_mul_right _ hn)
theorem Sz.tup {ds : List D} {a b : Nat} (h : Szs ds a b) : Sz (.tup ds) (a + 1) b where
  dat := h.dat
  shw := h.shw
  dp := by
    show PyData.depthAll (toPys ds) + 1 ≤ _
    have := h.dp
    omega
  sh := h.sh
  wt := h.wt
theorem Sz.lst {ds : List D} {a b : Nat} (h : Szs ds a b) : Sz (.lst ds) (a + 1) b where
  dat := h.dat
  shw := h.shw
  dp := by
    show PyData.depthAll (toPys ds) + 1 ≤ _
    have := h.dp
    omega
  sh := h.sh
  wt := h.wt
theorem Sz.bl {b : Bool} : Sz (.bl b) 0 0 := ⟨rfl, rfl, Nat.le_refl _, rfl, Nat.le_refl _⟩
theorem Sz.non : Sz .non 0 0 := ⟨rfl, rfl, Nat.le_refl _, rfl, Nat.le_refl _⟩
theorem Sz.int {i : Int} (h1 : -1000000 ≤ i) (h2 : i ≤ 1000000) : Sz (.int i) 0 21 where
  dat := rfl
  shw := decide_eq_true (log2_small (by omega))
  dp := Nat.le_refl _
  sh := decide_eq_true (Nat.le_trans (PyData.shown_int_le (by omega)) (by omega))
  wt := by
    show (if i == 0 then 0 else i.natAbs.log2 + 1) ≤ 21
    split
    · omega
    · rename_i h
      have hn : i.natAbs ≠ 0 := fun e => h (by have : i = 0 := by omega
                                               subst this
                                               rfl)
      have : i.natAbs.log2 < 20 := (Nat.log2_lt hn).mpr (by omega)
      omega
theorem Sz.big {i : Int} (h : i.natAbs < 10 ^ 118) : Sz (.int i) 0 400 where
  dat := rfl
  shw := by
    refine decide_eq_true ?_
    by_cases hn : i.natAbs = 0
    · rw [hn]
      decide
    · exact (Nat.log2_lt hn).mpr (Nat.lt_trans h (by decide +kernel))
  dp := Nat.le_refl _
  sh := by
    refine decide_eq_true ?_
    have e := int_text_length_le10 (k := 118) (by decide +kernel) h
    show (Str.ofString (toString i)).length ≤ 120
    rw [PySem.ofString_length]
    omega
  wt := by
    show (if i == 0 then 0 else i.natAbs.log2 + 1) ≤ 400
    split
    · omega
    · rename_i hz
      have hn : i.natAbs ≠ 0 := fun e => hz (by have : i = 0 := by omega
                                                subst this
                                                rfl)
      have : i.natAbs.log2 < 399 := (Nat.log2_lt hn).mpr (Nat.lt_trans h (by decide +kernel))
      omega
theorem Sz.str {s : Str} {n : Nat} (h : asc s) (hn : s.length ≤ n) : Sz (.str s) 0 n where
  dat := rfl
  shw := rfl
  dp := Nat.le_refl _
  sh := by
    show (s.cps.toList.all fun c => decide (c < 16 ^ 8)) = true
    rw [List.all_eq_true]
    intro c hc
    have := h c hc
    exact decide_eq_true (by omega)
  wt := hn
theorem asc_nm {s : Str} (h : nmS s = true) : asc s := fun c hc => by
  rcases nmS_sg h c hc with e | e <;> omega
theorem Sz.form {n : Nat} {f : List Int} (h : frm n f) (hn : n ≤ 3) : Sz (formD f) 1 88 := (Sz.tup (Szs.mapN (fun i hi => Sz.int (h.2 i hi).1 (h.2 i hi).2) (Nat.le_of_eq h.1))).le (Nat.le_refl _) (by omega)
theorem Sz.nms {ns : List Str} (h : ∀ s ∈ ns, nmS s = true) (hl : ns.length ≤ 10) : Sz (nmsD ns) 1 90 := Sz.tup (Szs.mapN (n := 10) (fun s hs => Sz.str (asc_nm (h s hs)) (nmS_len (h s hs))) hl)
section
variable {ns : List Str} {ss : List Say} {as : List Arm} (g : Good ns ss as)
include g
theorem Good.plc_nm : ∀ s ∈ plc (spots ss as), nmS s = true := by
  intro s hs
  rcases (plcGo_mem _ _ _).mp hs with z | z
  · cases z
  · rcases List.mem_append.mp z with z | z
    · obtain ⟨t, ht, rfl⟩ := List.mem_map.mp z
      exact (g.s2 t ht).1
    · obtain ⟨a, ha, z⟩ := List.mem_flatMap.mp z
      obtain ⟨h1, h2, _⟩ := g.a3 a ha
      simp only [List.mem_cons, List.not_mem_nil, or_false] at z
      rcases z with rfl | rfl
      · exact h1
      · exact h2
theorem Good.zp : Sz (nmsD (plc (spots ss as))) 1 90 := Sz.nms g.plc_nm (by have := g.p; omega)
end
theorem fits120 {d : PyData} (hl : d.leavesShort 120 = true) (hw : d.weight ≤ 110000) : d.shown.length ≤ sizeLine := by
  have h := PyData.shown_le 120 (by omega) d hl
  rw [sizeLine_eq]
  omega
theorem Szs.rp {xs : List D} {dep w : Nat} (h : Szs xs dep w) (hd : dep ≤ 50) (hw : w ≤ 100000) : isDat (.lst xs) = true ∧ (toPy (.lst xs)).showable = true ∧ (toPy (.lst xs)).depth ≤ 60 ∧ (toPy (.lst xs)).shown.length ≤ sizeLine := by
  have z := Sz.lst h
  exact ⟨z.dat, z.shw, by have := z.dp; omega, fits120 z.sh (by have := z.wt; omega)⟩
end En
namespace En
open PySem L2 PyProof.Rows TL
/-! ### the law itself: all turns are right -/
end En
namespace En
open PySem L2 PyProof.Rows TL
/-! ### == of data without bools; texts of unlike parts are unlike -/
mutual
def pu : D → Bool
  | .int _ => true
  | .str _ => true
  | .tup xs => pus xs
  | .lst xs => pus xs
  | _ => false
def pus : List D → Bool
  | [] => true
  | x :: r => pu x && pus r
end
structure Sh (d : D) : Prop where
  dat : isDat d = true
  lay : (toPy d).canLay0 = true
  p : pu d = true
theorem Sh.int {i : Int} : Sh (.int i) := ⟨rfl, rfl, rfl⟩
theorem Sh.str {x : Str} (h : asc x) : Sh (.str x) := ⟨rfl, by
  show PyData.strOk x = true
  unfold PyData.strOk
  rw [Array.all_eq_true_iff_forall_mem]
  intro c hc
  have := h c (Array.mem_toList_iff.mpr hc)
  exact decide_eq_true (by omega), rfl⟩
theorem Shs {ds : List D} (h : ∀ x ∈ ds, Sh x) : isDats ds = true ∧ PyData.canLayAll0 (toPys ds) = true ∧ pus ds = true := by
  induction ds with
  | nil => exact ⟨rfl, rfl, rfl⟩
  | cons x r ih =>
    have h1 := h x List.mem_cons_self
    obtain ⟨a, b, c⟩ := ih fun y hy => h y (List.mem_cons_of_mem _ hy)
    exact ⟨by simp only [isDats, h1.dat, a, Bool.and_self], by simp only [toPys, PyData.canLayAll0, h1.lay, b, Bool.and_self], by simp only [pus, h1.p, c, Bool.and_self]⟩
theorem Sh.tup {ds : List D} (h : ∀ x ∈ ds, Sh x) : Sh (.tup ds) := ⟨(Shs h).1, (Shs h).2.1, (Shs h).2.2⟩
theorem Sh.lst {ds : List D} (h : ∀ x ∈ ds, Sh x) : Sh (.lst ds) := ⟨(Shs h).1, (Shs h).2.1, (Shs h).2.2⟩
theorem Sh.map {α : Type} {f : α → D} {l : List α} (h : ∀ x ∈ l, Sh (f x)) : ∀ y ∈ l.map f, Sh y := fun y hy => by
  obtain ⟨x, hx, rfl⟩ := List.mem_map.mp hy
  exact h x hx
theorem Sh.form {f : List Int} : Sh (formD f) := Sh.tup (Sh.map fun _ _ => Sh.int)
theorem Sh.c {x : D} {l : List D} (h : Sh x) (hs : ∀ y ∈ l, Sh y) : ∀ y ∈ x :: l, Sh y := List.forall_mem_cons.mpr ⟨h, hs⟩
theorem Sh.n : ∀ y ∈ ([] : List D), Sh y := fun _ h => nomatch h
end En
namespace En
open PySem L2 PyProof.Rows TL
/-! ### more steps of statements -/
section
variable {B : Lib} {C : Call} (hB : B.Mono) (hC : MonoC C)
include hB hC
theorem s_setP {e : Ex} {i : Nat} {N : Nd} {r : Env} {E : XP} {F : Rv → Prop} (h : (evP B C e r).R F E) (q : ∀ x, F x → N.nx (r.set i (some (.val x.d)))) : exS B C (.set i e) N r E := by
  unfold exS
  exact (evP_mono hB hC e r).R _ _ _ _ q (fun _ _ z => z) h
end
end En
namespace En
open PySem L2 PyProof.Rows TL
/-! Xa1: try: body, except (A, B, C) as n: suite, where every exception of the body is of one of the three. -/
open PySem.Spec
end En
namespace En
open PySem L2 PyProof.Rows TL
/-! Xa2: an error that is held, asked within a def that the except suite calls. -/
open PySem.Spec
/-- the error that is held: at a, of the class at D, its dict at dd -/
structure PinX (X : Cx) (a dd Dc : Addr) : Prop where
  ex : ∃ oe, (a, oe) ∈ X.pn ∧ Zc (.ref Dc) (some dd) oe ∧ ∃ vs, oe.data = .fields vs
section
variable {X : Cx} {a dd Dc : Addr} {G : Cfg} {W : WX}
theorem PinX.inst (P : PinX X a dd Dc) {pins : List (Addr × Obj)} {σ : St} {H : Hp} {s : Shared} (I : Inv X pins σ H s) {fs : List (Str × V)} (hd : H dd = some (.xd fs)) :
    ∃ (oe od : Obj) (mA : Str → Option Value), PySem.W.InstAt s.heap a oe Dc (some od) ∧ (∀ name, PySem.W.lookIn name od = some (mA name)) ∧ ∀ f, RelO (fs.lookup f) (mA f) := by
  obtain ⟨oe, hm, hz, vs, hv⟩ := P.ex
  have hp := (I.pin (a, oe) (List.mem_append_left _ hm)).1
  obtain ⟨mA, hns, hr⟩ := (show ObjOk X.prog X.w H s.heap dd (.xd fs) from I.hok dd _ hd)
  obtain ⟨od, ho, hl⟩ := lookIn_ns hns
  exact ⟨oe, od, mA, ⟨hp, hz.1, by unfold PySem.W.notCls; rw [hv] <;> rfl, by rw [hz.2]; exact ho⟩, hl, hr⟩
theorem call_isP (P : PinX X a dd Dc) (C : ExcC X.K Dc) : CallR X (.builtin "isinstance") (fun xs H Q => ∃ (c : V) (cv : Value) (b : Bool) (fs : List (Str × V)), xs = [.ref a, c] ∧ (∀ u, RelV c u → u = cv) ∧ PySem.W.kitOne X.K (.ref Dc) cv = some b ∧ H dd = some (.xd fs) ∧ Q (.bl b) H) := by
  intro pins s σ H xs us Q I r h
  obtain ⟨c, cv, b, fs, rfl, hcv, e, hd, q⟩ := h
  cases r with
  | cons rx rr =>
    cases rr with
    | cons rt rr =>
      cases rr
      cases rx
      have ec := hcv _ rt
      subst ec
      obtain ⟨oe, od, mA, J, _, _⟩ := P.inst I hd
      obtain ⟨cd, hc, _⟩ := PySem.W.any_some C.hd
      exact PySem.W.kia_one (PySem.W.kitx_exc (by rw [hc]; rfl) C.hg C.hk C.hs C.ha C.hn C.ht C.hm) I.kIn J e (fun z => nomatch z) fun tk => ⟨.bl b, H, I.kept (t' := tk) fun _ _ z => z, rfl, q⟩
/-- what is asked of the error: isinstance by the class's name, its value, how many of three are true -/
def CS (a dd : Addr) (f : Str) (d : D) (b : Str → Option Bool) : Call := fun nm ds Q _ =>
  (nm = "!f" ∧ ds = [.exc a dd f d] ∧ Q (.v d)) ∨ (∃ k, b nm = some k ∧ ds = [.exc a dd f d] ∧ Q (.v (.bl k))) ∨ (nm = "!n" ∧ ∃ bs : List Bool, ds = [.lst (bs.map D.bl)] ∧ Q (.v (.int (bs.count true : Nat))))
theorem CS_mono (a dd : Addr) (f : Str) (d : D) (b : Str → Option Bool) : MonoC (CS a dd f d b) := fun nm ds Q Q' E E' hq he z => by
  rcases z with ⟨e1, e2, z⟩ | ⟨k, e1, e2, z⟩ | ⟨e1, bs, e2, z⟩
  · exact .inl ⟨e1, e2, hq _ z⟩
  · exact .inr (.inl ⟨k, e1, e2, hq _ z⟩)
  · exact .inr (.inr ⟨e1, bs, e2, hq _ z⟩)
variable {f : Str} {d : D} {b : Str → Option Bool}
theorem exc_at {H : Hp} {x : D} {v : V} {K : PySem.W.Frag} (h : RD K H (.exc a dd f d) v) : v = .ref a ∧ ∃ y, H dd = some (.xd [(f, y)]) ∧ RD K H d y := by
  cases h with
  | exc h1 h2 => exact ⟨rfl, _, h1, h2⟩
/-- isinstance(e, c) -/
theorem p_isP (P : PinX X a dd Dc) (C : ExcC X.K Dc) (hK : X.K = G.K) {e c : Str} {vc : V} {cv : Value} {k : Bool} {q1 q2 q3 q4 : Pos} (he : ∀ q, PE X (.Name e q) (tVar 0)) (hg : Gl X "isinstance") (hm : X.mg "isinstance" = none) (hc : PE X (.Name c q3) (tC vc)) (hv : ∀ u, RelV vc u → u = cv)
    (hk : PySem.W.kitOne X.K (.ref Dc) cv = some k) (hb : b c = some k) (n1 : c ≠ "!f") (n2 : c ≠ "!n") : PE X (.Call (.Name "isinstance" q1) [.Name e q2, .Name c q3] [] q4) (rdR G (CS a dd f d b) W (.fn c (.cons (.var 0) .nil))) := by
  refine PE.imp (pe_callB (call_isP P C) hg hm (by kernel_rfl) (pa_cons (he q2) (pa_cons hc pa_nil))) fun σ H Q ⟨r, re, tb, z⟩ => ?_
  simp only [evR, evP, mkV, evAs] at z
  obtain ⟨d0, hr, z⟩ := z
  obtain ⟨v, e1, rd⟩ := re.at_ 0 _ hr
  rcases z with ⟨e2, _, _⟩ | ⟨k', e2, e3, zz⟩ | ⟨e2, _⟩
  · exact absurd e2 n1
  · rw [hb] at e2
    cases e2
    have e3 : d0 = .exc a dd f d := by
      injection e3
    subst e3
    obtain ⟨ev, y, h1, h2⟩ := exc_at (x := .non) rd
    subst ev
    exact ⟨_, e1, vc, cv, k, _, rfl, hv, hk, h1, zz _ H (.bl k) (LamX.ExtN.refl H) tb⟩
  · exact absurd e2 n2
/-- e.f -/
theorem p_fldP (P : PinX X a dd Dc) (T : XfC X.K Dc) (hno : PySem.W.findIn X.K (.ref Dc) f = some none) (hb : b "!f" = none) {e : Str} {q1 q2 : Pos} (he : ∀ q, PE X (.Name e q) (tVar 0)) : PE X (.Attribute (.Name e q1) f q2) (rdR G (CS a dd f d b) W (.fn "!f" (.cons (.var 0) .nil))) := by
  refine ⟨fun pins s σ H Q I h => ?_⟩
  obtain ⟨r, re, tb, z⟩ := h
  simp only [evR, evP, mkV, evAs] at z
  obtain ⟨d0, hr, z⟩ := z
  obtain ⟨v, e1, rd⟩ := re.at_ 0 _ hr
  have zz : d0 = .exc a dd f d ∧ ∀ v H', RR G.K H H' (.v d) v → ExN H H' → Tb G H' → Q v H' := by
    rcases z with ⟨_, e3, zz⟩ | ⟨k', e2, _⟩ | ⟨e2, _⟩
    · exact ⟨by injection e3, zz⟩
    · rw [hb] at e2
      cases e2
    · exact absurd e2 (by decide)
  obtain ⟨e3, zz⟩ := zz
  subst e3
  obtain ⟨ev, y, h1, h2⟩ := exc_at (x := .non) rd
  subst ev
  refine attr_of rfl (thn ((he q1).run pins s σ H (fun v H1 => v = .ref a ∧ H1 = H) I ⟨_, e1, rfl, rfl⟩) fun u s1 hh => ?_)
  obtain ⟨x, H1, I1, rx, ex, eH⟩ := hh
  subst ex eH
  obtain rfl : u = Value.ref a := rx
  obtain ⟨oe, od, mA, J, hl, hrl⟩ := P.inst I1 h1
  obtain ⟨w, hw, rw'⟩ := RelO.some_of (v := y) (o := mA f) (by have := hrl f; rw [lookup_put] at this; simpa using this)
  exact HandSPX.exc_get I1.kIn J T.ga T.gg T.exC (PySem.W.findObj_own T.hdC hno rfl (by rw [hl, hw])) (handed_of rw') ⟨y, H1, I1.tok _, rw', zz y H1 h2 (LamX.ExtN.refl H1) tb⟩
/-- bs.count(True) -/
def rCntB (K : PySem.W.Frag) : V → List V → Hp → VK → Prop := fun x xs H Q => ∃ (p : Addr) (bs : List Bool), x = .ref p ∧ xs = [.bl true] ∧ SqL K H p (bs.map V.bl) ∧ Q (.int (bs.count true : Nat)) H
def eqT : Value → Bool
  | .bool k => k == true
  | _ => false
theorem vals_bl : ∀ {bs : List Bool} {us : List Value}, Vals (bs.map V.bl) us → us = bs.map Value.bool
  | [], _, h => by
    cases h
    rfl
  | k :: bs, _, h => by
    cases h with
    | cons r rs =>
      cases r
      rw [vals_bl rs]
      rfl
theorem cnt_bl : ∀ bs : List Bool, (bs.map Value.bool).countP eqT = bs.count true
  | [] => rfl
  | k :: bs => by
    have ih := cnt_bl bs
    rw [List.map_cons, List.countP_cons, List.count_cons, ih]
    rfl
theorem mt_countB : MtR X "list.count" (rCntB X.K) := by
  intro pins s σ H x xs v us Q I rx rxs h
  obtain ⟨p, bs, rfl, rfl, hs, q⟩ := h
  cases rx
  obtain ⟨u, rfl, ru⟩ := rxs.one
  cases ru
  obtain ⟨its, rv, ⟨⟨cls, dd, data, sl⟩, n, ho, hc, hdn, hd⟩, hlen⟩ := I.list hs
  simp only at hc hd
  subst hc hd
  have ei := vals_bl rv
  refine call_meets PySem.F.slot_list_count ⟨_, ho, rfl⟩ PySem.F.entry_list_count (PySem.F.args_list_count_2 _ _)
    (SeqAt.list_countAt p its.toArray n dd sl (.bool true) eqT) ⟨ho, fun y hy => ?_, ?_⟩
  · rw [ei] at hy
    obtain ⟨k, hk, rfl⟩ := List.mem_map.mp (show y ∈ bs.map Value.bool by simpa using hy)
    exact SeqAt.EqAt.bool_bool k true
  · refine ⟨.int (bs.count true : Nat), H, I.tok _, ⟨s.toks, ?_⟩, q⟩
    show Value.int ((its.toArray.toList.countP eqT : Nat) : Int) s.toks = Value.int ((bs.count true : Nat) : Int) s.toks
    rw [ei]
    simp only [List.toList_toArray]
    rw [cnt_bl]
theorem bls_of {K : PySem.W.Frag} {H : Hp} : ∀ {bs : List Bool} {us : List V}, RDs K H (bs.map D.bl) us → us = bs.map V.bl
  | [], _, h => by
    cases h
    rfl
  | k :: bs, _, h => by
    cases h with
    | cons r rs =>
      cases r
      rw [bls_of rs]
      rfl
theorem p_cntP (hK : X.K = G.K) {x : Str} {i kk : Nat} {q1 ap q3 cp : Pos} (hx : PE X (.Name x q1) (tVar i)) (hb : b "!n" = none) (hl : (ap.endLine == cp.line) = true) : PE X (.Call (.Attribute (.Name x q1) "count" ap) [.Constant (.bool true) kk q3] [] cp) (rdR G (CS a dd f d b) W (.fn "!n" (.cons (.var i) .nil))) := by
  refine PE.imp (pe_bm PySem.F.plainAttrs_list PySem.F.slot_list_count PySem.F.type_list_count mt_countB hx (pa_cons pe_bl pa_nil) rfl rfl hl rfl rfl) fun σ H Q ⟨r, re, tb, z⟩ => ?_
  simp only [evR, evP, mkV, evAs] at z
  obtain ⟨d0, hr, z⟩ := z
  obtain ⟨v, e1, rd⟩ := re.at_ i _ hr
  rcases z with ⟨e2, _⟩ | ⟨k', e2, _⟩ | ⟨_, bs, e3, zz⟩
  · exact absurd e2 (by decide)
  · rw [hb] at e2
    cases e2
  · have e3 : d0 = .lst (bs.map D.bl) := by injection e3
    subst e3
    cases (show RD G.K H (.lst (bs.map D.bl)) v from rd) with
    | @lst p us ds hq rs =>
      have e4 := bls_of rs
      subst e4
      have hq2 : SqL X.K H p (bs.map V.bl) := by
        rw [hK]
        exact hq.sq
      refine ⟨_, e1, .inl ⟨rfl, _, hq2⟩, ?_⟩
      exact ⟨_, bs, rfl, rfl, hq2, zz _ H (.int _) (LamX.ExtN.refl H) tb⟩
end
end En
namespace En
open PySem L2 PyProof.Rows TL
/-! Xa3: the def that tells an error by its class and its value. -/
open PySem.Spec
structure SRow where
  c : Str
  f : Str
  p : Nat → Pos
def isC (p : Nat → Pos) (k : Nat) (c : Str) : Expr := .Call (.Name "isinstance" (p k)) [.Name "_law_e" (p (k + 1)), .Name c (p (k + 2))] [] (p (k + 3))
def rowS (r : SRow) : Stmt := .If (isC r.p 0 r.c) [.Expr (.Call (.Attribute (.Name "_law_found" (r.p 4)) "append" (r.p 5)) [.List [.Constant (.str r.c) 0 (r.p 6), .Call (.Name "repr" (r.p 7)) [.Attribute (.Name "_law_e" (r.p 8)) r.f (r.p 9)] [] (r.p 10)] (r.p 11)] [] (r.p 12)) (r.p 13)] [] (r.p 14)
def retS (p : Nat → Pos) : Stmt := .Return (some (.IfExp (.BoolOp .And [.Compare (.Call (.Name "len" (p 33)) [.Name "_law_found" (p 34)] [] (p 35)) [.Eq] [.Constant (.int 1) 0 (p 36)] (p 37), .Compare (.Name "_law_bases" (p 38)) [.Eq] [.Name "_law_plain" (p 39)] (p 40),
  .Compare (.Call (.Attribute (.Name "_law_bases" (p 41)) "count" (p 42)) [.Constant (.bool true) 0 (p 43)] [] (p 44)) [.Eq] [.Constant (.int 1) 0 (p 45)] (p 46)] (p 47)) (.Subscript (.Name "_law_found" (p 48)) (.Constant (.int 0) 0 (p 49)) (p 50)) (.List [.Constant (.str "other") 0 (p 51), .Constant (.str "") 0 (p 52)] (p 53)) (p 54))) (p 55)
def sortB (p : Nat → Pos) (rows : List SRow) : List Stmt :=
  [.Assign [.Name "_law_bases" (p 0)] (.List [isC p 1 "WrongValue", isC p 5 "WrongName", isC p 9 "NotPossible"] (p 13)) (p 14),
   .Assign [.Name "_law_plain" (p 15)] (.List [isC p 16 "ValueError", isC p 20 "LookupError", isC p 24 "ArithmeticError"] (p 28)) (p 29),
   .Assign [.Name "_law_found" (p 30)] (.List [] (p 31)) (p 32)] ++ (rows.map rowS ++ [retS p])
def v0 (c : Str) : Ex := .fn c (.cons (.var 0) .nil)
def rowI (k : Bool) (c : Str) : Sm := .iff (v0 c) (if k = true then .cons (.app 3 (.lst (.cons (.con (.str c)) (.cons (.blt .repr (.cons (v0 "!f") .nil)) .nil)))) .nil else .cons .dead .nil) .nil
def retI : Sm := .ret (.ite (.and (.cmp .Eq (.blt .len (.cons (.var 3) .nil)) (.con (.int 1))) (.and (.cmp .Eq (.var 1) (.var 2)) (.cmp .Eq (.fn "!n" (.cons (.var 1) .nil)) (.con (.int 1))))) (.idx (.var 3) (.con (.int 0))) (.lst (.cons (.con (.str "other")) (.cons (.con (.str "")) .nil))))
def smApp : List Sm → Sms
  | [] => .nil
  | s :: r => .cons s (smApp r)
def sortI (cs : List (Bool × Str)) : Sms := smApp ([.set 1 (.lst (.cons (v0 "WrongValue") (.cons (v0 "WrongName") (.cons (v0 "NotPossible") .nil)))), .set 2 (.lst (.cons (v0 "ValueError") (.cons (v0 "LookupError") (.cons (v0 "ArithmeticError") .nil)))), .own 3 (.lst .nil)] ++ (cs.map (fun c => rowI c.1 c.2) ++ [retI]))
/-- the names of the def's places -/
def sortN : List Str := ["_law_e", "_law_bases", "_law_plain", "_law_found"]
/-- what is known where it runs -/
structure SortX (X : Cx) (G : Cfg) (sub : Sub) (a dd Dc : Addr) (f : Str) (d : D) (b : Str → Option Bool) (rows : List SRow) : Prop where
  P : PinX X a dd Dc
  C : ExcC X.K Dc
  T : XfC X.K Dc
  no : PySem.W.findIn X.K (.ref Dc) f = some none
  K : X.K = G.K
  L : G.B = libW sub
  N : X.N = sortN
  vis : ∀ x ∈ sortN, Loc X.env.scope x
  fn : ∀ x, X.fn x = true
  un : X.A.units + 64 < cLine
  gd : X.A.guards = some []
  blt : ∀ x ∈ [Str.ofString "isinstance", Str.ofString "repr", Str.ofString "len"], Gl X x ∧ X.mg x = none
  bf : b "!f" = none
  bn : b "!n" = none
  is3 : ∀ c ∈ [Str.ofString "WrongValue", Str.ofString "WrongName", Str.ofString "NotPossible", Str.ofString "ValueError", Str.ofString "LookupError", Str.ofString "ArithmeticError"], ∃ vc cv k, (∀ q, PE X (.Name c q) (tC vc)) ∧ (∀ u, RelV vc u → u = cv) ∧ PySem.W.kitOne X.K (.ref Dc) cv = some k ∧ b c = some k
  isR : ∀ r ∈ rows, r.c ≠ "!f" ∧ r.c ≠ "!n" ∧ ((r.p 5).endLine == (r.p 12).line) = true ∧ ∃ vc cv k, (∀ q, PE X (.Name r.c q) (tC vc)) ∧ (∀ u, RelV vc u → u = cv) ∧ PySem.W.kitOne X.K (.ref Dc) cv = some k ∧ b r.c = some k
  rf : ∀ r ∈ rows, b r.c = some true → r.f = f
section
variable {X : Cx} {G : Cfg} {sub : Sub} {a dd Dc : Addr} {f : Str} {d : D} {b : Str → Option Bool} {rows : List SRow} {W : WX} {H0 : Hp} {E : XK}
theorem SortX.vr (S : SortX X G sub a dd Dc f d b rows) {i : Nat} {x : Str} (h : sortN[i]? = some x) (q : Pos) (o : odd x = false) : PE X (.Name x q) (tVar i) := by
  obtain ⟨o1, o2, o3⟩ := odd_cases o
  refine pe_var (by rw [S.N]; exact h) ?_ o1 o2
  exact (S.vis x (List.mem_of_getElem? h)).elim (fun z => .inl z) fun z => .inr (.inl z)
theorem SortX.hB (S : SortX X G sub a dd Dc f d b rows) : G.B.Mono := by rw [S.L]; exact libW_mono sub
theorem SortX.is (S : SortX X G sub a dd Dc f d b rows) {c : Str} (h : c ∈ [Str.ofString "WrongValue", Str.ofString "WrongName", Str.ofString "NotPossible", Str.ofString "ValueError", Str.ofString "LookupError", Str.ofString "ArithmeticError"]) (p : Nat → Pos) (k : Nat) : PE X (isC p k c) (rdR G (CS a dd f d b) W (v0 c)) := by
  obtain ⟨vc, cv, k', h1, h2, h3, h4⟩ := S.is3 c h
  refine p_isP S.P S.C S.K (fun q => S.vr (i := 0) rfl q (by decide)) (S.blt _ (by simp)).1 (S.blt _ (by simp)).2 (h1 _) h2 h3 h4 ?_ ?_
  · rintro rfl
    rw [S.bf] at h4
    cases h4
  · rintro rfl
    rw [S.bn] at h4
    cases h4
theorem SortX.isr (S : SortX X G sub a dd Dc f d b rows) {r : SRow} (h : r ∈ rows) : PE X (isC r.p 0 r.c) (rdR G (CS a dd f d b) W (v0 r.c)) := by
  obtain ⟨n1, n2, _, vc, cv, k', h1, h2, h3, h4⟩ := S.isR r h
  exact p_isP S.P S.C S.K (fun q => S.vr (i := 0) rfl q (by decide)) (S.blt _ (by simp)).1 (S.blt _ (by simp)).2 (h1 _) h2 h3 h4 n1 n2
theorem cons3 {e1 e2 e3 : Expr} {i1 i2 i3 : Ex} {C : Call} (hB : G.B.Mono) (hC : MonoC C) (h1 : PE X e1 (rdR G C W i1)) (h2 : PE X e2 (rdR G C W i2)) (h3 : PE X e3 (rdR G C W i3)) (n1 : isStar e1 = false) (n2 : isStar e2 = false) (n3 : isStar e3 = false) : PA X [e1, e2, e3] (rdA G C W (.cons i1 (.cons i2 (.cons i3 .nil)))) :=
  a_cons hB hC (pe_frz hB hC h1) (a_cons hB hC (pe_frz hB hC h2) (a_cons hB hC (pe_frz hB hC h3) a_nil (starEach_cons n3)) (starEach_cons n2)) (starEach_cons n1)
theorem SortX.asg (S : SortX X G sub a dd Dc f d b rows) {i : Nat} {x : Str} {e : Expr} {te : TE} {q pos : Pos} (hi : sortN[i]? = some x) (he : PE X e te) (hs : swapsWith e (some (.Name x q)) pos.line X.env = pure false) : PS X (.Assign [.Name x q] e pos) (tAsg te (gName i)) := by
  have nd : X.N.Nodup := by rw [S.N]; decide
  exact ps_asg he (pg_name nd (by rw [S.N]; exact hi) (S.vis x (List.mem_of_getElem? hi)) (.inl (S.fn x))) hs
end
section
variable {X : Cx} {G : Cfg} {sub : Sub} {a dd Dc : Addr} {f : Str} {d : D} {b : Str → Option Bool} {rows : List SRow} {W : WX} {H0 : Hp} {E : XK}
theorem CS_obj {c nm : Str} {fs : List D} {Q : Rv → Prop} {E : XP} (z : CS a dd f d b nm [.obj c fs] Q E) : False := by
  rcases z with ⟨_, e, _⟩ | ⟨_, _, e, _⟩ | ⟨_, bs, e, _⟩
  · injection e with e
    cases e
  · injection e with e
    cases e
  · injection e with e
    cases e
theorem SortX.cl (S : SortX X G sub a dd Dc f d b rows) : CallR X (.builtin "len") (rBlt G (bltW sub (CS a dd f d b) .len)) := by
  intro pins s σ H vs us Q I rv ⟨ds, rs, tb, z⟩
  refine len_ok S.K pins s σ H vs us Q I rv ⟨ds, rs, tb, ?_⟩
  cases ds with
  | nil => exact z.elim
  | cons x r =>
    cases r with
    | nil =>
      refine ⟨x, rfl, ?_⟩
      cases x with
      | obj c fs =>
        unfold bltW at z
        exact (CS_obj z).elim
      | _ => exact z
    | cons y r => cases x <;> exact z.elim
theorem SortX.cr (S : SortX X G sub a dd Dc f d b rows) : CallR X (.builtin "repr") (rBlt G (bltW sub (CS a dd f d b) .repr)) := by
  intro pins s σ H vs us Q I rv ⟨ds, rs, tb, z⟩
  refine repr_ok S.K S.un S.gd pins s σ H vs us Q I rv ⟨ds, rs, tb, ?_⟩
  cases ds with
  | nil => exact z.elim
  | cons x r =>
    cases r with
    | nil =>
      refine ⟨x, rfl, ?_⟩
      cases x with
      | obj c fs =>
        unfold bltW at z
        exact (CS_obj z).elim
      | _ => exact z
    | cons y r => cases x <;> exact z.elim
theorem pss_dead {body : List Stmt} : PSs X body (rdMs G (CS a dd f d b) H0 E (.cons .dead .nil)) := ⟨fun pins s σ H D I ⟨r, N, si, no, z⟩ => by
  unfold exSs exS at z
  exact z.elim⟩
theorem SortX.row (S : SortX X G sub a dd Dc f d b rows) {r : SRow} (h : r ∈ rows) : PS X (rowS r) (rdM G (CS a dd f d b) H0 E (rowI (decide (b r.c = some true)) r.c)) := by
  have hB := S.hB
  have hC := CS_mono a dd f d b
  obtain ⟨n1, n2, hl, vc, cv, k, h1, h2, h3, h4⟩ := S.isR r h
  have ht : PT X (isC r.p 0 r.c) (rdT G (CS a dd f d b) (wE E) (v0 r.c)) := t_val hB hC S.K (fun _ _ _ => rfl) (rdR_S hB hC (fun _ z => nomatch z) (S.isr h)) (fun _ => rfl)
  unfold rowI
  by_cases hk : b r.c = some true
  · rw [decide_eq_true hk, if_pos rfl]
    have hf := S.rf r h hk
    refine m_if hB hC ht (m_cons ?_ m_nil) m_nil
    refine m_app hB hC (S.vr (i := 3) rfl _ (by decide)) (pe_frz hB hC (p_lst hB hC (a_cons hB hC (pe_frz hB hC (p_con pe_str fun H => .str _)) (a_cons hB hC (pe_frz hB hC ?_) a_nil rfl) rfl))) rfl hl
    refine blt_call S.L hC (b := .repr) rfl (by kernel_rfl) (S.blt _ (by simp)).2 (S.blt _ (by simp)).1 (by decide) (by simp) (fun e he => by rw [List.mem_singleton] at he; subst he; rfl) S.cr (as_cons hB hC (rdR_S hB hC (fun _ z => nomatch z) ?_) as_nil rfl)
    rw [hf]
    exact p_fldP S.P S.T S.no S.bf fun q => S.vr (i := 0) rfl q (by decide)
  · rw [decide_eq_false hk, if_neg Bool.false_ne_true]
    exact m_if hB hC ht pss_dead m_nil
theorem CS_two {nm : Str} {x y : D} {Q : Rv → Prop} {E : XP} (z : CS a dd f d b nm [x, y] Q E) : False := by
  rcases z with ⟨_, e, _⟩ | ⟨_, _, e, _⟩ | ⟨_, bs, e, _⟩
  · cases e
  · cases e
  · cases e
theorem eqoF : EqoOk X G (CS a dd f d b) := ⟨fun pins s σ H x y v u Q I rx ry ⟨dx, dy, _, _, _, _, _, z⟩ => (CS_two z).elim, fun pins s σ H x y v u Q I rx ry ⟨dx, dy, _, _, _, _, _, z⟩ => (CS_two z).elim⟩
theorem SortX.ret (S : SortX X G sub a dd Dc f d b rows) {p : Nat → Pos} (hl : ((p 42).endLine == (p 44).line) = true) : PS X (retS p) (rdM G (CS a dd f d b) H0 E retI) := by
  have hB := S.hB
  have hC := CS_mono a dd f d b
  have cmp : ∀ {e1 e2 : Expr} {i1 i2 : Ex} {pos : Pos}, PE X e1 (rdS G (CS a dd f d b) (wE E) i1) → PE X e2 (rdS G (CS a dd f d b) (wE E) i2) → behindInMarks .Eq e2 = false → PT X (.Compare e1 [.Eq] [e2] pos) (rdT G (CS a dd f d b) (wE E) (.cmp .Eq i1 i2)) := by
    intro e1 e2 i1 i2 pos h1 h2 h3
    refine PT.imp (pt_cmpR (op_cmp S.K S.un (eqoF (a := a) (dd := dd) (f := f) (d := d) (b := b)) .Eq) h1 h2 h3) fun σ H Q ⟨r, re, tb, z⟩ => ?_
    refine s_bind hB hC re tb (LamX.ExtN.refl H) z fun dx x H1 rx x1 t1 z1 => s_bind hB hC (re.ext x1) t1 x1 z1 fun dy y H2 ry x2 t2 z2 => ?_
    exact ⟨dx, dy, rx.ext x2, ry, t2, cmpW_mono hC (fun b f H' x3 t3 => ⟨b, rfl, f _ ((x1.trans x2).trans x3) t3⟩) z2⟩
  have con : ∀ {e : Expr} {v : V} {x : D}, PE X e (tC v) → (∀ H, RD G.K H x v) → PE X e (rdS G (CS a dd f d b) (wE E) (.con x)) := fun h1 h2 => rdR_S hB hC (fun _ z => nomatch z) (p_con h1 h2)
  have var : ∀ {i : Nat} {x : Str} (q : Pos), sortN[i]? = some x → odd x = false → PE X (.Name x q) (rdS G (CS a dd f d b) (wE E) (.var i)) := fun q h1 h2 => p_varS (S.vr h1 q h2)
  refine m_ret hB hC (p_ite hB hC ?_ ?_ ?_)
  · refine (w_and hB hC ?_ (w_and hB hC ?_ (pw_and1 ?_))).pt
    · refine cmp (rdR_S hB hC (fun _ z => nomatch z) (blt_call S.L hC (b := .len) rfl (by kernel_rfl) (S.blt _ (by simp)).2 (S.blt _ (by simp)).1 (by decide) (by simp) (fun e he => by rw [List.mem_singleton] at he; subst he; rfl) S.cl (as_cons hB hC (var _ (i := 3) rfl (by decide)) as_nil rfl))) (con pe_int fun H => .int _) rfl
    · exact cmp (var _ (i := 1) rfl (by decide)) (var _ (i := 2) rfl (by decide)) rfl
    · exact cmp (rdR_S hB hC (fun _ z => nomatch z) (p_cntP S.K (S.vr (i := 1) rfl _ (by decide)) S.bn hl)) (con pe_int fun H => .int _) rfl
  · exact p_idx hB hC S.K (var _ (i := 3) rfl (by decide)) (con pe_int fun H => .int _) (fun _ _ => rfl)
  · exact p_lst hB hC (a_cons hB hC (pe_frz hB hC (p_con pe_str fun H => .str _)) (a_cons hB hC (pe_frz hB hC (p_con pe_str fun H => .str _)) a_nil rfl) rfl)
end
section
variable {X : Cx} {G : Cfg} {sub : Sub} {a dd Dc : Addr} {f : Str} {d : D} {b : Str → Option Bool} {rows : List SRow} {H0 : Hp} {E : XK}
theorem SortX.rest (S : SortX X G sub a dd Dc f d b rows) {p : Nat → Pos} (hl : ((p 42).endLine == (p 44).line) = true) : ∀ rs : List SRow, (∀ r ∈ rs, r ∈ rows) → PSs X (rs.map rowS ++ [retS p]) (rdMs G (CS a dd f d b) H0 E (smApp ((rs.map fun r => (decide (b r.c = some true), r.c)).map (fun c => rowI c.1 c.2) ++ [retI])))
  | [], _ => m_cons (S.ret hl) m_nil
  | r :: rs, h => m_cons (S.row (h r List.mem_cons_self)) (SortX.rest S hl rs fun x hx => h x (List.mem_cons_of_mem _ hx))
theorem SortX.all (S : SortX X G sub a dd Dc f d b rows) {p : Nat → Pos} (hl : ((p 42).endLine == (p 44).line) = true) : PSs X (sortB p rows) (rdMs G (CS a dd f d b) H0 E (sortI (rows.map fun r => (decide (b r.c = some true), r.c)))) := by
  have hB := S.hB
  have hC := CS_mono a dd f d b
  refine m_cons (m_set hB hC (S.asg (i := 1) rfl (p_lst hB hC (cons3 hB hC (S.is (by simp) p 1) (S.is (by simp) p 5) (S.is (by simp) p 9) rfl rfl rfl)) rfl)) ?_
  refine m_cons (m_set hB hC (S.asg (i := 2) rfl (p_lst hB hC (cons3 hB hC (S.is (by simp) p 16) (S.is (by simp) p 20) (S.is (by simp) p 24) rfl rfl rfl)) rfl)) ?_
  refine m_cons (m_own hB hC (S.asg (i := 3) rfl (p_lst hB hC a_nil) rfl)) ?_
  exact S.rest hl rows fun _ h => h
end
end En
namespace En
open PySem L2 PyProof.Rows TL
/-! Xa4: what the def that tells an error tells. -/
end En
namespace En
open PySem L2 PyProof.Rows TL
/-! Xa5: the def that tells an error, called within the except suite. -/
open PySem.Spec
def shw (d : D) : Prop := isShw d = true ∧ (toPy d).showable = true ∧ (toPy d).depth ≤ 60 ∧ (toPy d).shown.length ≤ sizeLine
end En
namespace En
open PySem L2 PyProof.Rows TL
/-! Xa6: a lambda handed to the def that answers. -/
open PySem.Spec LamX
end En
namespace En
open PySem L2 PyProof.Rows TL
/-! Xa7: a lambda made and called, where the guards are known. -/
open PySem.Spec LamX
/-! ### the lambdas of a law -/
end En
namespace En
open PySem L2 PyProof.Rows TL
/-! Xa8: the lambdas of a law, at all levels. -/
open PySem.Spec LamX
end En
namespace En
open PySem L2 PyProof.Rows TL
/-! Xh1: the head of a law whose defs make lambdas: the tables of their code objects are empty and out of the written part. -/
/-- the code object of a def and its table -/
def Df.tab (K : PySem.W.Frag) (d : Df) : Addr × Addr := match K.lookup (d.ad K) with
  | some ⟨_, _, .func fd, _⟩ => (match fd.code with
    | .ref c => (c, match K.lookup c with
      | some ⟨_, _, .fields vs, _⟩ => (match (vs[11]? : Option Value) with
        | some (.ref P) => P
        | _ => 0)
      | _ => 0)
    | _ => (0, 0))
  | _ => (0, 0)
structure SaysL (ex : PySem.W.Frag → Bool) (fn tf : List Df) (h : Heap) (K : PySem.W.Frag) : Prop where
  n : SaysN ex fn K
  hd : ∀ d ∈ tf, PySem.W.codeHdIn K (d.tab K).1 (d.tab K).2 = true
  out : ∀ d ∈ tf, K.lookup (d.tab K).2 = none
  empty : ∀ d ∈ tf, h.get? (d.tab K).2 = some { cls := .none, data := .fields #[] }
end En
namespace En
open PySem L2 PyProof.Rows TL
/-! Xh2: what is asked of the errors' classes, checked. -/
open PySem.Spec
/-- the tables of the defs, and the lambdas' names there -/
def tblOf (tf : List Df) (K : PySem.W.Frag) : List (Addr × Str) := tf.map fun d => ((d.tab K).2, (d.qual ++ ".<locals>.") ++ "<lambda>")
end En
namespace En
open PySem L2 PyProof.Rows TL
/-! Xh3: what the top leaves, from the library's own head in pieces. -/
theorem says_k {ex : PySem.W.Frag → Bool} {fn : List Df} {K : Params → PySem.W.Frag} {as : List Addr} {e : ∀ P, as = (K P).map (·.1)} {w : World} {h : Heap} (_ : (PySem.W.kHook K as e).says w h) (h1 : obsN ex fn (K w.params) = valN fn) : SaysL ex fn [] h (K w.params) where
  n := saysN_of h1
  hd := fun d hd => nomatch hd
  out := fun d hd => nomatch hd
  empty := fun d hd => nomatch hd
end En
/-! small forms of helpers of the laws, printed by a program of this repo; each law checks them against its text. -/
namespace En
end En
namespace En
open PySem L2 PyProof.Rows TL
/-! Av1: values of any kind. -/
mutual
def av (n : Nat) : D → Bool
  | .non => true
  | .bl _ => true
  | .int _ => true
  | .str s => decide (s.length ≤ 100) && PyData.strOk s
  | .tup xs => decide (xs.length ≤ n) && avs n xs
  | .lst xs => decide (xs.length ≤ n) && avs n xs
  | .dic kvs => noEk kvs
  | _ => false
def avs (n : Nat) : List D → Bool
  | [] => true
  | x :: r => av n x && avs n r
end
theorem avs_of {n : Nat} : ∀ {xs : List D}, (∀ x ∈ xs, av n x = true) → avs n xs = true
  | [], _ => rfl
  | x :: r, h => by
    show (av n x && avs n r) = true
    rw [h x List.mem_cons_self, avs_of fun y hy => h y (List.mem_cons_of_mem _ hy)]
    rfl
end En
namespace En
open PySem L2 PyProof.Rows TL
/-! Av2: names judged, by the program and by the law. -/
end En
namespace En
open PySem L2 PyProof.Rows TL
/-! Av3: the law's own judgement of names. -/
end En
namespace En
open PySem L2 PyProof.Rows TL
/-! Av4: values of any kind, drawn. -/
/-- draws alone -/
structure LgC (fs : List (Str × Fn)) (l : List (Str × Prim)) : Prop where
  noC : fs.lookup ("_law_cast" : Str) = none
  lC : l.lookup ("_law_cast" : Str) = some pCst
  any_of : fs.lookup ("_law_any_of" : Str) = some ⟨2, 2, lh_any_of⟩
theorem av_tup {n : Nat} {xs : List D} (h1 : xs.length ≤ n) (h2 : ∀ x ∈ xs, av n x = true) : av n (.tup xs) = true := by
  show (decide (xs.length ≤ n) && avs n xs) = true
  rw [decide_eq_true h1, avs_of h2]
  rfl
theorem av_lst {n : Nat} {xs : List D} (h1 : xs.length ≤ n) (h2 : ∀ x ∈ xs, av n x = true) : av n (.lst xs) = true := by
  show (decide (xs.length ≤ n) && avs n xs) = true
  rw [decide_eq_true h1, avs_of h2]
  rfl
section
variable {sub : Sub} {fs : List (Str × Fn)} {l : List (Str × Prim)} {G : Cfg} (hG : G.B = libW sub) (hm : ∀ k, MonoC (CW G fs l k)) (D' : LgC fs l)
include hG hm D'
theorem castC {k : Nat} {n : Int} (h0 : 0 < n) (h1 : n < 1073741824) {Q : Rv → Prop} {E : XP} (q : ∀ i : Int, 0 ≤ i → i < n → Q (.v (.int i))) : CW G fs l (k + 1) "_law_cast" [.pail, .int n] Q E := cw_prim_mk D'.noC D'.lC ⟨n, rfl, h0, h1, q⟩
end
end En
namespace En
open PySem L2 PyProof.Rows TL
/-! Av5: a value with one place in it put otherwise. -/
end En
namespace En
open PySem L2 PyProof.Rows TL
/-! Av6: drawn names; programs of wrong names. -/
end En
namespace En
open PySem L2 PyProof.Rows TL
/-! Av7: right names are good ones. -/
theorem lw_blt {sub : Sub} {C : Call} {b : Bf} {ds : List D} {Q : Rv → Prop} {E : XP} : (libW sub).blt C b ds Q E = bltW sub C b ds Q := rfl
theorem lw_mth {sub : Sub} : (libW sub).mth = mthW := rfl
theorem lw_mty {sub : Sub} : (libW sub).mty = mtyW := rfl
theorem lw_mok {sub : Sub} : (libW sub).mok = sub.mok := rfl
end En
/-! small forms of helpers of the laws, printed by a program of this repo; each law checks them against its text. -/
namespace En
end En
namespace En
open PySem L2 PyProof.Rows TL
/-! Av8: forms, sayings of any kind. -/
end En
namespace En
open PySem L2 PyProof.Rows TL
/-! Av9: the first wrong one of a row; sayings of any kind. -/
end En
namespace En
open PySem L2 PyProof.Rows TL
/-! Ava: sayings judged by the law; programs of wrong sayings. -/
end En
namespace En
open PySem L2 PyProof.Rows TL
/-! Avb: more of draws; answers. -/
theorem LgD.c {fs : List (Str × Fn)} {l : List (Str × Prim)} (D' : LgD fs l) : LgC fs l := ⟨D'.noC, D'.lC, D'.any_of⟩
theorem av_nm {n : Nat} {s : Str} (h : nmS s = true) : av n (.str s) = true := by
  show (decide (s.length ≤ 100) && PyData.strOk s) = true
  have := nmS_len h
  rw [decide_eq_true (by omega), Bool.true_and]
  have ha := asc_nm h
  unfold PyData.strOk
  rw [Array.all_eq_true']
  intro c hc
  exact decide_eq_true (by have := ha c (by simpa using hc); omega)
def turnsX (c : Int) (t : Nat) : Ex := .blt .all (.cons (.lc (.fn "_law_right" (.cons (.fn "_law_begun" (.cons (.var 0) (.cons (.var t) .nil))) .nil)) (.nm t) (.rng1 (.blt .max (.cons (.con (.int 2)) (.cons (.blt .min (.cons (.blt .len (.cons (.var 0) .nil)) (.cons (.con (.int c)) .nil))) .nil)))) .no [t]) .nil)
theorem turns_ok {sub : Sub} {fs : List (Str × Fn)} {l : List (Str × Prim)} {G : Cfg} {c : Int} {t : Nat} (h0 : c ≤ 60) (noB : fs.lookup ("_law_begun" : Str) = none) (lB : l.lookup ("_law_begun" : Str) = some pBeg)
    {k : Nat} (hr : ∀ (Q : Rv → Prop) (E : XP), Q (.v (.bl true)) → CW G fs l (k + 1) "_law_right" [.pail] Q E) {ns : List Int} (h1 : ns.length ≤ 63) (h2 : ∀ n ∈ ns, Builtin.Int.intBits n ≤ 1048576) {r : Env} (hr0 : r[0]? = some (some (.val (.lst (ns.map D.int))))) (ht : 0 < t) (hr1 : t < r.length) {Q : Rv → Prop} {E : XP} (q : Q (.v (.bl true))) : (evP (libW sub) (CW G fs l (k + 1)) (turnsX c t) r).R Q E := by
  obtain ⟨a, r', rfl⟩ : ∃ a r', r = a :: r' := by
    cases r with
    | nil => simp at hr0
    | cons a r' => exact ⟨a, r', rfl⟩
  obtain ⟨t, rfl⟩ : ∃ t', t = t' + 1 := ⟨t - 1, by omega⟩
  simp only [List.getElem?_cons_zero, Option.some.injEq] at hr0
  subst hr0
  unfold turnsX
  simp only [evR, evT, evS, evP, evAs, evO, evC, evI, evIF, evF, mkV, mkT, Rvd_v, Rvd_f, varW_z, varW_s, barW_z, barW_zo, barW_s, ex_bl, lw_blt, lw_mth, lw_mty, lw_mok, isi_i, isi_s, isi_t, eqW_i, fzE, fzV, slotOf, bindTg, bindTgs, wip, startD, List.map_cons, List.map_nil, List.replicate, List.length_cons, List.length_nil, List.cons_append, List.nil_append, List.set_cons_zero, List.set_cons_succ, Nat.reduceAdd, Nat.reduceSub, Nat.sub_self, Nat.add_sub_cancel, List.getElem?_cons_zero, List.getElem?_cons_succ, setAll, b_isi, b_lenL, b_lenT, b_lenS, b_lenO, b_all, b_any, b_tupL, b_tupT, b_lstL, b_lstT, b_strO, b_strI, b_strS, b_intI, b_intS, b_abs, b_min, b_max, b_sum, b_dvm, b_boolO, b_reprO, b_reprL, m_joinL, m_joinT, m_split, y_join, y_split, c_lt, c_le, c_gt, c_ge, c_is, c_isn, c_eq, c_ne, c_in, c_nin, i_str, i_tup, i_lst, t_bl, t_int, n_int, o_addI, o_addS, o_addT, o_addL, o_sub, o_mul, o_fdv, o_mod, o_pow, x_lst, x_tup, x_str, l_lst, l_tup, l_str, q_lst, q_tup, q_str, e_lst, e_tup, List.length_map]
  refine ⟨_, rfl, ?_⟩
  have hb : ∃ m : Nat, m ≤ 63 ∧ (if (if c < (ns.length : Int) then c else (ns.length : Int)) > 2 then (if c < (ns.length : Int) then c else (ns.length : Int)) else 2) = (m : Int) := by
    refine ⟨(if (if c < (ns.length : Int) then c else (ns.length : Int)) > 2 then (if c < (ns.length : Int) then c else (ns.length : Int)) else 2).toNat, ?_, ?_⟩
    · split <;> split <;> omega
    · split <;> split <;> omega
  obtain ⟨m, hm, e⟩ := hb
  rw [e]
  refine ⟨⟨by omega, by omega⟩, ?_⟩
  rw [Int.toNat_natCast, List.length_range]
  refine ⟨sl_le (by omega), ?_⟩
  refine fold_map2 (h := fun _ => D.bl true) (List.range m) _ (fun i hi acc K hk => ?_) ?_
  · have hi := List.mem_range.mp hi
    simp only [if_true]
    refine ⟨.int (i : Nat), ?_, ?_⟩
    · have ht2 : t < r'.length := by simpa using hr1
      rw [List.getElem?_set_self (by simpa using ht2)]
    refine cw_prim_mk (P := pBeg) noB lB ⟨ns, _, rfl, by omega, by omega, h1, h2, ?_⟩
    exact hr _ _ hk
  · refine ⟨_, unBl_map (f := fun _ => true) _, ?_⟩
    have : ((List.range m).map fun _ => true).all id = true := by simp
    rw [this]
    exact q
theorem sl0 : (0 ≤ sizeLine) = True := eq_true (sl_le (by omega))
theorem sl1 : (1 ≤ sizeLine) = True := eq_true (sl_le (by omega))
theorem sl2 : (2 ≤ sizeLine) = True := eq_true (sl_le (by omega))
theorem sl3 : (3 ≤ sizeLine) = True := eq_true (sl_le (by omega))
theorem sl4 : (4 ≤ sizeLine) = True := eq_true (sl_le (by omega))
theorem sl5 : (5 ≤ sizeLine) = True := eq_true (sl_le (by omega))
theorem sl6 : (6 ≤ sizeLine) = True := eq_true (sl_le (by omega))
theorem sl7 : (7 ≤ sizeLine) = True := eq_true (sl_le (by omega))
theorem sl8 : (8 ≤ sizeLine) = True := eq_true (sl_le (by omega))
theorem sl9 : (9 ≤ sizeLine) = True := eq_true (sl_le (by omega))
theorem sl10 : (10 ≤ sizeLine) = True := eq_true (sl_le (by omega))
theorem sl11 : (11 ≤ sizeLine) = True := eq_true (sl_le (by omega))
theorem sl12 : (12 ≤ sizeLine) = True := eq_true (sl_le (by omega))
theorem sl13 : (13 ≤ sizeLine) = True := eq_true (sl_le (by omega))
theorem sl14 : (14 ≤ sizeLine) = True := eq_true (sl_le (by omega))
theorem sl15 : (15 ≤ sizeLine) = True := eq_true (sl_le (by omega))
theorem sl16 : (16 ≤ sizeLine) = True := eq_true (sl_le (by omega))
theorem sl17 : (17 ≤ sizeLine) = True := eq_true (sl_le (by omega))
theorem sl18 : (18 ≤ sizeLine) = True := eq_true (sl_le (by omega))
theorem sl19 : (19 ≤ sizeLine) = True := eq_true (sl_le (by omega))
theorem sl20 : (20 ≤ sizeLine) = True := eq_true (sl_le (by omega))
end En
namespace En
open PySem L2 PyProof.Rows TL
/-! Avc: branches of any kind. -/
end En
namespace En
open PySem L2 PyProof.Rows TL
/-! Avd: branches judged in a row; programs of wrong branches. -/
end En
namespace En
open PySem L2 PyProof.Rows TL
/-! Ave: branches judged by the law. -/
end En
/-! small forms of more defs of the program, printed by a program of this repo; each law checks them against its text. -/
namespace En
end En
namespace En
open PySem L2 PyProof.Rows TL
/-! ### the value of a form at a point, the first test below 0, the point behind a branch -/
def ptD (p : List Int) : D := .tup (p.map D.int)
end En
namespace En
open PySem L2 PyProof.Rows TL
/-! ### what is asked is judged: programs, indexes, places, points -/
end En
namespace En
open PySem L2 PyProof.Rows TL
/-! ### branches taken, refused -/
end En
namespace En
open PySem L2 PyProof.Rows TL
/-! ### what is shown is a text; shown answers compared -/
abbrev wdS (s : Str) : Prop := sg (fun c => c < 0x110000) s
theorem wd_ok {s : Str} (h : wdS s) : PyData.strOk s = true := by
  unfold PyData.strOk
  rw [Array.all_eq_true_iff_forall_mem]
  intro c hc
  exact decide_eq_true (h c (by simpa [TL.tl] using hc))
theorem wd_of {s : Str} (h : PyData.strOk s = true) : wdS s := fun c hc => by
  unfold PyData.strOk at h
  rw [Array.all_eq_true_iff_forall_mem] at h
  exact of_decide_eq_true (h c (by simpa [TL.tl] using hc))
theorem wd_asc {s : Str} (h : asc s) : wdS s := fun c hc => by
  have := h c hc
  show c < 0x110000
  omega
theorem wd_join {y : Str} (hy : wdS y) {l : List Str} (h : ∀ x ∈ l, wdS x) : wdS (Str.join y l) := by
  rw [← join_eq]
  exact sg.join (p := fun c => c < 0x110000) hy h
theorem wd_app {s t : Str} (h1 : wdS s) (h2 : wdS t) : wdS (s ++ t) := sg.app (p := fun c => c < 0x110000) h1 h2
theorem rc_wd {q c : Nat} (hc : c < 0x110000) : ∀ x ∈ Builtin.Str.reprChar q c, x < 0x110000 := by
  have hx : ∀ w : Nat, ∀ x ∈ List.replicate (w - ((Nat.toDigits 16 c).map Char.toNat).length) 48 ++ (Nat.toDigits 16 c).map Char.toNat, x < 0x110000 := fun w x hx => by
    rcases List.mem_append.mp hx with z | z
    · rw [(List.mem_replicate.mp z).2]
      omega
    · obtain ⟨ch, _, rfl⟩ := List.mem_map.mp z
      have := ch.valid
      unfold UInt32.isValidChar Nat.isValidChar at this
      show ch.val.toNat < 0x110000
      omega
  have two : ∀ a b : Nat, a < 0x110000 → b < 0x110000 → ∀ x ∈ [a, b], x < 0x110000 := fun a b h1 h2 x hx => by
    simp only [List.mem_cons, List.not_mem_nil, or_false] at hx
    rcases hx with rfl | rfl
    · exact h1
    · exact h2
  intro x h
  unfold Builtin.Str.reprChar at h
  simp only at h
  split at h
  · exact two _ _ (by omega) hc x h
  · split at h
    · exact two _ _ (by omega) (by omega) x h
    · split at h
      · exact two _ _ (by omega) (by omega) x h
      · split at h
        · exact two _ _ (by omega) (by omega) x h
        · split at h
          · rw [List.mem_singleton] at h
            rw [h]
            exact hc
          · split at h
            · rcases List.mem_append.mp h with z | z
              · exact two _ _ (by omega) (by omega) x z
              · exact hx _ x z
            · split at h
              · rcases List.mem_append.mp h with z | z
                · exact two _ _ (by omega) (by omega) x z
                · exact hx _ x z
              · rcases List.mem_append.mp h with z | z
                · exact two _ _ (by omega) (by omega) x z
                · exact hx _ x z
theorem fold_wd {q : Nat} : ∀ (l : List Nat) (acc : Array Nat), (∀ c ∈ l, c < 0x110000) → (∀ c ∈ acc.toList, c < 0x110000) → ∀ c ∈ (l.foldl (fun out c => out ++ (Builtin.Str.reprChar q c).toArray) acc).toList, c < 0x110000
  | [], acc, _, h => h
  | x :: r, acc, hl, h => by
    rw [List.foldl_cons]
    refine fold_wd r _ (fun c hc => hl c (List.mem_cons_of_mem _ hc)) fun c hc => ?_
    rw [Array.toList_append] at hc
    rcases List.mem_append.mp hc with z | z
    · exact h c z
    · exact rc_wd (hl x List.mem_cons_self) c (by simpa using z)
theorem rt_wd {s : Str} (h : wdS s) : wdS (reprText s) := by
  intro c hc
  have hq : reprQuote s < 0x110000 := by
    unfold reprQuote
    split <;> omega
  have hc : c ∈ ((s.cps.foldl (fun out c => out ++ (Builtin.Str.reprChar (reprQuote s) c).toArray) #[reprQuote s]).push (reprQuote s)).toList := hc
  rw [Array.toList_push, ← Array.foldl_toList] at hc
  rcases List.mem_append.mp hc with z | z
  · exact fold_wd s.cps.toList _ (fun c hc => h c hc) (fun c hc => by
      have : c = reprQuote s := by simpa using hc
      rw [this]
      exact hq) c z
  · rw [List.mem_singleton] at z
    rw [z]
    exact hq
mutual
theorem shown_wd : ∀ d : PyData, d.canLay0 = true → wdS d.shown
  | .none, _ => by
    rw [PyData.shown_none]
    exact wd_asc (lit_asc rfl)
  | .bool b, _ => by
    rw [PyData.shown_bool]
    cases b
    · exact wd_asc (lit_asc rfl)
    · exact wd_asc (lit_asc rfl)
  | .int i, _ => by
    rw [PyData.shown_int]
    exact wd_asc (asc_num i)
  | .str x, h => by
    rw [PyData.shown_str]
    exact rt_wd (wd_of h)
  | .list xs, h => by
    rw [PyData.shown_list]
    exact wd_app (wd_app (wd_asc (lit_asc rfl)) (wd_join (wd_asc (lit_asc rfl)) (shownAll_wd xs h))) (wd_asc (lit_asc rfl))
  | .tuple xs, h => by
    rw [PyData.shown_tuple]
    refine wd_app (wd_app (wd_asc (lit_asc rfl)) (wd_join (wd_asc (lit_asc rfl)) (shownAll_wd xs h))) ?_
    split
    · exact wd_asc (lit_asc rfl)
    · exact wd_asc (lit_asc rfl)
  | .dict _, h => by cases h
theorem shownAll_wd : ∀ ds : List PyData, PyData.canLayAll0 ds = true → ∀ x ∈ PyData.shownAll ds, wdS x
  | [], _ => fun x hx => by
    simp only [PyData.shownAll] at hx
    cases hx
  | d :: ds, h => fun x hx => by
    simp only [PyData.shownAll] at hx
    obtain ⟨h1, h2⟩ := He.ba (show (d.canLay0 && PyData.canLayAll0 ds) = true from h)
    rcases List.mem_cons.mp hx with rfl | z
    · exact shown_wd d h1
    · exact shownAll_wd ds h2 x z
end
mutual
theorem av_lay {n : Nat} : ∀ d, av n d = true → isDat d = true → (toPy d).canLay0 = true
  | .non, _, _ => rfl
  | .bl _, _, _ => rfl
  | .int _, _, _ => rfl
  | .str s, h, _ => (He.ba (show (decide (s.length ≤ 100) && PyData.strOk s) = true from h)).2
  | .tup xs, h, d => by
    have h := (He.ba (show (decide (xs.length ≤ n) && avs n xs) = true from h)).2
    unfold isDat at d
    show (toPy (.tup xs)).canLay0 = true
    unfold toPy
    exact avs_lay xs h d
  | .lst xs, h, d => by
    have h := (He.ba (show (decide (xs.length ≤ n) && avs n xs) = true from h)).2
    unfold isDat at d
    show (toPy (.lst xs)).canLay0 = true
    unfold toPy
    exact avs_lay xs h d
theorem avs_lay {n : Nat} : ∀ ds, avs n ds = true → isDats ds = true → PyData.canLayAll0 (toPys ds) = true
  | [], _, _ => by
    unfold toPys
    rfl
  | x :: r, h, d => by
    obtain ⟨h1, h2⟩ := He.ba (show (av n x && avs n r) = true from h)
    obtain ⟨d1, d2⟩ := He.ba (show (isDat x && isDats r) = true from d)
    unfold toPys
    show ((toPy x).canLay0 && PyData.canLayAll0 (toPys r)) = true
    rw [av_lay x h1 d1, avs_lay r h2 d2]
    rfl
end
def ansOk (c t : Str) : Prop := PyData.strOk c = true ∧ PyData.strOk t = true
end En
/-! small forms of helpers of the laws, printed by a program of this repo; each law checks them against its text. -/
namespace En
end En
namespace En
open PySem L2 PyProof.Rows TL
/-! ### small drawn programs -/
/-- a form with numbers up to b -/
def smF (b : Int) (m : Nat) (f : List Int) : Prop := f.length = m + 1 ∧ ∀ c ∈ f, -b ≤ c ∧ c ≤ b
theorem smF.le {b b' : Int} {m : Nat} {f : List Int} (h : smF b m f) (hb : b ≤ b') : smF b' m f := ⟨h.1, fun c hc => by have := h.2 c hc; omega⟩
theorem smF.at {b : Int} {m i : Nat} {f : List Int} (h : smF b m f) (hb : 0 ≤ b) : -b ≤ f.getD i 0 ∧ f.getD i 0 ≤ b := by
  rw [List.getD_eq_getElem?_getD]
  cases e : f[i]? with
  | none => exact ⟨by show -b ≤ 0; omega, by show 0 ≤ b; omega⟩
  | some c => exact h.2 c (List.mem_of_getElem? e)
end En
namespace En
open PySem L2 PyProof.Rows TL
/-! ### small drawn programs, whole; points; this law's sums -/
end En
namespace En
open PySem L2 PyProof.Rows TL
/-! ### drawn points; the laws' sums -/
/-- a point with numbers up to b -/
def ptB (b : Int) (m : Nat) (p : List Int) : Prop := p.length = m ∧ ∀ c ∈ p, -b ≤ c ∧ c ≤ b
theorem ptB.le {b b' : Int} {m : Nat} {f : List Int} (h : ptB b m f) (hb : b ≤ b') : ptB b' m f := ⟨h.1, fun c hc => by have := h.2 c hc; omega⟩
end En
namespace En
open PySem L2 PyProof.Rows TL
/-! ### a program built, by little -/
structure LgB (fs : List (Str × Fn)) : Prop where
  words : fs.lookup ("_law_words" : Str) = some ⟨1, 2, lh_words⟩
  arm_lines : fs.lookup ("_law_arm_lines" : Str) = some ⟨1, 8, lh_arm_lines⟩
  lines : fs.lookup ("_law_lines" : Str) = some ⟨1, 5, lh_lines⟩
  sheet : fs.lookup ("_law_sheet" : Str) = some ⟨1, 1, lh_sheet⟩
  built : fs.lookup ("_law_built" : Str) = some ⟨2, 3, lh_built⟩
section
variable {fs : List (Str × Fn)} {l : List (Str × Prim)} {G : Cfg} (hG : G.B = libW subP) (hm : ∀ k, MonoC (CW G fs l k)) (H : PfH fs) (P : PlH G.B fs l) (D' : LgC fs l) (B : LgB fs)
include hG hm H P D' B
theorem built_c {k : Nat} {ns : List Str} {ss : List Say} {as : List Arm} (g : Good ns ss as) {Q : Rv → Prop} {E : XP} (q : Q (.v (progD ns ss as))) : CW G fs l (k + 10) "_law_built" [.pail, .lst (partsD ns ss as)] Q E := by
  refine cw_fn_mk B.built rfl ?_
  rw [hG]
  unfold lh_built
  simp only [exSs, exS, evR, evT, evS, evP, evAs, evO, evC, evI, evIF, evF, mkV, mkT, Rvd_v, Rvd_f, varW_z, varW_s, barW_z, barW_zo, barW_s, ex_bl, libW, isi_i, isi_s, isi_t, eqW_i, fzE, fzV, slotOf, bindTg, bindTgs, wip, startD, List.map_cons, List.map_nil, List.replicate, List.length_cons, List.length_nil, List.cons_append, List.nil_append, List.set_cons_zero, List.set_cons_succ, Nat.reduceAdd, Nat.reduceSub, Nat.sub_self, Nat.add_sub_cancel, List.getElem?_cons_zero, List.getElem?_cons_succ, setAll, b_isi, b_lenL, b_lenT, b_lenS, b_lenO, b_all, b_any, b_tupL, b_tupT, b_lstL, b_lstT, b_strO, b_strI, b_strS, b_intI, b_intS, b_abs, b_min, b_max, b_sum, b_dvm, b_boolO, b_reprO, b_reprL, m_joinL, m_joinT, m_split, y_join, y_split, c_lt, c_le, c_gt, c_ge, c_is, c_isn, c_eq, c_ne, c_in, c_nin, i_str, i_tup, i_lst, t_bl, t_int, n_int, o_addI, o_addS, o_addT, o_addL, o_sub, o_mul, o_fdv, o_mod, o_pow, x_lst, x_tup, x_str, l_lst, l_tup, l_str, q_lst, q_tup, q_str, e_lst, e_tup]
  refine castC hG hm D' (by decide) (by decide) fun w h2 h3 => ?_
  simp only [exSs, exS, evR, evT, evS, evP, evAs, evO, evC, evI, evIF, evF, mkV, mkT, Rvd_v, Rvd_f, varW_z, varW_s, barW_z, barW_zo, barW_s, ex_bl, libW, isi_i, isi_s, isi_t, eqW_i, fzE, fzV, slotOf, bindTg, bindTgs, wip, startD, List.map_cons, List.map_nil, List.replicate, List.length_cons, List.length_nil, List.cons_append, List.nil_append, List.set_cons_zero, List.set_cons_succ, Nat.reduceAdd, Nat.reduceSub, Nat.sub_self, Nat.add_sub_cancel, List.getElem?_cons_zero, List.getElem?_cons_succ, setAll, b_isi, b_lenL, b_lenT, b_lenS, b_lenO, b_all, b_any, b_tupL, b_tupT, b_lstL, b_lstT, b_strO, b_strI, b_strS, b_intI, b_intS, b_abs, b_min, b_max, b_sum, b_dvm, b_boolO, b_reprO, b_reprL, m_joinL, m_joinT, m_split, y_join, y_split, c_lt, c_le, c_gt, c_ge, c_is, c_isn, c_eq, c_ne, c_in, c_nin, i_str, i_tup, i_lst, t_bl, t_int, n_int, o_addI, o_addS, o_addT, o_addL, o_sub, o_mul, o_fdv, o_mod, o_pow, x_lst, x_tup, x_str, l_lst, l_tup, l_str, q_lst, q_tup, q_str, e_lst, e_tup]
  by_cases h0 : w = 0
  · rw [decide_eq_true h0]
    refine ift ?_
    exact ⟨nmsD ns, rfl, sysD ss, rfl, armsD as, rfl, init_ok hG H P hm g q⟩
  · rw [decide_eq_false h0]
    refine iff_ ?_
    by_cases h1 : w = 1
    · rw [decide_eq_true h1]
      refine ift ?_
      exact ⟨armsD as, rfl, nmsD ns, rfl, sysD ss, rfl, init_ok hG H P hm g q⟩
    · rw [decide_eq_false h1]
      refine iff_ ⟨subP_read, ?_⟩
      refine sheet_ok hG hm B.words B.arm_lines B.lines B.sheet g ?_
      exact read_ok hG H P hm g q
end
end En
namespace En
open PySem L2 PyProof.Rows TL
/-! ### all tests of a branch -/
end En
namespace En
open PySem L2 PyProof.Rows TL
/-! ### values shown, of any kind -/
/-- a value that is told by an error -/
structure Odd (n : Nat) (d : D) : Prop where
  av : av n d = true
  sh : shw d
  ok : PyData.strOk (toPy d).shown = true
theorem shw_of {d : D} {a b : Nat} (z : Sz d a b) (ha : a ≤ 50) (hb : b ≤ 100000) : shw d := by
  refine ⟨?_, z.shw, by have := z.dp; omega, fits120 z.sh (by have := z.wt; omega)⟩
  have := z.dat
  cases d <;> first
    | exact this
    | cases this
theorem Odd.of_sz {n : Nat} {d : D} {a b : Nat} (z : Sz d a b) (hv : En.av n d = true) (ha : a ≤ 50) (hb : b ≤ 100000) : Odd n d := ⟨hv, shw_of z ha hb, wd_ok (shown_wd _ (av_lay d hv z.dat))⟩
end En
namespace En
open PySem L2 PyProof.Rows TL
/-! ### walks -/
end En
namespace En
open PySem L2 PyProof.Rows TL
/-! ### walks, whole -/
end En
namespace En
open PySem L2 PyProof.Rows TL
/-! ### values that are told, made of points and names -/
theorem Sz.ints {p : List Int} {c : Int} {n : Nat} (hl : p.length ≤ n) (h : ∀ i ∈ p, -c ≤ i ∧ i ≤ c) (hc : c < 10 ^ 118) : Szs (p.map D.int) 0 (n * 401) :=
  Szs.mapN (fun i hi => Sz.big (by have := h i hi; omega)) hl
theorem av_ints' {n : Nat} {p : List Int} : ∀ x ∈ p.map D.int, av n x = true := fun x hx => by
  obtain ⟨i, _, rfl⟩ := List.mem_map.mp hx
  rfl
theorem Odd.pt {p : List Int} {c : Int} (hl : p.length ≤ 10) (h : ∀ i ∈ p, -c ≤ i ∧ i ≤ c) (hc : c < 10 ^ 118) : Odd 10 (ptD p) :=
  Odd.of_sz (Sz.tup (Sz.ints hl h hc)) (av_tup (by rw [List.length_map]; exact hl) av_ints') (by omega) (by omega)
theorem Odd.pl {p : List Int} {c : Int} (hl : p.length ≤ 10) (h : ∀ i ∈ p, -c ≤ i ∧ i ≤ c) (hc : c < 10 ^ 118) : Odd 10 (.lst (p.map D.int)) :=
  Odd.of_sz (Sz.lst (Sz.ints hl h hc)) (av_lst (by rw [List.length_map]; exact hl) av_ints') (by omega) (by omega)
theorem Odd.rep {n : Nat} {d : D} (hn : n ≤ 3) (h : En.av 10 d = true) {a b : Nat} (z : Sz d a b) (ha : a ≤ 10) (hb : b ≤ 1000) : Odd 10 (.tup (List.replicate n d)) := by
  have e : List.replicate n d = (List.replicate n ()).map fun _ => d := by rw [List.map_replicate]
  have zs : Szs (List.replicate n d) a (n * (b + 1)) := by
    rw [e]
    exact Szs.mapN (fun _ _ => z) (by rw [List.length_replicate]; omega)
  have hm : n * (b + 1) ≤ 3 * (b + 1) := Nat.mul_le_mul_right _ hn
  exact Odd.of_sz (Sz.tup zs) (av_tup (by rw [List.length_replicate]; omega) fun x hx => by rw [(List.mem_replicate.mp hx).2]; exact h) (by omega) (by omega)
theorem Odd.int {i : Int} (h1 : -1000000 ≤ i) (h2 : i ≤ 1000000) : Odd 10 (.int i) := Odd.of_sz (Sz.int h1 h2) rfl (by omega) (by omega)
theorem Odd.nm {s : Str} (h : nmS s = true) : Odd 10 (.str s) := Odd.of_sz (Sz.str (asc_nm h) (nmS_len h)) (av_nm h) (by omega) (by omega)
theorem Odd.ans {n : Nat} {d : D} (h : Odd n d) {c : Str} (hc : PyData.strOk c = true) : ansOk c (toPy d).shown := ⟨hc, h.ok⟩
theorem plc_mem {xs : List Str} {y : Str} : y ∈ plc xs ↔ y ∈ xs := by
  unfold plc
  rw [plcGo_mem]
  simp
theorem Good.plc_ne {ns : List Str} {ss : List Say} {as : List Arm} (g : Good ns ss as) : plc (spots ss as) ≠ [] := fun e => by
  obtain ⟨a, r, rfl⟩ : ∃ a r, as = a :: r := by
    cases as with
    | nil => exact absurd rfl g.a1
    | cons a r => exact ⟨a, r, rfl⟩
  have : a.1 ∈ plc (spots ss (a :: r)) := plc_mem.mpr (by simp [spots])
  rw [e] at this
  cases this
end En
namespace En
open PySem L2 PyProof.Rows TL
/-! ### what is used of walks and steps, once more -/
/-! bounds -/
theorem Sz.pt {n : Nat} {p : List Int} {c : Int} (hp : ptB c n p) (hn : n ≤ 3) (hc : c < 10 ^ 118) : Sz (ptD p) 1 1203 :=
  (Sz.tup (Szs.mapN (n := 3) (fun i hi => Sz.big (by have := hp.2 i hi; omega)) (by have := hp.1; omega))).le (Nat.le_refl _) (by omega)
end En
/-! small forms of helpers of the laws, printed by a program of this repo; each law checks them against its text. -/
namespace En
/-- 1, 6 -/
def k08_right : Sms := (.cons (.forr (.nm 1) (.rng1 (.con (.int 10))) (.cons (.set 2 (.fn "_law_parts" (.cons (.var 0) .nil))) (.cons (.set 3 (.fn "_law_built" (.cons (.var 0) (.cons (.var 2) .nil)))) (.cons (.set 4 (.lst (.cons (.idx (.var 2) (.con (.int 0))) (.cons (.rev (.idx (.var 2) (.con (.int 1)))) (.cons (.rev (.idx (.var 2) (.con (.int 2)))) .nil))))) (.cons (.set 5 (.fn "Program" (.cons (.idx (.var 4) (.con (.int 0))) (.cons (.idx (.var 4) (.con (.int 1))) (.cons (.idx (.var 4) (.con (.int 2))) .nil))))) (.cons (.iff (.cmp .NotEq (.blt .repr (.cons (.lst (.cons (.att (.var 3) "places") (.cons (.att (.var 5) "places") .nil))) .nil)) (.blt .repr (.cons (.lst (.cons (.fn "_law_spots" (.cons (.var 2) .nil)) (.cons (.fn "_law_spots" (.cons (.var 4) .nil)) .nil))) .nil))) (.cons (.ret (.con (.bl false))) .nil) .nil) (.cons (.iff (.or (.cmp .NotEq (.blt .sorted (.cons (.att (.var 3) "places") .nil)) (.blt .sorted (.cons (.att (.var 5) "places") .nil))) (.not (.chn .Lt .Lt (.con (.int 0)) (.blt .len (.cons (.att (.var 3) "places") .nil)) (.con (.int 4))))) (.cons (.ret (.con (.bl false))) .nil) .nil) .nil))))))) (.cons (.ret (.con (.bl true))) .nil))
/-- 1, 5 -/
def k08_law : Sms := (.cons (.unp (.cons (.nm 1) (.cons (.nm 2) .nil)) (.tup (.cons (.tup (.cons (.con (.int 1)) (.cons (.con (.int 0)) .nil))) (.cons (.tup (.cons (.tup (.cons (.con (.int 1)) (.cons (.neg (.con (.int 1))) .nil))) .nil)) .nil)))) (.cons (.set 3 (.fn "Program" (.cons (.tup (.cons (.con (.str "a")) .nil)) (.cons (.tup (.cons (.tup (.cons (.con (.str "c")) (.cons (.var 1) .nil))) .nil)) (.cons (.tup (.cons (.tup (.cons (.con (.str "b")) (.cons (.con (.str "a")) (.cons (.tup .nil) (.cons (.var 2) .nil))))) (.cons (.tup (.cons (.con (.str "a")) (.cons (.con (.str "c")) (.cons (.tup .nil) (.cons (.var 2) .nil))))) .nil))) .nil))))) (.cons (.iff (.or (.cmp .NotEq (.att (.var 3) "places") (.tup (.cons (.con (.str "c")) (.cons (.con (.str "b")) (.cons (.con (.str "a")) .nil))))) (.cmp .NotEq (.att (.fn "Program" (.cons (.tup (.cons (.con (.str "a")) .nil)) (.cons (.tup .nil) (.cons (.tup (.cons (.tup (.cons (.con (.str "b")) (.cons (.con (.str "a")) (.cons (.tup .nil) (.cons (.var 2) .nil))))) .nil)) .nil)))) "places") (.tup (.cons (.con (.str "b")) (.cons (.con (.str "a")) .nil))))) (.cons (.ret (.con (.bl false))) .nil) .nil) (.cons (.ret (.blt .all (.cons (.lc (.fn "_law_right" (.cons (.fn "_law_begun" (.cons (.var 0) (.cons (.var 4) .nil))) .nil)) (.nm 4) (.rng1 (.blt .max (.cons (.con (.int 2)) (.cons (.blt .min (.cons (.blt .len (.cons (.var 0) .nil)) (.cons (.con (.int 5)) .nil))) .nil)))) .no [4]) .nil))) .nil))))
end En
namespace En
open PySem L2 PyProof.Rows TL
/-! ### law k08: places in their order -/
theorem lc_tr : ∀ {a b c : List Nat}, PySem.Spec.ltCps b a = false → PySem.Spec.ltCps c b = false → PySem.Spec.ltCps c a = false
  | [], _, [], _, _ => rfl
  | [], _, _ :: _, _, _ => rfl
  | _ :: _, [], _, h, _ => by simp [PySem.Spec.ltCps] at h
  | _ :: _, _ :: _, [], _, h => by simp [PySem.Spec.ltCps] at h
  | x :: a, y :: b, z :: c, h1, h2 => by
    simp only [PySem.Spec.ltCps, Bool.or_eq_false_iff, Bool.and_eq_false_iff, decide_eq_false_iff_not, beq_eq_false_iff_ne] at h1 h2 ⊢
    refine ⟨by omega, ?_⟩
    by_cases hz : z = x
    · have hy : y = x := by omega
      right
      rcases h1.2 with w | w
      · exact absurd hy w
      · rcases h2.2 with u | u
        · exact absurd (hz.trans hy.symm) u
        · exact lc_tr w u
    · exact .inl hz
theorem lc_as : ∀ {a b : List Nat}, PySem.Spec.ltCps a b = false → PySem.Spec.ltCps b a = false → a = b
  | [], [], _, _ => rfl
  | [], _ :: _, h, _ => by simp [PySem.Spec.ltCps] at h
  | _ :: _, [], _, h => by simp [PySem.Spec.ltCps] at h
  | x :: a, y :: b, h1, h2 => by
    simp only [PySem.Spec.ltCps, Bool.or_eq_false_iff, Bool.and_eq_false_iff, decide_eq_false_iff_not, beq_eq_false_iff_ne] at h1 h2
    have e : x = y := by omega
    rcases h1.2 with w | w
    · exact absurd e w
    · rcases h2.2 with u | u
      · exact absurd e.symm u
      · rw [e, lc_as w u]
def leS (a b : Str) : Prop := PySem.Spec.ltCps b.cps.toList a.cps.toList = false
theorem leS_as {a b : Str} (h1 : leS a b) (h2 : leS b a) : a = b := by
  have e := lc_as h2 h1
  obtain ⟨⟨a⟩⟩ := a
  obtain ⟨⟨b⟩⟩ := b
  simp only at e
  rw [e]
theorem rs_pw : ∀ (l : List Str) (p : Str), risingS p l = true → (p :: l).Pairwise leS
  | [], p, _ => List.pairwise_singleton _ _
  | x :: r, p, h => by
    obtain ⟨h1, h2⟩ := He.ba (show (!PySem.Spec.ltCps x.cps.toList p.cps.toList && risingS x r) = true from h)
    have ih := rs_pw r x h2
    have hx : leS p x := by
      unfold leS
      simpa using h1
    refine List.pairwise_cons.mpr ⟨fun y hy => ?_, ih⟩
    rcases List.mem_cons.mp hy with rfl | z
    · exact hx
    · exact lc_tr hx ((List.pairwise_cons.mp ih).1 y z)
theorem sortedS_pw {l : List Str} (h : sortedS l = true) : l.Pairwise leS := by
  cases l with
  | nil => exact .nil
  | cons x r => exact rs_pw r x h
theorem pw_eq : ∀ {l m : List Str}, l.Pairwise leS → m.Pairwise leS → l.Perm m → l = m
  | [], m, _, _, p => by rw [List.nil_perm.mp p]
  | a :: r, m, hl, hm, p => by
    cases m with
    | nil => exact absurd p.length_eq (by simp)
    | cons b s =>
      have e : a = b := by
        have ha : a ∈ b :: s := p.subset List.mem_cons_self
        have hb : b ∈ a :: r := p.symm.subset List.mem_cons_self
        rcases List.mem_cons.mp ha with z | z
        · exact z
        · rcases List.mem_cons.mp hb with w | w
          · exact w.symm
          · exact leS_as ((List.pairwise_cons.mp hl).1 b w) ((List.pairwise_cons.mp hm).1 a z)
      subst e
      rw [pw_eq (List.pairwise_cons.mp hl).2 (List.pairwise_cons.mp hm).2 p.cons_inv]
theorem plcGo_nd : ∀ (xs acc : List Str), acc.Nodup → (plcGo acc xs).Nodup
  | [], acc, h => h
  | x :: xs, acc, h => by
    show (plcGo (if x ∈ acc then acc else acc ++ [x]) xs).Nodup
    split
    · exact plcGo_nd xs acc h
    · rename_i hx
      refine plcGo_nd xs _ (List.nodup_append.mpr ⟨h, by simp, fun a ha b hb => ?_⟩)
      rw [List.mem_singleton.mp hb]
      exact fun e => hx (e ▸ ha)
theorem plc_nd (xs : List Str) : (plc xs).Nodup := plcGo_nd xs [] List.nodup_nil
theorem spots_rev {ss : List Say} {as : List Arm} {s : Str} : s ∈ spots ss.reverse as.reverse ↔ s ∈ spots ss as := by
  simp only [spots, List.mem_append, List.mem_map, List.mem_reverse, List.mem_flatMap]
theorem plc_rev (ss : List Say) (as : List Arm) : (plc (spots ss.reverse as.reverse)).Perm (plc (spots ss as)) :=
  (List.perm_ext_iff_of_nodup (plc_nd _) (plc_nd _)).mpr fun s => by rw [plc_mem, plc_mem, spots_rev]
theorem Good.rev {ns : List Str} {ss : List Say} {as : List Arm} (g : Good ns ss as) : Good ns ss.reverse as.reverse where
  n1 := g.n1
  n2 := g.n2
  n3 := g.n3
  n4 := g.n4
  s1 := by rw [List.length_reverse]; exact g.s1
  s2 := fun s hs => g.s2 s (List.mem_reverse.mp hs)
  a1 := fun e => g.a1 (List.reverse_eq_nil_iff.mp e)
  a2 := by rw [List.length_reverse]; exact g.a2
  a3 := fun a ha => g.a3 a (List.mem_reverse.mp ha)
  p := by rw [(plc_rev ss as).length_eq]; exact g.p
theorem strs_lay : ∀ {zs : List Str}, (∀ s ∈ zs, PyData.strOk s = true) → PyData.canLayAll0 (toPys (zs.map D.str)) = true ∧ isDats (zs.map D.str) = true ∧ PyData.depthAll (toPys (zs.map D.str)) = 0
  | [], _ => ⟨by unfold List.map toPys; rfl, rfl, by unfold List.map toPys; rfl⟩
  | s :: r, h => by
    obtain ⟨a, b, c⟩ := strs_lay fun x hx => h x (List.mem_cons_of_mem _ hx)
    refine ⟨?_, ?_, ?_⟩
    · rw [List.map_cons]
      unfold toPys
      show (PyData.strOk s && PyData.canLayAll0 (toPys (r.map D.str))) = true
      rw [h s List.mem_cons_self, a]
      rfl
    · rw [List.map_cons]
      show (true && isDats (r.map D.str)) = true
      rw [b]
      rfl
    · rw [List.map_cons]
      unfold toPys
      show max 0 (PyData.depthAll (toPys (r.map D.str))) = 0
      rw [c]
      rfl
theorem eq_strs {C : Call} {zs : List Str} (h : ∀ s ∈ zs, PyData.strOk s = true) {F : Bool → Prop} (q : F true) : eqW C (.lst (zs.map D.str)) (.lst (zs.map D.str)) F := by
  obtain ⟨a, b, c⟩ := strs_lay h
  have hl : (toPy (.lst (zs.map D.str))).canLay0 = true := a
  have hs : SeqAt.shaped (toPy (.lst (zs.map D.str))) = true := by
    have hd : (toPy (.lst (zs.map D.str))).depth ≤ 64 := by
      show PyData.depthAll (toPys (zs.map D.str)) + 1 ≤ 64
      rw [c]
      omega
    show ((toPy (.lst (zs.map D.str))).canLay0 && decide ((toPy (.lst (zs.map D.str))).depth ≤ 64)) = true
    rw [hl, decide_eq_true hd]
    rfl
  refine .inr (.inl ⟨b, b, hs, hs, ?_⟩)
  rw [SeqAt.eqv_refl _ hl]
  exact q
theorem b_srt {sub : Sub} {C : Call} {zs : List Str} (h : zs.length < 64) {Q : Rv → Prop} (q : ∀ ys : List Str, ys.Perm zs → sortedS ys = true → Q (.fr (ys.map D.str))) : bltW sub C .sorted [nmsD zs] Q := ⟨zs, unStr_map zs, h, q⟩
section
variable {fs : List (Str × Fn)} {l : List (Str × Prim)} {G : Cfg} (hG : G.B = libW subP) (hm : ∀ k, MonoC (CW G fs l k)) (H : PfH fs) (P : PlH G.B fs l)
include hG hm H P
theorem k08_right_ok (D' : LgD fs l) (B : LgB fs) (hpa : fs.lookup ("_law_parts" : Str) = some ⟨1, 10, lh_parts⟩) (hsp : fs.lookup ("_law_spots" : Str) = some ⟨1, 5, lh_spots⟩) (hr : fs.lookup ("_law_right" : Str) = some ⟨1, 6, k08_right⟩) {k : Nat} {Q : Rv → Prop} {E : XP} (q : Q (.v (.bl true))) : CW G fs l (k + 12) "_law_right" [.pail] Q E := by
  have hB : (libW subP).Mono := libW_mono subP
  refine cw_fn_mk hr rfl ?_
  rw [hG]
  unfold k08_right
  refine ss_c ?_
  unfold exS
  simp only [evIF, evI, evP]
  refine ⟨10, rfl, ⟨by omega, by omega⟩, ?_⟩
  refine for_inv (fun i r => ∃ a b c d e, r = [some (.val .pail), a, b, c, d, e]) ⟨_, _, _, _, _, rfl⟩ (fun i x r hxi hp K hk => ?_) fun r hp => ?_
  · obtain ⟨_, b, c, d, e, rfl⟩ := hp
    show exSs _ _ _ _ [some (.val .pail), some (.val x), b, c, d, e] _
    refine ss_c (s_setP hB (hm _) (F := fun x => ∃ ns ss as, x.d = .lst (partsD ns ss as) ∧ Good ns ss as) ?_ fun y hy => ?_)
    · simp only [evR, evT, evS, evP, evAs, evO, evC, evI, evIF, evF, mkV, mkT, Rvd_v, Rvd_f, varW_z, varW_s, barW_z, barW_zo, barW_s, ex_bl, lw_blt, lw_mth, lw_mty, lw_mok, isi_i, isi_s, isi_t, eqW_i, fzE, fzV, slotOf, bindTg, bindTgs, wip, startD, List.map_cons, List.map_nil, List.replicate, List.length_cons, List.length_nil, List.cons_append, List.nil_append, List.set_cons_zero, List.set_cons_succ, Nat.reduceAdd, Nat.reduceSub, Nat.sub_self, Nat.add_sub_cancel, List.getElem?_cons_zero, List.getElem?_cons_succ, setAll, b_isi, b_lenL, b_lenT, b_lenS, b_lenO, b_all, b_any, b_tupL, b_tupT, b_lstL, b_lstT, b_strO, b_strI, b_strS, b_intI, b_intS, b_abs, b_min, b_max, b_sum, b_dvm, b_boolO, b_reprO, b_reprL, m_joinL, m_joinT, m_split, y_join, y_split, c_lt, c_le, c_gt, c_ge, c_is, c_isn, c_eq, c_ne, c_in, c_nin, i_str, i_tup, i_lst, t_bl, t_int, n_int, o_addI, o_addS, o_addT, o_addL, o_sub, o_mul, o_fdv, o_mod, o_pow, x_lst, x_tup, x_str, l_lst, l_tup, l_str, q_lst, q_tup, q_str, e_lst, e_tup]
      exact parts_ok hG hm D' hpa fun ns ss as g => ⟨ns, ss, as, rfl, g⟩
    obtain ⟨ns, ss, as, ey, g⟩ := hy
    rw [ey]
    have gr := g.rev
    refine ss_c (s_set hB (hm _) (.v (progD ns ss as)) ?_ ?_)
    · simp only [evR, evT, evS, evP, evAs, evO, evC, evI, evIF, evF, mkV, mkT, Rvd_v, Rvd_f, varW_z, varW_s, barW_z, barW_zo, barW_s, ex_bl, lw_blt, lw_mth, lw_mty, lw_mok, isi_i, isi_s, isi_t, eqW_i, fzE, fzV, slotOf, bindTg, bindTgs, wip, startD, List.map_cons, List.map_nil, List.replicate, List.length_cons, List.length_nil, List.cons_append, List.nil_append, List.set_cons_zero, List.set_cons_succ, Nat.reduceAdd, Nat.reduceSub, Nat.sub_self, Nat.add_sub_cancel, List.getElem?_cons_zero, List.getElem?_cons_succ, setAll, b_isi, b_lenL, b_lenT, b_lenS, b_lenO, b_all, b_any, b_tupL, b_tupT, b_lstL, b_lstT, b_strO, b_strI, b_strS, b_intI, b_intS, b_abs, b_min, b_max, b_sum, b_dvm, b_boolO, b_reprO, b_reprL, m_joinL, m_joinT, m_split, y_join, y_split, c_lt, c_le, c_gt, c_ge, c_is, c_isn, c_eq, c_ne, c_in, c_nin, i_str, i_tup, i_lst, t_bl, t_int, n_int, o_addI, o_addS, o_addT, o_addL, o_sub, o_mul, o_fdv, o_mod, o_pow, x_lst, x_tup, x_str, l_lst, l_tup, l_str, q_lst, q_tup, q_str, e_lst, e_tup]
      exact built_c hG hm H P D'.c B g rfl
    show exSs _ _ _ _ [some (.val .pail), some (.val x), some (.val (.lst (partsD ns ss as))), some (.val (progD ns ss as)), d, e] _
    refine ss_c (s_set hB (hm _) (.fr (partsD ns ss.reverse as.reverse)) ?_ ?_)
    · simp only [evR, evT, evS, evP, evAs, evO, evC, evI, evIF, evF, mkV, mkT, Rvd_v, Rvd_f, varW_z, varW_s, barW_z, barW_zo, barW_s, ex_bl, lw_blt, lw_mth, lw_mty, lw_mok, isi_i, isi_s, isi_t, eqW_i, fzE, fzV, slotOf, bindTg, bindTgs, wip, startD, List.map_cons, List.map_nil, List.replicate, List.length_cons, List.length_nil, List.cons_append, List.nil_append, List.set_cons_zero, List.set_cons_succ, Nat.reduceAdd, Nat.reduceSub, Nat.sub_self, Nat.add_sub_cancel, List.getElem?_cons_zero, List.getElem?_cons_succ, setAll, b_isi, b_lenL, b_lenT, b_lenS, b_lenO, b_all, b_any, b_tupL, b_tupT, b_lstL, b_lstT, b_strO, b_strI, b_strS, b_intI, b_intS, b_abs, b_min, b_max, b_sum, b_dvm, b_boolO, b_reprO, b_reprL, m_joinL, m_joinT, m_split, y_join, y_split, c_lt, c_le, c_gt, c_ge, c_is, c_isn, c_eq, c_ne, c_in, c_nin, i_str, i_tup, i_lst, t_bl, t_int, n_int, o_addI, o_addS, o_addT, o_addL, o_sub, o_mul, o_fdv, o_mod, o_pow, x_lst, x_tup, x_str, l_lst, l_tup, l_str, q_lst, q_tup, q_str, e_lst, e_tup]
      refine ⟨nmsD ns, rfl, sysD ss, rfl, _, rfl, armsD as, rfl, _, rfl, sl_le (by simp), ?_⟩
      unfold partsD sysD armsD
      rw [List.map_reverse, List.map_reverse]
    show exSs _ _ _ _ [some (.val .pail), some (.val x), some (.val (.lst (partsD ns ss as))), some (.val (progD ns ss as)), some (.val (.lst (partsD ns ss.reverse as.reverse))), e] _
    refine ss_c (s_set hB (hm _) (.v (progD ns ss.reverse as.reverse)) ?_ ?_)
    · simp only [evR, evT, evS, evP, evAs, evO, evC, evI, evIF, evF, mkV, mkT, Rvd_v, Rvd_f, varW_z, varW_s, barW_z, barW_zo, barW_s, ex_bl, lw_blt, lw_mth, lw_mty, lw_mok, isi_i, isi_s, isi_t, eqW_i, fzE, fzV, slotOf, bindTg, bindTgs, wip, startD, List.map_cons, List.map_nil, List.replicate, List.length_cons, List.length_nil, List.cons_append, List.nil_append, List.set_cons_zero, List.set_cons_succ, Nat.reduceAdd, Nat.reduceSub, Nat.sub_self, Nat.add_sub_cancel, List.getElem?_cons_zero, List.getElem?_cons_succ, setAll, b_isi, b_lenL, b_lenT, b_lenS, b_lenO, b_all, b_any, b_tupL, b_tupT, b_lstL, b_lstT, b_strO, b_strI, b_strS, b_intI, b_intS, b_abs, b_min, b_max, b_sum, b_dvm, b_boolO, b_reprO, b_reprL, m_joinL, m_joinT, m_split, y_join, y_split, c_lt, c_le, c_gt, c_ge, c_is, c_isn, c_eq, c_ne, c_in, c_nin, i_str, i_tup, i_lst, t_bl, t_int, n_int, o_addI, o_addS, o_addT, o_addL, o_sub, o_mul, o_fdv, o_mod, o_pow, x_lst, x_tup, x_str, l_lst, l_tup, l_str, q_lst, q_tup, q_str, e_lst, e_tup]
      refine ⟨nmsD ns, rfl, sysD ss.reverse, rfl, armsD as.reverse, rfl, ?_⟩
      exact init_ok hG H P hm gr rfl
    show exSs _ _ _ _ [some (.val .pail), some (.val x), some (.val (.lst (partsD ns ss as))), some (.val (progD ns ss as)), some (.val (.lst (partsD ns ss.reverse as.reverse))), some (.val (progD ns ss.reverse as.reverse))] _
    have z : Szs [nmsD (plc (spots ss as)), nmsD (plc (spots ss.reverse as.reverse))] 1 300 := (Szs.cons g.zp (Szs.cons gr.zp (Szs.nil (b := 0)))).le (by omega) (by omega)
    obtain ⟨r1, r2, r3, r4⟩ := z.rp (by omega) (by omega)
    refine ss_c (s_if hB (hm _) false ?_ ?_)
    · simp only [evR, evT, evS, evP, evAs, evO, evC, evI, evIF, evF, mkV, mkT, Rvd_v, Rvd_f, varW_z, varW_s, barW_z, barW_zo, barW_s, ex_bl, lw_blt, lw_mth, lw_mty, lw_mok, isi_i, isi_s, isi_t, eqW_i, fzE, fzV, slotOf, bindTg, bindTgs, wip, startD, List.map_cons, List.map_nil, List.replicate, List.length_cons, List.length_nil, List.cons_append, List.nil_append, List.set_cons_zero, List.set_cons_succ, Nat.reduceAdd, Nat.reduceSub, Nat.sub_self, Nat.add_sub_cancel, List.getElem?_cons_zero, List.getElem?_cons_succ, setAll, b_isi, b_lenL, b_lenT, b_lenS, b_lenO, b_all, b_any, b_tupL, b_tupT, b_lstL, b_lstT, b_strO, b_strI, b_strS, b_intI, b_intS, b_abs, b_min, b_max, b_sum, b_dvm, b_boolO, b_reprO, b_reprL, m_joinL, m_joinT, m_split, y_join, y_split, c_lt, c_le, c_gt, c_ge, c_is, c_isn, c_eq, c_ne, c_in, c_nin, i_str, i_tup, i_lst, t_bl, t_int, n_int, o_addI, o_addS, o_addT, o_addL, o_sub, o_mul, o_fdv, o_mod, o_pow, x_lst, x_tup, x_str, l_lst, l_tup, l_str, q_lst, q_tup, q_str, e_lst, e_tup]
      refine places_ok hG H P hm g ?_
      refine places_ok hG H P hm gr ?_
      refine ⟨sl_le (by simp), r1, r2, r3, r4, ?_⟩
      refine spots_ok hG hm hsp g ?_
      refine spots_ok hG hm hsp gr ?_
      refine ⟨sl_le (by simp), r1, r2, r3, r4, ?_⟩
      refine eqW_ss.mpr ?_
      exact congrArg Bool.not (decide_eq_true rfl)
    refine ss_n (B := libW subP) (C := CW G fs l (k + 11)) (E := E) ?_
    have hp1 := g.p
    have hp2 := gr.p
    have hne := g.plc_ne
    have hlen : 0 < (plc (spots ss as)).length := List.length_pos_iff.mpr hne
    refine ss_c (s_if hB (hm _) false ?_ ?_)
    · simp only [evR, evT, evS, evP, evAs, evO, evC, evI, evIF, evF, mkV, mkT, Rvd_v, Rvd_f, varW_z, varW_s, barW_z, barW_zo, barW_s, ex_bl, lw_blt, lw_mth, lw_mty, lw_mok, isi_i, isi_s, isi_t, eqW_i, fzE, fzV, slotOf, bindTg, bindTgs, wip, startD, List.map_cons, List.map_nil, List.replicate, List.length_cons, List.length_nil, List.cons_append, List.nil_append, List.set_cons_zero, List.set_cons_succ, Nat.reduceAdd, Nat.reduceSub, Nat.sub_self, Nat.add_sub_cancel, List.getElem?_cons_zero, List.getElem?_cons_succ, setAll, b_isi, b_lenL, b_lenT, b_lenS, b_lenO, b_all, b_any, b_tupL, b_tupT, b_lstL, b_lstT, b_strO, b_strI, b_strS, b_intI, b_intS, b_abs, b_min, b_max, b_sum, b_dvm, b_boolO, b_reprO, b_reprL, m_joinL, m_joinT, m_split, y_join, y_split, c_lt, c_le, c_gt, c_ge, c_is, c_isn, c_eq, c_ne, c_in, c_nin, i_str, i_tup, i_lst, t_bl, t_int, n_int, o_addI, o_addS, o_addT, o_addL, o_sub, o_mul, o_fdv, o_mod, o_pow, x_lst, x_tup, x_str, l_lst, l_tup, l_str, q_lst, q_tup, q_str, e_lst, e_tup]
      refine places_ok hG H P hm g ?_
      refine b_srt (by omega) fun ys h1 h2 => ?_
      refine places_ok hG H P hm gr ?_
      refine b_srt (by omega) fun zs h3 h4 => ?_
      have e : ys = zs := pw_eq (sortedS_pw h2) (sortedS_pw h4) (h1.trans ((plc_rev ss as).symm.trans h3.symm))
      subst e
      refine eq_strs (fun s hs => (asc_nm (g.plc_nm s (h1.subset hs))).ok) ?_
      simp only [Bool.not_true, Bool.false_eq_true, if_false]
      refine places_ok hG H P hm g ?_
      unfold nmsD
      simp only [evR, evT, evS, evP, evAs, evO, evC, evI, evIF, evF, mkV, mkT, Rvd_v, Rvd_f, varW_z, varW_s, barW_z, barW_zo, barW_s, ex_bl, lw_blt, lw_mth, lw_mty, lw_mok, isi_i, isi_s, isi_t, eqW_i, fzE, fzV, slotOf, bindTg, bindTgs, wip, startD, List.map_cons, List.map_nil, List.replicate, List.length_cons, List.length_nil, List.cons_append, List.nil_append, List.set_cons_zero, List.set_cons_succ, Nat.reduceAdd, Nat.reduceSub, Nat.sub_self, Nat.add_sub_cancel, List.getElem?_cons_zero, List.getElem?_cons_succ, setAll, b_isi, b_lenL, b_lenT, b_lenS, b_lenO, b_all, b_any, b_tupL, b_tupT, b_lstL, b_lstT, b_strO, b_strI, b_strS, b_intI, b_intS, b_abs, b_min, b_max, b_sum, b_dvm, b_boolO, b_reprO, b_reprL, m_joinL, m_joinT, m_split, y_join, y_split, c_lt, c_le, c_gt, c_ge, c_is, c_isn, c_eq, c_ne, c_in, c_nin, i_str, i_tup, i_lst, t_bl, t_int, n_int, o_addI, o_addS, o_addT, o_addL, o_sub, o_mul, o_fdv, o_mod, o_pow, x_lst, x_tup, x_str, l_lst, l_tup, l_str, q_lst, q_tup, q_str, e_lst, e_tup, List.length_map]
      rw [decide_eq_true (show (0 : Int) < ((plc (spots ss as)).length : Nat) by omega)]
      simp only [if_true]
      rw [decide_eq_true (show (((plc (spots ss as)).length : Nat) : Int) < 4 by omega)]
      rfl
    exact ss_n (B := libW subP) (C := CW G fs l (k + 11)) (E := E) (ss_n (B := libW subP) (C := CW G fs l (k + 11)) (E := E) (hk _ ⟨_, _, _, _, _, rfl⟩))
  · obtain ⟨_, b, c, d, e, rfl⟩ := hp
    refine ss_c ?_
    unfold exS
    simp only [evR, evT, evS, evP, evAs, evO, evC, evI, evIF, evF, mkV, mkT, Rvd_v, Rvd_f, varW_z, varW_s, barW_z, barW_zo, barW_s, ex_bl, lw_blt, lw_mth, lw_mty, lw_mok, isi_i, isi_s, isi_t, eqW_i, fzE, fzV, slotOf, bindTg, bindTgs, wip, startD, List.map_cons, List.map_nil, List.replicate, List.length_cons, List.length_nil, List.cons_append, List.nil_append, List.set_cons_zero, List.set_cons_succ, Nat.reduceAdd, Nat.reduceSub, Nat.sub_self, Nat.add_sub_cancel, List.getElem?_cons_zero, List.getElem?_cons_succ, setAll, b_isi, b_lenL, b_lenT, b_lenS, b_lenO, b_all, b_any, b_tupL, b_tupT, b_lstL, b_lstT, b_strO, b_strI, b_strS, b_intI, b_intS, b_abs, b_min, b_max, b_sum, b_dvm, b_boolO, b_reprO, b_reprL, m_joinL, m_joinT, m_split, y_join, y_split, c_lt, c_le, c_gt, c_ge, c_is, c_isn, c_eq, c_ne, c_in, c_nin, i_str, i_tup, i_lst, t_bl, t_int, n_int, o_addI, o_addS, o_addT, o_addL, o_sub, o_mul, o_fdv, o_mod, o_pow, x_lst, x_tup, x_str, l_lst, l_tup, l_str, q_lst, q_tup, q_str, e_lst, e_tup]
    exact q
def k08S : List Say := [(Str.ofString "c", [1, 0])]
def k08A : List Arm := [(Str.ofString "b", Str.ofString "a", [], [[1, -1]]), (Str.ofString "a", Str.ofString "c", [], [[1, -1]])]
def k08B : List Arm := [(Str.ofString "b", Str.ofString "a", [], [[1, -1]])]
omit hG hm H P in
theorem k08_g1 : Good [Str.ofString "a"] k08S k08A := by
  refine good_of (T := [Str.ofString "a", Str.ofString "b", Str.ofString "c"]) (by simp) (by decide) ?_ (by simp) (by simp) ?_ (by decide) ?_ (by simp [k08A]) (by decide) ?_
  · decide +kernel
  · decide +kernel
  · intro s hs
    rw [show s = (Str.ofString "c", [1, 0]) from List.mem_singleton.mp hs]
    exact ⟨by simp, by decide, by decide⟩
  · intro a ha
    simp only [k08A, List.mem_cons, List.not_mem_nil, or_false] at ha
    rcases ha with rfl | rfl
    · exact ⟨by simp, by simp, by decide, by decide, by unfold frm; decide, by unfold frm; decide⟩
    · exact ⟨by simp, by simp, by decide, by decide, by unfold frm; decide, by unfold frm; decide⟩
omit hG hm H P in
theorem k08_g2 : Good [Str.ofString "a"] [] k08B := by
  refine good_of (T := [Str.ofString "a", Str.ofString "b", Str.ofString "c"]) (by simp) (by decide) ?_ (by simp) (by simp) ?_ (by decide) ?_ (by simp [k08B]) (by decide) ?_
  · decide +kernel
  · decide +kernel
  · intro s hs
    cases hs
  · intro a ha
    simp only [k08B, List.mem_cons, List.not_mem_nil, or_false] at ha
    rw [ha]
    exact ⟨by simp, by simp, by decide, by decide, by unfold frm; decide, by unfold frm; decide⟩
theorem k08_law_ok (hl : fs.lookup ("law" : Str) = some ⟨1, 5, k08_law⟩) (noB : fs.lookup ("_law_begun" : Str) = none) (lB : l.lookup ("_law_begun" : Str) = some pBeg) {k : Nat} (hr : ∀ (Q : Rv → Prop) (E : XP), Q (.v (.bl true)) → CW G fs l (k + 12) "_law_right" [.pail] Q E)
    {ns : List Int} (h1 : ns.length ≤ 63) (h2 : ∀ n ∈ ns, Builtin.Int.intBits n ≤ 1048576) {Q : Rv → Prop} {E : XP} (q : Q (.v (.bl true))) : CW G fs l (k + 13) "law" [.lst (ns.map D.int)] Q E := by
  have hB : (libW subP).Mono := libW_mono subP
  refine cw_fn_mk hl rfl ?_
  rw [hG]
  unfold k08_law
  refine ss_c ?_
  unfold exS
  show (evP _ _ _ [some (.val (.lst (ns.map D.int))), none, none, none, none]).R _ _
  simp only [evR, evT, evS, evP, evAs, evO, evC, evI, evIF, evF, mkV, mkT, Rvd_v, Rvd_f, varW_z, varW_s, barW_z, barW_zo, barW_s, ex_bl, lw_blt, lw_mth, lw_mty, lw_mok, isi_i, isi_s, isi_t, eqW_i, fzE, fzV, slotOf, bindTg, bindTgs, wip, startD, List.map_cons, List.map_nil, List.replicate, List.length_cons, List.length_nil, List.cons_append, List.nil_append, List.set_cons_zero, List.set_cons_succ, Nat.reduceAdd, Nat.reduceSub, Nat.sub_self, Nat.add_sub_cancel, List.getElem?_cons_zero, List.getElem?_cons_succ, setAll, b_isi, b_lenL, b_lenT, b_lenS, b_lenO, b_all, b_any, b_tupL, b_tupT, b_lstL, b_lstT, b_strO, b_strI, b_strS, b_intI, b_intS, b_abs, b_min, b_max, b_sum, b_dvm, b_boolO, b_reprO, b_reprL, m_joinL, m_joinT, m_split, y_join, y_split, c_lt, c_le, c_gt, c_ge, c_is, c_isn, c_eq, c_ne, c_in, c_nin, i_str, i_tup, i_lst, t_bl, t_int, n_int, o_addI, o_addS, o_addT, o_addL, o_sub, o_mul, o_fdv, o_mod, o_pow, x_lst, x_tup, x_str, l_lst, l_tup, l_str, q_lst, q_tup, q_str, e_lst, e_tup, sl0, sl1, sl2, sl3, sl4, sl5, sl6, sl7, sl8, sl9, sl10, sl11, sl12, sl13, sl14, sl15, sl16, sl17, sl18, sl19, sl20, true_and]
  refine ⟨_, rfl, _, _, rfl, _, _, rfl, rfl, ?_⟩
  show exSs _ _ _ _ [some (.val (.lst (ns.map D.int))), some (.val (formD [1, 0])), some (.val (.tup [formD [1, -1]])), none, none] _
  refine ss_c (s_set hB (hm _) (.v (progD [Str.ofString "a"] k08S k08A)) ?_ ?_)
  · simp only [evR, evT, evS, evP, evAs, evO, evC, evI, evIF, evF, mkV, mkT, Rvd_v, Rvd_f, varW_z, varW_s, barW_z, barW_zo, barW_s, ex_bl, lw_blt, lw_mth, lw_mty, lw_mok, isi_i, isi_s, isi_t, eqW_i, fzE, fzV, slotOf, bindTg, bindTgs, wip, startD, List.map_cons, List.map_nil, List.replicate, List.length_cons, List.length_nil, List.cons_append, List.nil_append, List.set_cons_zero, List.set_cons_succ, Nat.reduceAdd, Nat.reduceSub, Nat.sub_self, Nat.add_sub_cancel, List.getElem?_cons_zero, List.getElem?_cons_succ, setAll, b_isi, b_lenL, b_lenT, b_lenS, b_lenO, b_all, b_any, b_tupL, b_tupT, b_lstL, b_lstT, b_strO, b_strI, b_strS, b_intI, b_intS, b_abs, b_min, b_max, b_sum, b_dvm, b_boolO, b_reprO, b_reprL, m_joinL, m_joinT, m_split, y_join, y_split, c_lt, c_le, c_gt, c_ge, c_is, c_isn, c_eq, c_ne, c_in, c_nin, i_str, i_tup, i_lst, t_bl, t_int, n_int, o_addI, o_addS, o_addT, o_addL, o_sub, o_mul, o_fdv, o_mod, o_pow, x_lst, x_tup, x_str, l_lst, l_tup, l_str, q_lst, q_tup, q_str, e_lst, e_tup, sl0, sl1, sl2, sl3, sl4, sl5, sl6, sl7, sl8, sl9, sl10, sl11, sl12, sl13, sl14, sl15, sl16, sl17, sl18, sl19, sl20, true_and]
    exact init_ok hG H P hm k08_g1 rfl
  show exSs _ _ _ _ [some (.val (.lst (ns.map D.int))), some (.val (formD [1, 0])), some (.val (.tup [formD [1, -1]])), some (.val (progD [Str.ofString "a"] k08S k08A)), none] _
  refine ss_c (s_if hB (hm _) false ?_ ?_)
  · simp only [evR, evT, evS, evP, evAs, evO, evC, evI, evIF, evF, mkV, mkT, Rvd_v, Rvd_f, varW_z, varW_s, barW_z, barW_zo, barW_s, ex_bl, lw_blt, lw_mth, lw_mty, lw_mok, isi_i, isi_s, isi_t, eqW_i, fzE, fzV, slotOf, bindTg, bindTgs, wip, startD, List.map_cons, List.map_nil, List.replicate, List.length_cons, List.length_nil, List.cons_append, List.nil_append, List.set_cons_zero, List.set_cons_succ, Nat.reduceAdd, Nat.reduceSub, Nat.sub_self, Nat.add_sub_cancel, List.getElem?_cons_zero, List.getElem?_cons_succ, setAll, b_isi, b_lenL, b_lenT, b_lenS, b_lenO, b_all, b_any, b_tupL, b_tupT, b_lstL, b_lstT, b_strO, b_strI, b_strS, b_intI, b_intS, b_abs, b_min, b_max, b_sum, b_dvm, b_boolO, b_reprO, b_reprL, m_joinL, m_joinT, m_split, y_join, y_split, c_lt, c_le, c_gt, c_ge, c_is, c_isn, c_eq, c_ne, c_in, c_nin, i_str, i_tup, i_lst, t_bl, t_int, n_int, o_addI, o_addS, o_addT, o_addL, o_sub, o_mul, o_fdv, o_mod, o_pow, x_lst, x_tup, x_str, l_lst, l_tup, l_str, q_lst, q_tup, q_str, e_lst, e_tup, sl0, sl1, sl2, sl3, sl4, sl5, sl6, sl7, sl8, sl9, sl10, sl11, sl12, sl13, sl14, sl15, sl16, sl17, sl18, sl19, sl20, true_and]
    refine places_ok hG H P hm k08_g1 ?_
    have e1 : nmsD (plc (spots k08S k08A)) = .tup [.str "c", .str "b", .str "a"] := by
      have : plc (spots k08S k08A) = [Str.ofString "c", Str.ofString "b", Str.ofString "a"] := by decide +kernel
      unfold nmsD
      rw [this]
      rfl
    have e2 : nmsD (plc (spots [] k08B)) = .tup [.str "b", .str "a"] := by
      have : plc (spots [] k08B) = [Str.ofString "b", Str.ofString "a"] := by decide +kernel
      unfold nmsD
      rw [this]
      rfl
    rw [e1]
    refine .inr (.inl ⟨rfl, rfl, by decide +kernel, by decide +kernel, ?_⟩)
    rw [show PyData.eqv (toPy (Rv.v (.tup [.str "c", .str "b", .str "a"])).d) (toPy (.tup [.str "c", .str "b", .str "a"])) = true by decide +kernel]
    simp only [Bool.not_true, Bool.false_eq_true, if_false]
    refine init_ok hG H P hm (ss := []) (as := k08B) k08_g2 ?_
    refine places_ok hG H P hm k08_g2 ?_
    rw [e2]
    refine .inr (.inl ⟨rfl, rfl, by decide +kernel, by decide +kernel, ?_⟩)
    rw [show PyData.eqv (toPy (Rv.v (.tup [.str "b", .str "a"])).d) (toPy (.tup [.str "b", .str "a"])) = true by decide +kernel]
    rfl
  refine ss_n (B := libW subP) (C := CW G fs l (k + 12)) (E := E) ?_
  refine ss_c ?_
  unfold exS
  exact turns_ok (c := 5) (t := 4) (by omega) noB lB (k := k + 11) hr h1 h2 rfl (by omega) (by simp) q
end
end En
namespace K08
open PySem L2 PyProof.Rows En
def top (i : Nat) : Stmt := PySem.Challenge.pw_fallranks_k08_whole_places_in_order.main.body.getD i (.Pass ⟨0, 0, 0, 0⟩)
def clsB : Stmt → List Stmt
  | .ClassDef _ _ _ body _ _ _ _ _ _ _ => body
  | _ => []
def meth (i j : Nat) : Stmt := (clsB (top i)).getD j (.Pass ⟨0, 0, 0, 0⟩)
def pG (c f : Str) (K : PySem.W.Frag) : Addr := propG K (He.ga K c) f
def cG (c f : Str) (K : PySem.W.Frag) : Addr := cmG K (He.ga K c) f
def mG (c f : Str) (K : PySem.W.Frag) : Addr := He.ma K (He.ga K c) f
def dfT (n : Str) (st : Stmt) : Df := ⟨fun K => He.ga K n, n, n, defArgs st, defBody st, defScope st⟩
def dfM (ad : PySem.W.Frag → Addr) (n ql : Str) (st : Stmt) : Df := ⟨ad, n, ql, defArgs st, defBody st, defScope st⟩
def gP : Gi where
  con := [("int", (.ty .int)), ("bool", (.ty .bool)), ("str", (.ty .str)), ("tuple", (.ty .tuple)), ("list", (.ty .list)), ("dict", (.ty .dict)), ("MOST_VARIABLES", (.int 3)), ("MOST_PLACES", (.int 3)), ("MOST_BRANCHES", (.int 5)), ("MOST_TESTS", (.int 3)), ("MOST_SAYINGS", (.int 3)), ("MOST_NUMBER", (.int 1000000)), ("DIGITS", (.str "0123456789")), ("LETTERS", (.str "abcdefghijklmnopqrstuvwxyz")), ("Program", (.cls "Program"))]
  fns := ["is_integer", "is_name", "are_integers", "written_integer", "is_form", "is_saying", "is_branch", "wrong_name", "wrong_saying", "places_in", "wrong_branch", "form_words", "branch_lines", "program_lines", "text_form", "text_saying", "text_branch", "branch_parts", "text_program", "Program"]
  kws := [("Program", [some "branches", some "names", some "sayings"], 0, [1, 2, 0])]
  its := ["range", "enumerate"]
  blt := [("isinstance", .isi), ("len", .len), ("all", .all), ("any", .any), ("tuple", .tup), ("str", .str), ("int", .int), ("abs", .abs)]
  mth := [("join", .join), ("split", .split)]
  mcl := [("read", "Program.read")]
  mkw := []
  att := [("own_names", "own_names"), ("own_sayings", "own_sayings"), ("own_branches", "own_branches"), ("names", "names"), ("sayings", "sayings"), ("branches", "branches"), ("places", "places"), ("text", "text")]
  err := ["InvalidNames", "InvalidSayings", "InvalidBranches", "InvalidText"]
def gL : Gi where
  con := [("int", (.ty .int)), ("bool", (.ty .bool)), ("str", (.ty .str)), ("tuple", (.ty .tuple)), ("list", (.ty .list)), ("dict", (.ty .dict)), ("MOST_VARIABLES", (.int 3)), ("MOST_PLACES", (.int 3)), ("MOST_BRANCHES", (.int 5)), ("MOST_TESTS", (.int 3)), ("MOST_SAYINGS", (.int 3)), ("MOST_NUMBER", (.int 1000000)), ("DIGITS", (.str "0123456789")), ("LETTERS", (.str "abcdefghijklmnopqrstuvwxyz")), ("Program", (.cls "Program"))]
  fns := [Str.ofString "is_integer", Str.ofString "is_name", Str.ofString "are_integers", Str.ofString "written_integer", Str.ofString "is_form", Str.ofString "is_saying", Str.ofString "is_branch", Str.ofString "wrong_name", Str.ofString "wrong_saying", Str.ofString "places_in", Str.ofString "wrong_branch", Str.ofString "form_words", Str.ofString "branch_lines", Str.ofString "program_lines", Str.ofString "text_form", Str.ofString "text_saying", Str.ofString "text_branch", Str.ofString "branch_parts", Str.ofString "text_program", Str.ofString "Program", Str.ofString "_law_begun", Str.ofString "_law_cast", Str.ofString "_law_any_of", Str.ofString "_law_tags", Str.ofString "_law_wide", Str.ofString "_law_form", Str.ofString "_law_parts", Str.ofString "_law_words", Str.ofString "_law_arm_lines", Str.ofString "_law_lines", Str.ofString "_law_sheet", Str.ofString "_law_spots", Str.ofString "_law_built", Str.ofString "_law_right", Str.ofString "law"]
  kws := [("Program", [some "branches", some "names", some "sayings"], 0, [1, 2, 0])]
  its := ["range", "enumerate", "[::-1]"]
  blt := [("isinstance", .isi), ("len", .len), ("all", .all), ("any", .any), ("tuple", .tup), ("str", .str), ("int", .int), ("abs", .abs), ("max", .max), ("min", .min), ("repr", .repr), ("bool", .bool), ("divmod", .divmod), ("sorted", .sorted)]
  mth := [("join", .join), ("split", .split)]
  mcl := [("read", "Program.read")]
  mkw := []
  att := [("own_names", "own_names"), ("own_sayings", "own_sayings"), ("own_branches", "own_branches"), ("names", "names"), ("sayings", "sayings"), ("branches", "branches"), ("places", "places"), ("text", "text")]
  err := []
def e_is_integer : Fe := ⟨dfT "is_integer" (top 16), "is_integer", ["value"], ["value"], [], ir_is_integer⟩
theorem c_is_integer : FeC gP e_is_integer := ⟨⟨rfl, rfl, rfl, by decide +kernel, rfl, by decide +kernel, by decide +kernel⟩, by kernel_rfl, by kernel_rfl, by decide +kernel⟩
def e_is_name : Fe := ⟨dfT "is_name" (top 17), "is_name", ["value"], ["value", "sign"], [], ir_is_name⟩
theorem c_is_name : FeC gP e_is_name := ⟨⟨rfl, rfl, rfl, by decide +kernel, rfl, by decide +kernel, by decide +kernel⟩, by kernel_rfl, by kernel_rfl, by decide +kernel⟩
def e_are_integers : Fe := ⟨dfT "are_integers" (top 18), "are_integers", ["value", "many"], ["value", "many", "part"], [], ir_are_integers⟩
theorem c_are_integers : FeC gP e_are_integers := ⟨⟨rfl, rfl, rfl, by decide +kernel, rfl, by decide +kernel, by decide +kernel⟩, by kernel_rfl, by kernel_rfl, by decide +kernel⟩
def e_written_integer : Fe := ⟨dfT "written_integer" (top 19), "written_integer", ["word"], ["word", "digits", "sign"], [], ir_written_integer⟩
theorem c_written_integer : FeC gP e_written_integer := ⟨⟨rfl, rfl, rfl, by decide +kernel, rfl, by decide +kernel, by decide +kernel⟩, by kernel_rfl, by kernel_rfl, by decide +kernel⟩
def e_is_form : Fe := ⟨dfT "is_form" (top 21), "is_form", ["value", "many"], ["value", "many", "part"], [], ir_is_form⟩
theorem c_is_form : FeC gP e_is_form := ⟨⟨rfl, rfl, rfl, by decide +kernel, rfl, by decide +kernel, by decide +kernel⟩, by kernel_rfl, by kernel_rfl, by decide +kernel⟩
def e_is_saying : Fe := ⟨dfT "is_saying" (top 22), "is_saying", ["value", "many"], ["value", "many"], [], ir_is_saying⟩
theorem c_is_saying : FeC gP e_is_saying := ⟨⟨rfl, rfl, rfl, by decide +kernel, rfl, by decide +kernel, by decide +kernel⟩, by kernel_rfl, by kernel_rfl, by decide +kernel⟩
def e_is_branch : Fe := ⟨dfT "is_branch" (top 23), "is_branch", ["value", "many"], ["value", "many", "form"], [], ir_is_branch⟩
theorem c_is_branch : FeC gP e_is_branch := ⟨⟨rfl, rfl, rfl, by decide +kernel, rfl, by decide +kernel, by decide +kernel⟩, by kernel_rfl, by kernel_rfl, by decide +kernel⟩
def e_wrong_name : Fe := ⟨dfT "wrong_name" (top 24), "wrong_name", ["value"], ["value", "at", "name"], [], ir_wrong_name⟩
theorem c_wrong_name : FeC gP e_wrong_name := ⟨⟨rfl, rfl, rfl, by decide +kernel, rfl, by decide +kernel, by decide +kernel⟩, by kernel_rfl, by kernel_rfl, by decide +kernel⟩
def e_wrong_saying : Fe := ⟨dfT "wrong_saying" (top 25), "wrong_saying", ["value", "many"], ["value", "many", "at", "saying"], [], ir_wrong_saying⟩
theorem c_wrong_saying : FeC gP e_wrong_saying := ⟨⟨rfl, rfl, rfl, by decide +kernel, rfl, by decide +kernel, by decide +kernel⟩, by kernel_rfl, by kernel_rfl, by decide +kernel⟩
def e_places_in : Fe := ⟨dfT "places_in" (top 26), "places_in", ["sayings", "branches"], ["sayings", "branches", "found", "place", "form", "source", "target", "tests", "changes", "at"], ["found"], ir_places_in⟩
theorem c_places_in : FeC gP e_places_in := ⟨⟨rfl, rfl, rfl, by decide +kernel, rfl, by decide +kernel, by decide +kernel⟩, by kernel_rfl, by kernel_rfl, by decide +kernel⟩
def e_wrong_branch : Fe := ⟨dfT "wrong_branch" (top 27), "wrong_branch", ["sayings", "value", "many"], ["sayings", "value", "many", "at", "branch"], [], ir_wrong_branch⟩
theorem c_wrong_branch : FeC gP e_wrong_branch := ⟨⟨rfl, rfl, rfl, by decide +kernel, rfl, by decide +kernel, by decide +kernel⟩, by kernel_rfl, by kernel_rfl, by decide +kernel⟩
def e_form_words : Fe := ⟨dfT "form_words" (top 28), "form_words", ["form"], ["form", "part"], [], ir_form_words⟩
theorem c_form_words : FeC gP e_form_words := ⟨⟨rfl, rfl, rfl, by decide +kernel, rfl, by decide +kernel, by decide +kernel⟩, by kernel_rfl, by kernel_rfl, by decide +kernel⟩
def e_branch_lines : Fe := ⟨dfT "branch_lines" (top 29), "branch_lines", ["branch"], ["branch", "source", "target", "tests", "changes", "lines", "form"], [], ir_branch_lines⟩
theorem c_branch_lines : FeC gP e_branch_lines := ⟨⟨rfl, rfl, rfl, by decide +kernel, rfl, by decide +kernel, by decide +kernel⟩, by kernel_rfl, by kernel_rfl, by decide +kernel⟩
def e_program_lines : Fe := ⟨dfT "program_lines" (top 31), "program_lines", ["program"], ["program", "lines", "place", "form", "branch"], ["lines"], ir_program_lines⟩
theorem c_program_lines : FeC gP e_program_lines := ⟨⟨rfl, rfl, rfl, by decide +kernel, rfl, by decide +kernel, by decide +kernel⟩, by kernel_rfl, by kernel_rfl, by decide +kernel⟩
def e_text_form : Fe := ⟨dfT "text_form" (top 32), "text_form", ["words"], ["words", "found", "word"], [], ir_text_form⟩
theorem c_text_form : FeC gP e_text_form := ⟨⟨rfl, rfl, rfl, by decide +kernel, rfl, by decide +kernel, by decide +kernel⟩, by kernel_rfl, by kernel_rfl, by decide +kernel⟩
def e_text_saying : Fe := ⟨dfT "text_saying" (top 33), "text_saying", ["line"], ["line", "words"], [], ir_text_saying⟩
theorem c_text_saying : FeC gP e_text_saying := ⟨⟨rfl, rfl, rfl, by decide +kernel, rfl, by decide +kernel, by decide +kernel⟩, by kernel_rfl, by kernel_rfl, by decide +kernel⟩
def e_text_branch : Fe := ⟨dfT "text_branch" (top 34), "text_branch", ["lines"], ["lines", "words", "line", "tests", "part"], [], ir_text_branch⟩
theorem c_text_branch : FeC gP e_text_branch := ⟨⟨rfl, rfl, rfl, by decide +kernel, rfl, by decide +kernel, by decide +kernel⟩, by kernel_rfl, by kernel_rfl, by decide +kernel⟩
def e_text_program : Fe := ⟨dfT "text_program" (top 36), "text_program", ["value"], ["value", "lines", "many", "line", "names", "parts", "sayings", "branches", "part"], [], ir_text_program⟩
theorem c_text_program : FeC gP e_text_program := ⟨⟨rfl, rfl, rfl, by decide +kernel, rfl, by decide +kernel, by decide +kernel⟩, by kernel_rfl, by kernel_rfl, by decide +kernel⟩
def e_Program_read : Fe := ⟨dfM (cG "Program" "read") "read" "Program.read" (meth 30 2), "Program.read", ["cls", "text"], ["cls", "text", "program"], [], ir_Program_read⟩
theorem c_Program_read : FeC gP e_Program_read := ⟨⟨rfl, rfl, rfl, by decide +kernel, rfl, by decide +kernel, by decide +kernel⟩, by kernel_rfl, by kernel_rfl, by decide +kernel⟩
def e_Program_names : Fe := ⟨dfM (pG "Program" "names") "names" "Program.names" (meth 30 3), "Program.names", ["self"], ["self"], [], ir_Program_names⟩
theorem c_Program_names : FeC gP e_Program_names := ⟨⟨rfl, rfl, rfl, by decide +kernel, rfl, by decide +kernel, by decide +kernel⟩, by kernel_rfl, by kernel_rfl, by decide +kernel⟩
def e_Program_sayings : Fe := ⟨dfM (pG "Program" "sayings") "sayings" "Program.sayings" (meth 30 4), "Program.sayings", ["self"], ["self"], [], ir_Program_sayings⟩
theorem c_Program_sayings : FeC gP e_Program_sayings := ⟨⟨rfl, rfl, rfl, by decide +kernel, rfl, by decide +kernel, by decide +kernel⟩, by kernel_rfl, by kernel_rfl, by decide +kernel⟩
def e_Program_branches : Fe := ⟨dfM (pG "Program" "branches") "branches" "Program.branches" (meth 30 5), "Program.branches", ["self"], ["self"], [], ir_Program_branches⟩
theorem c_Program_branches : FeC gP e_Program_branches := ⟨⟨rfl, rfl, rfl, by decide +kernel, rfl, by decide +kernel, by decide +kernel⟩, by kernel_rfl, by kernel_rfl, by decide +kernel⟩
def e_Program_places : Fe := ⟨dfM (pG "Program" "places") "places" "Program.places" (meth 30 6), "Program.places", ["self"], ["self"], [], ir_Program_places⟩
theorem c_Program_places : FeC gP e_Program_places := ⟨⟨rfl, rfl, rfl, by decide +kernel, rfl, by decide +kernel, by decide +kernel⟩, by kernel_rfl, by kernel_rfl, by decide +kernel⟩
def e_Program_text : Fe := ⟨dfM (pG "Program" "text") "text" "Program.text" (meth 30 7), "Program.text", ["self"], ["self"], [], ir_Program_text⟩
theorem c_Program_text : FeC gP e_Program_text := ⟨⟨rfl, rfl, rfl, by decide +kernel, rfl, by decide +kernel, by decide +kernel⟩, by kernel_rfl, by kernel_rfl, by decide +kernel⟩
def e_Program___len__ : Fe := ⟨dfM (mG "Program" "__len__") "__len__" "Program.__len__" (meth 30 10), "Program.__len__", ["self"], ["self"], [], ir_Program___len__⟩
theorem c_Program___len__ : FeC gP e_Program___len__ := ⟨⟨rfl, rfl, rfl, by decide +kernel, rfl, by decide +kernel, by decide +kernel⟩, by kernel_rfl, by kernel_rfl, by decide +kernel⟩
def e_Program___eq__ : Fe := ⟨dfM (mG "Program" "__eq__") "__eq__" "Program.__eq__" (meth 30 11), "Program.__eq__", ["self", "other"], ["self", "other"], [], ir_Program___eq__⟩
theorem c_Program___eq__ : FeC gP e_Program___eq__ := ⟨⟨rfl, rfl, rfl, by decide +kernel, rfl, by decide +kernel, by decide +kernel⟩, by kernel_rfl, by kernel_rfl, by decide +kernel⟩
def e_Program___str__ : Fe := ⟨dfM (mG "Program" "__str__") "__str__" "Program.__str__" (meth 30 12), "Program.__str__", ["self"], ["self"], [], ir_Program___str__⟩
theorem c_Program___str__ : FeC gP e_Program___str__ := ⟨⟨rfl, rfl, rfl, by decide +kernel, rfl, by decide +kernel, by decide +kernel⟩, by kernel_rfl, by kernel_rfl, by decide +kernel⟩
def e_Program___repr__ : Fe := ⟨dfM (mG "Program" "__repr__") "__repr__" "Program.__repr__" (meth 30 13), "Program.__repr__", ["self"], ["self"], [], ir_Program___repr__⟩
theorem c_Program___repr__ : FeC gP e_Program___repr__ := ⟨⟨rfl, rfl, rfl, by decide +kernel, rfl, by decide +kernel, by decide +kernel⟩, by kernel_rfl, by kernel_rfl, by decide +kernel⟩
def e__law_begun : Fe := ⟨dfT "_law_begun" (top 38), "_law_begun", ["_law_script", "_law_turn"], ["_law_script", "_law_turn", "_law_own", "_law_state", "_law_cell"], [], lh_begun⟩
theorem c__law_begun : FeC gL.noA e__law_begun := ⟨⟨rfl, rfl, rfl, by decide +kernel, rfl, by decide +kernel, by decide +kernel⟩, by kernel_rfl, by kernel_rfl, by decide +kernel⟩
def e__law_cast : Fe := ⟨dfT "_law_cast" (top 39), "_law_cast", ["_law_pail", "_law_many"], ["_law_pail", "_law_many", "_law_figure", "_law_state"], ["_law_pail"], lh_cast⟩
theorem c__law_cast : FeC gL.noA e__law_cast := ⟨⟨rfl, rfl, rfl, by decide +kernel, rfl, by decide +kernel, by decide +kernel⟩, by kernel_rfl, by kernel_rfl, by decide +kernel⟩
def e__law_any_of : Fe := ⟨dfT "_law_any_of" (top 40), "_law_any_of", ["_law_pail", "_law_some"], ["_law_pail", "_law_some"], [], lh_any_of⟩
theorem c__law_any_of : FeC gL.noA e__law_any_of := ⟨⟨rfl, rfl, rfl, by decide +kernel, rfl, by decide +kernel, by decide +kernel⟩, by kernel_rfl, by kernel_rfl, by decide +kernel⟩
def e__law_tags : Fe := ⟨dfT "_law_tags" (top 41), "_law_tags", ["_law_pail", "_law_many"], ["_law_pail", "_law_many", "_law_menu", "_law_at"], [], lh_tags⟩
theorem c__law_tags : FeC gL.noA e__law_tags := ⟨⟨rfl, rfl, rfl, by decide +kernel, rfl, by decide +kernel, by decide +kernel⟩, by kernel_rfl, by kernel_rfl, by decide +kernel⟩
def e__law_wide : Fe := ⟨dfT "_law_wide" (top 42), "_law_wide", ["_law_pail"], ["_law_pail", "_law_way"], [], lh_wide⟩
theorem c__law_wide : FeC gL.noA e__law_wide := ⟨⟨rfl, rfl, rfl, by decide +kernel, rfl, by decide +kernel, by decide +kernel⟩, by kernel_rfl, by kernel_rfl, by decide +kernel⟩
def e__law_form : Fe := ⟨dfT "_law_form" (top 43), "_law_form", ["_law_pail", "_law_size"], ["_law_pail", "_law_size", "_law_k"], [], lh_form⟩
theorem c__law_form : FeC gL.noA e__law_form := ⟨⟨rfl, rfl, rfl, by decide +kernel, rfl, by decide +kernel, by decide +kernel⟩, by kernel_rfl, by kernel_rfl, by decide +kernel⟩
def e__law_parts : Fe := ⟨dfT "_law_parts" (top 44), "_law_parts", ["_law_pail"], ["_law_pail", "_law_size", "_law_tags_here", "_law_spots_here", "_law_says", "_law_k", "_law_arms", "_law_asks", "_law_j", "_law_turns"], ["_law_arms"], lh_parts⟩
theorem c__law_parts : FeC gL.noA e__law_parts := ⟨⟨rfl, rfl, rfl, by decide +kernel, rfl, by decide +kernel, by decide +kernel⟩, by kernel_rfl, by kernel_rfl, by decide +kernel⟩
def e__law_words : Fe := ⟨dfT "_law_words" (top 45), "_law_words", ["_law_some"], ["_law_some", "_law_each"], [], lh_words⟩
theorem c__law_words : FeC gL.noA e__law_words := ⟨⟨rfl, rfl, rfl, by decide +kernel, rfl, by decide +kernel, by decide +kernel⟩, by kernel_rfl, by kernel_rfl, by decide +kernel⟩
def e__law_arm_lines : Fe := ⟨dfT "_law_arm_lines" (top 46), "_law_arm_lines", ["_law_arm"], ["_law_arm", "_law_near", "_law_far", "_law_asks", "_law_turns", "_law_lines_here", "_law_ask", "_law_turn"], [], lh_arm_lines⟩
theorem c__law_arm_lines : FeC gL.noA e__law_arm_lines := ⟨⟨rfl, rfl, rfl, by decide +kernel, rfl, by decide +kernel, by decide +kernel⟩, by kernel_rfl, by kernel_rfl, by decide +kernel⟩
def e__law_lines : Fe := ⟨dfT "_law_lines" (top 47), "_law_lines", ["_law_parts_here"], ["_law_parts_here", "_law_lines_here", "_law_spot", "_law_some", "_law_arm"], ["_law_lines_here"], lh_lines⟩
theorem c__law_lines : FeC gL.noA e__law_lines := ⟨⟨rfl, rfl, rfl, by decide +kernel, rfl, by decide +kernel, by decide +kernel⟩, by kernel_rfl, by kernel_rfl, by decide +kernel⟩
def e__law_sheet : Fe := ⟨dfT "_law_sheet" (top 48), "_law_sheet", ["_law_parts_here"], ["_law_parts_here"], [], lh_sheet⟩
theorem c__law_sheet : FeC gL.noA e__law_sheet := ⟨⟨rfl, rfl, rfl, by decide +kernel, rfl, by decide +kernel, by decide +kernel⟩, by kernel_rfl, by kernel_rfl, by decide +kernel⟩
def e__law_spots : Fe := ⟨dfT "_law_spots" (top 49), "_law_spots", ["_law_parts_here"], ["_law_parts_here", "_law_found", "_law_spot", "_law_some", "_law_arm"], ["_law_found"], lh_spots⟩
theorem c__law_spots : FeC gL.noA e__law_spots := ⟨⟨rfl, rfl, rfl, by decide +kernel, rfl, by decide +kernel, by decide +kernel⟩, by kernel_rfl, by kernel_rfl, by decide +kernel⟩
def e__law_built : Fe := ⟨dfT "_law_built" (top 50), "_law_built", ["_law_pail", "_law_parts_here"], ["_law_pail", "_law_parts_here", "_law_way"], [], lh_built⟩
theorem c__law_built : FeC gL.noA e__law_built := ⟨⟨rfl, rfl, rfl, by decide +kernel, rfl, by decide +kernel, by decide +kernel⟩, by kernel_rfl, by kernel_rfl, by decide +kernel⟩
def e__law_right : Fe := ⟨dfT "_law_right" (top 51), "_law_right", ["_law_pail"], ["_law_pail", "_law_turn", "_law_parts_here", "_law_mine", "_law_turned", "_law_mate"], [], k08_right⟩
theorem c__law_right : FeC gL.noA e__law_right := ⟨⟨rfl, rfl, rfl, by decide +kernel, rfl, by decide +kernel, by decide +kernel⟩, by kernel_rfl, by kernel_rfl, by decide +kernel⟩
def e_law : Fe := ⟨dfT "law" (top 52), "law", ["_law_script"], ["_law_script", "_law_same", "_law_step", "_law_mine", "_law_turn"], [], k08_law⟩
theorem c_law : FeC gL.noA e_law := ⟨⟨rfl, rfl, rfl, by decide +kernel, rfl, by decide +kernel, by decide +kernel⟩, by kernel_rfl, by kernel_rfl, by decide +kernel⟩
def d_bp : Df := dfT "branch_parts" (top 35)
def d_init : Df := dfM (mG "Program" "__init__") "__init__" "Program.__init__" (meth 30 1)
def nI : List Str := ["self", "names", "sayings", "branches", "at"]
theorem c_init : compSs gP nI [] 60 (defScope (meth 30 1)) ((defBody (meth 30 1)).take 6) = some ir_Program___init__ := by kernel_rfl
theorem s_init : FnScope nI ["self", "names", "sayings", "branches"] (defScope (meth 30 1)) := ⟨rfl, rfl, rfl, by decide +kernel, rfl, by decide +kernel, by decide +kernel⟩
def d_InvalidNames : Df := dfM (mG "InvalidNames" "__init__") "__init__" "InvalidNames.__init__" (meth 4 0)
def d_InvalidSayings : Df := dfM (mG "InvalidSayings" "__init__") "__init__" "InvalidSayings.__init__" (meth 5 0)
def d_InvalidBranches : Df := dfM (mG "InvalidBranches" "__init__") "__init__" "InvalidBranches.__init__" (meth 6 0)
def d_InvalidText : Df := dfM (mG "InvalidText" "__init__") "__init__" "InvalidText.__init__" (meth 3 0)
def es : List Fe := [e_is_integer, e_is_name, e_are_integers, e_written_integer, e_is_form, e_is_saying, e_is_branch, e_wrong_name, e_wrong_saying, e_places_in, e_wrong_branch, e_form_words, e_branch_lines, e_program_lines, e_text_form, e_text_saying, e_text_branch, e_text_program, e_Program_read, e_Program_names, e_Program_sayings, e_Program_branches, e_Program_places, e_Program_text, e_Program___len__, e_Program___eq__, e_Program___str__, e_Program___repr__]
def esL : List Fe := [e__law_any_of, e__law_tags, e__law_wide, e__law_form, e__law_parts, e__law_words, e__law_arm_lines, e__law_lines, e__law_sheet, e__law_spots, e__law_built, e__law_right, e_law]
end K08
namespace K08
open PySem L2 PyProof.Rows En
def dfs : List Df := [e_is_integer.d, e_is_name.d, e_are_integers.d, e_written_integer.d, e_is_form.d, e_is_saying.d, e_is_branch.d, e_wrong_name.d, e_wrong_saying.d, e_places_in.d, e_wrong_branch.d, e_form_words.d, e_branch_lines.d, e_program_lines.d, e_text_form.d, e_text_saying.d, e_text_branch.d, e_text_program.d, e_Program_read.d, e_Program_names.d, e_Program_sayings.d, e_Program_branches.d, e_Program_places.d, e_Program_text.d, e_Program___len__.d, e_Program___eq__.d, e_Program___str__.d, e_Program___repr__.d, e__law_any_of.d, e__law_tags.d, e__law_wide.d, e__law_form.d, e__law_parts.d, e__law_words.d, e__law_arm_lines.d, e__law_lines.d, e__law_sheet.d, e__law_spots.d, e__law_built.d, e__law_right.d, e_law.d, e__law_begun.d, e__law_cast.d, d_bp, d_init, d_InvalidNames, d_InvalidSayings, d_InvalidBranches, d_InvalidText]
def tfs : List Df := []
def fas : List He.Fa := [.glo "is_integer", .glo "is_name", .glo "are_integers", .glo "written_integer", .glo "is_form", .glo "is_saying", .glo "is_branch", .glo "wrong_name", .glo "wrong_saying", .glo "places_in", .glo "wrong_branch", .glo "form_words", .glo "branch_lines", .glo "program_lines", .glo "text_form", .glo "text_saying", .glo "text_branch", .glo "branch_parts", .glo "text_program", .glo "_law_begun", .glo "_law_cast", .glo "_law_any_of", .glo "_law_tags", .glo "_law_wide", .glo "_law_form", .glo "_law_parts", .glo "_law_words", .glo "_law_arm_lines", .glo "_law_lines", .glo "_law_sheet", .glo "_law_spots", .glo "_law_built", .glo "_law_right", .glo "law", .glo "Program", .mkr "Program", .glo "InvalidNames", .glo "InvalidSayings", .glo "InvalidBranches", .glo "InvalidText", .int "MOST_VARIABLES" 3, .int "MOST_PLACES" 3, .int "MOST_BRANCHES" 5, .int "MOST_TESTS" 3, .int "MOST_SAYINGS" 3, .int "MOST_NUMBER" 1000000, .str "DIGITS" "0123456789", .str "LETTERS" "abcdefghijklmnopqrstuvwxyz", .free "isinstance", .free "len", .free "all", .free "any", .free "tuple", .free "str", .free "int", .free "abs", .free "max", .free "min", .free "repr", .free "bool", .free "divmod", .free "sorted", .free "range", .free "enumerate", .free "list", .free "dict", .free "[::-1]"]
def ptMs : List Str := []
def errsE : List (Str × Str) := [("InvalidNames", "index"), ("InvalidSayings", "index"), ("InvalidBranches", "index"), ("InvalidText", "given")]
def ex (K : PySem.W.Frag) : Bool := (fas.all fun f => f.ok K) && (chkS K (He.ga K "Program") && (chkSlots K (He.ga K "Program") progSl && ((progPr.all fun f => chkProp K (He.ga K "Program") f) && (chkCm K (He.ga K "Program") "read" &&
  ((msn.all fun f => chkM K (He.ga K "Program") f) && (He.eqO (PySem.W.findIn K (.ref (He.ga K "Program")) "__bool__") (some none) && (chkP K && (chkM K (He.ga K "Program") "__eq__" && (((errsE.all fun e => errB K e.1 e.2) && true) && (ptMs.all fun m => chkM K (He.ga K "Program") m))))))))))
end K08
namespace K08
open PySem L2 PyProof.Rows En
abbrev LQ : Bool := false
theorem am {α : Type} {p : α → Prop} {a : α} {l : List α} (h : p a) (hs : ∀ x ∈ l, p x) : ∀ x ∈ a :: l, p x := List.forall_mem_cons.mpr ⟨h, hs⟩
theorem an {α : Type} {p : α → Prop} : ∀ x ∈ ([] : List α), p x := fun _ h => nomatch h
theorem fm (i : Nat) {f : He.Fa} (h : fas[i]? = some f) : f ∈ fas := List.mem_of_getElem? h
theorem dm (i : Nat) {f : Df} (h : dfs[i]? = some f) : f ∈ dfs := List.mem_of_getElem? h
theorem em (i : Nat) {f : Fe} (h : es[i]? = some f) : f ∈ es := List.mem_of_getElem? h
theorem lm (i : Nat) {f : Fe} (h : esL[i]? = some f) : f ∈ esL := List.mem_of_getElem? h
abbrev cf (K : PySem.W.Frag) : Cfg := cfgT (tblOf tfs K) K
structure Hd (K : PySem.W.Frag) (h : Heap) (mg : Str → Option Value) : Prop where
  X : K.In h
  N : h.Ns mainGlobals mg
  c : SaysL ex dfs tfs h K
section
variable {P : Program} {w : World} {K : PySem.W.Frag} {h base : Heap} {mg : Str → Option Value} (H : Hd K h mg)
include H
theorem Hd.fa {f : He.Fa} (hf : f ∈ fas) : f.ok K = true := List.all_eq_true.mp (He.ba H.c.n.more).1 f hf
theorem Hd.glo {x : Str} (hf : (He.Fa.glo x).ok K = true) : mg x = some (.ref (He.ga K x)) := He.glo_ok H.X H.N hf
theorem Hd.free {x : Str} (hf : (He.Fa.free x).ok K = true) : mg x = none := He.free_ok H.X H.N hf
theorem Hd.slots : SlotsOf (cf K) "Program" progSl := chkSlots_ok (G := cf K) (He.ba (He.ba H.c.n.more).2).1 (He.ba (He.ba (He.ba H.c.n.more).2).2).1
theorem Hd.prop {f : Str} (hf : f ∈ progPr) : PropF (cf K) "Program" f (He.ma K (He.ga K "Program") f) (propG K (He.ga K "Program") f) := chkProp_ok (G := cf K) (List.all_eq_true.mp (He.ba (He.ba (He.ba (He.ba H.c.n.more).2).2).2).1 f hf)
theorem Hd.cm : ClX.CRead K (He.ga K "Program") (.type "type") ∧ ClX.CMet K (He.ga K "Program") (.type "type") "read" (He.ma K (He.ga K "Program") "read") (cmG K (He.ga K "Program") "read") := chkCm_ok (He.ba (He.ba (He.ba (He.ba (He.ba H.c.n.more).2).2).2).2).1
theorem Hd.ms {m : Str} (hf : m ∈ msn) : PySem.W.findIn K (.ref (He.ga K "Program")) m = some (some (.ref (He.ma K (He.ga K "Program") m))) ∧ PySem.W.isFn K (.ref (He.ma K (He.ga K "Program") m)) = true := chkM_ok (List.all_eq_true.mp (He.ba (He.ba (He.ba (He.ba (He.ba (He.ba H.c.n.more).2).2).2).2).2).1 m hf)
theorem Hd.nb : PySem.W.findIn K (.ref (He.ga K "Program")) "__bool__" = some none := He.eqO_ok (He.ba (He.ba (He.ba (He.ba (He.ba (He.ba (He.ba H.c.n.more).2).2).2).2).2).2).1
theorem Hd.ck : chkP K = true := (He.ba (He.ba (He.ba (He.ba (He.ba (He.ba (He.ba (He.ba H.c.n.more).2).2).2).2).2).2).2).1
theorem Hd.ow : Own (cf K) subP := ownP (He.ba (He.ba H.c.n.more).2).1 H.ck
theorem Hd.eqm : PySem.W.findIn K (.ref (He.ga K "Program")) "__eq__" = some (some (.ref (He.ma K (He.ga K "Program") "__eq__"))) ∧ PySem.W.isFn K (.ref (He.ma K (He.ga K "Program") "__eq__")) = true := chkM_ok (He.ba (He.ba (He.ba (He.ba (He.ba (He.ba (He.ba (He.ba (He.ba H.c.n.more).2).2).2).2).2).2).2).2).1
theorem Hd.erB : (errsE.all fun e => errB K e.1 e.2) = true := (He.ba (He.ba (He.ba (He.ba (He.ba (He.ba (He.ba (He.ba (He.ba (He.ba (He.ba H.c.n.more).2).2).2).2).2).2).2).2).2).1).1
theorem Hd.ctP : Ct ⟨P, w, mg, base, false, false⟩ (cf K) subP gP := ct_of (p := ⟨P, w, mg, base, false, false⟩) (K := K) (g := gP) H.ow (am ⟨H.free (H.fa (fm 54 rfl)), rfl⟩ (am ⟨H.free (H.fa (fm 59 rfl)), rfl⟩ (am ⟨H.free (H.fa (fm 53 rfl)), rfl⟩ (am ⟨H.free (H.fa (fm 52 rfl)), rfl⟩ (am ⟨H.free (H.fa (fm 64 rfl)), rfl⟩ (am ⟨H.free (H.fa (fm 65 rfl)), rfl⟩ (am (He.int_ok H.X H.N (H.fa (fm 40 rfl))) (am (He.int_ok H.X H.N (H.fa (fm 41 rfl))) (am (He.int_ok H.X H.N (H.fa (fm 42 rfl))) (am (He.int_ok H.X H.N (H.fa (fm 43 rfl))) (am (He.int_ok H.X H.N (H.fa (fm 44 rfl))) (am (He.int_ok H.X H.N (H.fa (fm 45 rfl))) (am (He.str_ok H.X H.N (H.fa (fm 46 rfl))) (am (He.str_ok H.X H.N (H.fa (fm 47 rfl))) (am (H.glo (H.fa (fm 34 rfl))) an))))))))))))))) (am (H.free (H.fa (fm 62 rfl))) (am (H.free (H.fa (fm 63 rfl))) an)) (am ⟨⟨_, rfl, rfl, H.free (H.fa (fm 48 rfl))⟩, fun z => nomatch z⟩ (am ⟨⟨_, rfl, rfl, H.free (H.fa (fm 49 rfl))⟩, fun z => nomatch z⟩ (am ⟨⟨_, rfl, rfl, H.free (H.fa (fm 50 rfl))⟩, fun z => nomatch z⟩ (am ⟨⟨_, rfl, rfl, H.free (H.fa (fm 51 rfl))⟩, fun z => nomatch z⟩ (am ⟨⟨_, rfl, rfl, H.free (H.fa (fm 52 rfl))⟩, fun z => nomatch z⟩ (am ⟨⟨_, rfl, rfl, H.free (H.fa (fm 53 rfl))⟩, fun z => nomatch z⟩ (am ⟨⟨_, rfl, rfl, H.free (H.fa (fm 54 rfl))⟩, fun z => nomatch z⟩ (am ⟨⟨_, rfl, rfl, H.free (H.fa (fm 55 rfl))⟩, fun z => nomatch z⟩ an)))))))) (am ⟨rfl, by decide⟩ (am ⟨rfl, by decide⟩ an))
theorem Hd.ctL : Ct ⟨P, w, mg, base, true, LQ⟩ (cf K) subP gL := ct_of (p := ⟨P, w, mg, base, true, LQ⟩) (K := K) (g := gL) H.ow (am ⟨H.free (H.fa (fm 54 rfl)), rfl⟩ (am ⟨H.free (H.fa (fm 59 rfl)), rfl⟩ (am ⟨H.free (H.fa (fm 53 rfl)), rfl⟩ (am ⟨H.free (H.fa (fm 52 rfl)), rfl⟩ (am ⟨H.free (H.fa (fm 64 rfl)), rfl⟩ (am ⟨H.free (H.fa (fm 65 rfl)), rfl⟩ (am (He.int_ok H.X H.N (H.fa (fm 40 rfl))) (am (He.int_ok H.X H.N (H.fa (fm 41 rfl))) (am (He.int_ok H.X H.N (H.fa (fm 42 rfl))) (am (He.int_ok H.X H.N (H.fa (fm 43 rfl))) (am (He.int_ok H.X H.N (H.fa (fm 44 rfl))) (am (He.int_ok H.X H.N (H.fa (fm 45 rfl))) (am (He.str_ok H.X H.N (H.fa (fm 46 rfl))) (am (He.str_ok H.X H.N (H.fa (fm 47 rfl))) (am (H.glo (H.fa (fm 34 rfl))) an))))))))))))))) (am (H.free (H.fa (fm 62 rfl))) (am (H.free (H.fa (fm 63 rfl))) (am (H.free (H.fa (fm 66 rfl))) an))) (am ⟨⟨_, rfl, rfl, H.free (H.fa (fm 48 rfl))⟩, fun z => nomatch z⟩ (am ⟨⟨_, rfl, rfl, H.free (H.fa (fm 49 rfl))⟩, fun z => nomatch z⟩ (am ⟨⟨_, rfl, rfl, H.free (H.fa (fm 50 rfl))⟩, fun z => nomatch z⟩ (am ⟨⟨_, rfl, rfl, H.free (H.fa (fm 51 rfl))⟩, fun z => nomatch z⟩ (am ⟨⟨_, rfl, rfl, H.free (H.fa (fm 52 rfl))⟩, fun z => nomatch z⟩ (am ⟨⟨_, rfl, rfl, H.free (H.fa (fm 53 rfl))⟩, fun z => nomatch z⟩ (am ⟨⟨_, rfl, rfl, H.free (H.fa (fm 54 rfl))⟩, fun z => nomatch z⟩ (am ⟨⟨_, rfl, rfl, H.free (H.fa (fm 55 rfl))⟩, fun z => nomatch z⟩ (am ⟨⟨_, rfl, rfl, H.free (H.fa (fm 56 rfl))⟩, fun z => nomatch z⟩ (am ⟨⟨_, rfl, rfl, H.free (H.fa (fm 57 rfl))⟩, fun z => nomatch z⟩ (am ⟨⟨_, rfl, rfl, H.free (H.fa (fm 58 rfl))⟩, fun _ => rfl⟩ (am ⟨⟨_, rfl, rfl, H.free (H.fa (fm 59 rfl))⟩, fun z => nomatch z⟩ (am ⟨⟨_, rfl, rfl, H.free (H.fa (fm 60 rfl))⟩, fun z => nomatch z⟩ (am ⟨⟨_, rfl, rfl, H.free (H.fa (fm 61 rfl))⟩, fun z => nomatch z⟩ an)))))))))))))) (am ⟨rfl, by decide⟩ (am ⟨rfl, by decide⟩ an))
end
def fs : List (Str × Fn) := (es ++ esL).map fun e => (e.nm, e.fn)
def l2 : List (Str × Prim) := [(Str.ofString "InvalidNames", pErr), (Str.ofString "InvalidSayings", pErr), (Str.ofString "InvalidBranches", pErr), (Str.ofString "InvalidText", pErr)]
def l : List (Str × Prim) := prmP (libW subP) 5 ir_Program___init__ ++ [(Str.ofString "_law_begun", pBeg), (Str.ofString "_law_cast", pCst)] ++ l2
theorem fs_ok : ∀ e ∈ es ++ esL, fs.lookup e.nm = some e.fn := lookup_fe (by decide +kernel)
theorem fsP {e : Fe} (h : e ∈ es) : fs.lookup e.nm = some e.fn := fs_ok e (List.mem_append_left _ h)
theorem fsL {e : Fe} (h : e ∈ esL) : fs.lookup e.nm = some e.fn := fs_ok e (List.mem_append_right _ h)
theorem l_ok : ∀ e ∈ l, l.lookup e.1 = some e.2 := lookup_nodup (by decide +kernel)
theorem no_all : (pnames.all fun f => (fs.lookup f).isNone) = true := by kernel_rfl
theorem no_ok : ∀ f ∈ pnames, fs.lookup f = none := fun f hf => Option.isNone_iff_eq_none.mp (List.all_eq_true.mp no_all f hf)
theorem l_mono : ∀ e ∈ l, PMono e.2 := by
  intro e he
  rcases List.mem_append.mp he with z | z
  · rcases List.mem_append.mp z with z | z
    · exact prmP_mono (libW_mono subP) _ _ e z
    · exact (am (p := fun e : Str × Prim => PMono e.2) pBeg_mono (am pCst_mono an)) e z
  · exact ((am pErr_mono (am pErr_mono (am pErr_mono (am pErr_mono an)))) : ∀ e ∈ l2, PMono e.2) e z
theorem hmC (K : PySem.W.Frag) : ∀ k, MonoC (CW (cf K) fs l k) := fun k => callW_mono (libW_mono subP) (fun C hC => primOf_mono l_mono C hC) k
theorem lB : l.lookup ("_law_begun" : Str) = some pBeg := l_ok (Str.ofString "_law_begun", pBeg) (List.mem_append_left _ (List.mem_append_right _ (List.mem_cons_self ..)))
theorem lC : l.lookup ("_law_cast" : Str) = some pCst := l_ok (Str.ofString "_law_cast", pCst) (List.mem_append_left _ (List.mem_append_right _ (List.mem_cons_of_mem _ (List.mem_cons_self ..))))
theorem noB : fs.lookup ("_law_begun" : Str) = none := by kernel_rfl
theorem noC : fs.lookup ("_law_cast" : Str) = none := by kernel_rfl
theorem pfH : PfH fs := { f_is_integer := fsP (e := e_is_integer) (em 0 rfl), f_is_name := fsP (e := e_is_name) (em 1 rfl), f_are_integers := fsP (e := e_are_integers) (em 2 rfl), f_written_integer := fsP (e := e_written_integer) (em 3 rfl), f_is_form := fsP (e := e_is_form) (em 4 rfl), f_is_saying := fsP (e := e_is_saying) (em 5 rfl), f_is_branch := fsP (e := e_is_branch) (em 6 rfl), f_wrong_name := fsP (e := e_wrong_name) (em 7 rfl), f_wrong_saying := fsP (e := e_wrong_saying) (em 8 rfl), f_places_in := fsP (e := e_places_in) (em 9 rfl), f_wrong_branch := fsP (e := e_wrong_branch) (em 10 rfl), f_form_words := fsP (e := e_form_words) (em 11 rfl), f_branch_lines := fsP (e := e_branch_lines) (em 12 rfl), f_program_lines := fsP (e := e_program_lines) (em 13 rfl), f_text_form := fsP (e := e_text_form) (em 14 rfl), f_text_saying := fsP (e := e_text_saying) (em 15 rfl), f_text_branch := fsP (e := e_text_branch) (em 16 rfl), f_text_program := fsP (e := e_text_program) (em 17 rfl), f_Program_read := fsP (e := e_Program_read) (em 18 rfl), f_Program_names := fsP (e := e_Program_names) (em 19 rfl), f_Program_sayings := fsP (e := e_Program_sayings) (em 20 rfl), f_Program_branches := fsP (e := e_Program_branches) (em 21 rfl), f_Program_places := fsP (e := e_Program_places) (em 22 rfl), f_Program_text := fsP (e := e_Program_text) (em 23 rfl), f_Program___len__ := fsP (e := e_Program___len__) (em 24 rfl), f_Program___eq__ := fsP (e := e_Program___eq__) (em 25 rfl), f_Program___str__ := fsP (e := e_Program___str__) (em 26 rfl), f_Program___repr__ := fsP (e := e_Program___repr__) (em 27 rfl) }
theorem plH : PlH (libW subP) fs l := ⟨no_ok, fun e he => l_ok e (List.mem_append_left _ (List.mem_append_left _ he))⟩
theorem l2_ok : ∀ e ∈ l2, l.lookup e.1 = some e.2 := fun e he => l_ok e (List.mem_append_right _ he)
theorem l2_no : ∀ e ∈ l2, fs.lookup e.1 = none := fun e he => Option.isNone_iff_eq_none.mp (List.all_eq_true.mp (show (l2.all fun e => (fs.lookup e.1).isNone) = true by kernel_rfl) e he)
section
variable {P : Program} {w : World} {K : PySem.W.Frag} {h base : Heap} {mg : Str → Option Value} {fd : Df → FuncData} (H : Hd K h mg) (hF : ∀ d ∈ dfs, d.FunD K (fd d))
include H hF
theorem Hd.pm : Pm ⟨P, w, mg, base, false, false⟩ (cf K) subP gP fs l es (fun e => fd e.d) where
  fl := rfl
  ct := H.ctP
  lq := rfl
  ans := rfl
  err := (am ⟨"index", ⟨errB_ok (List.all_eq_true.mp H.erB ("InvalidNames", "index") (List.mem_of_getElem? (i := 0) rfl)), H.glo (H.fa (fm 36 rfl)), (show errFl "InvalidNames" = [Str.ofString "index"] from by decide +kernel), ⟨d_InvalidNames, fd d_InvalidNames, "self", "index", ⟨14, 8, 14, 12⟩, ⟨14, 8, 14, 18⟩, ⟨14, 21, 14, 26⟩, ⟨14, 8, 14, 26⟩, hF _ (dm 45 rfl), rfl, by kernel_rfl, ⟨rfl, rfl, rfl, by decide +kernel, rfl, by decide +kernel, by decide +kernel⟩, Df.binds (hF _ (dm 45 rfl)) (by kernel_rfl) (by decide +kernel), by decide +kernel, by decide +kernel⟩⟩, l2_no _ (List.mem_of_getElem? (i := 0) rfl), l2_ok _ (List.mem_of_getElem? (i := 0) rfl)⟩ (am ⟨"index", ⟨errB_ok (List.all_eq_true.mp H.erB ("InvalidSayings", "index") (List.mem_of_getElem? (i := 1) rfl)), H.glo (H.fa (fm 37 rfl)), (show errFl "InvalidSayings" = [Str.ofString "index"] from by decide +kernel), ⟨d_InvalidSayings, fd d_InvalidSayings, "self", "index", ⟨18, 8, 18, 12⟩, ⟨18, 8, 18, 18⟩, ⟨18, 21, 18, 26⟩, ⟨18, 8, 18, 26⟩, hF _ (dm 46 rfl), rfl, by kernel_rfl, ⟨rfl, rfl, rfl, by decide +kernel, rfl, by decide +kernel, by decide +kernel⟩, Df.binds (hF _ (dm 46 rfl)) (by kernel_rfl) (by decide +kernel), by decide +kernel, by decide +kernel⟩⟩, l2_no _ (List.mem_of_getElem? (i := 1) rfl), l2_ok _ (List.mem_of_getElem? (i := 1) rfl)⟩ (am ⟨"index", ⟨errB_ok (List.all_eq_true.mp H.erB ("InvalidBranches", "index") (List.mem_of_getElem? (i := 2) rfl)), H.glo (H.fa (fm 38 rfl)), (show errFl "InvalidBranches" = [Str.ofString "index"] from by decide +kernel), ⟨d_InvalidBranches, fd d_InvalidBranches, "self", "index", ⟨22, 8, 22, 12⟩, ⟨22, 8, 22, 18⟩, ⟨22, 21, 22, 26⟩, ⟨22, 8, 22, 26⟩, hF _ (dm 47 rfl), rfl, by kernel_rfl, ⟨rfl, rfl, rfl, by decide +kernel, rfl, by decide +kernel, by decide +kernel⟩, Df.binds (hF _ (dm 47 rfl)) (by kernel_rfl) (by decide +kernel), by decide +kernel, by decide +kernel⟩⟩, l2_no _ (List.mem_of_getElem? (i := 2) rfl), l2_ok _ (List.mem_of_getElem? (i := 2) rfl)⟩ (am ⟨"given", ⟨errB_ok (List.all_eq_true.mp H.erB ("InvalidText", "given") (List.mem_of_getElem? (i := 3) rfl)), H.glo (H.fa (fm 39 rfl)), (show errFl "InvalidText" = [Str.ofString "given"] from by decide +kernel), ⟨d_InvalidText, fd d_InvalidText, "self", "given", ⟨10, 8, 10, 12⟩, ⟨10, 8, 10, 18⟩, ⟨10, 21, 10, 26⟩, ⟨10, 8, 10, 26⟩, hF _ (dm 48 rfl), rfl, by kernel_rfl, ⟨rfl, rfl, rfl, by decide +kernel, rfl, by decide +kernel, by decide +kernel⟩, Df.binds (hF _ (dm 48 rfl)) (by kernel_rfl) (by decide +kernel), by decide +kernel, by decide +kernel⟩⟩, l2_no _ (List.mem_of_getElem? (i := 3) rfl), l2_ok _ (List.mem_of_getElem? (i := 3) rfl)⟩ an))))
  ok := (am (c_is_integer.ok (hF _ (dm 0 rfl))) (am (c_is_name.ok (hF _ (dm 1 rfl))) (am (c_are_integers.ok (hF _ (dm 2 rfl))) (am (c_written_integer.ok (hF _ (dm 3 rfl))) (am (c_is_form.ok (hF _ (dm 4 rfl))) (am (c_is_saying.ok (hF _ (dm 5 rfl))) (am (c_is_branch.ok (hF _ (dm 6 rfl))) (am (c_wrong_name.ok (hF _ (dm 7 rfl))) (am (c_wrong_saying.ok (hF _ (dm 8 rfl))) (am (c_places_in.ok (hF _ (dm 9 rfl))) (am (c_wrong_branch.ok (hF _ (dm 10 rfl))) (am (c_form_words.ok (hF _ (dm 11 rfl))) (am (c_branch_lines.ok (hF _ (dm 12 rfl))) (am (c_program_lines.ok (hF _ (dm 13 rfl))) (am (c_text_form.ok (hF _ (dm 14 rfl))) (am (c_text_saying.ok (hF _ (dm 15 rfl))) (am (c_text_branch.ok (hF _ (dm 16 rfl))) (am (c_text_program.ok (hF _ (dm 17 rfl))) (am (c_Program_read.ok (hF _ (dm 18 rfl))) (am (c_Program_names.ok (hF _ (dm 19 rfl))) (am (c_Program_sayings.ok (hF _ (dm 20 rfl))) (am (c_Program_branches.ok (hF _ (dm 21 rfl))) (am (c_Program_places.ok (hF _ (dm 22 rfl))) (am (c_Program_text.ok (hF _ (dm 23 rfl))) (am (c_Program___len__.ok (hF _ (dm 24 rfl))) (am (c_Program___eq__.ok (hF _ (dm 25 rfl))) (am (c_Program___str__.ok (hF _ (dm 26 rfl))) (am (c_Program___repr__.ok (hF _ (dm 27 rfl))) an))))))))))))))))))))))))))))
  bd := (am (c_is_integer.bd (hF _ (dm 0 rfl))) (am (c_is_name.bd (hF _ (dm 1 rfl))) (am (c_are_integers.bd (hF _ (dm 2 rfl))) (am (c_written_integer.bd (hF _ (dm 3 rfl))) (am (c_is_form.bd (hF _ (dm 4 rfl))) (am (c_is_saying.bd (hF _ (dm 5 rfl))) (am (c_is_branch.bd (hF _ (dm 6 rfl))) (am (c_wrong_name.bd (hF _ (dm 7 rfl))) (am (c_wrong_saying.bd (hF _ (dm 8 rfl))) (am (c_places_in.bd (hF _ (dm 9 rfl))) (am (c_wrong_branch.bd (hF _ (dm 10 rfl))) (am (c_form_words.bd (hF _ (dm 11 rfl))) (am (c_branch_lines.bd (hF _ (dm 12 rfl))) (am (c_program_lines.bd (hF _ (dm 13 rfl))) (am (c_text_form.bd (hF _ (dm 14 rfl))) (am (c_text_saying.bd (hF _ (dm 15 rfl))) (am (c_text_branch.bd (hF _ (dm 16 rfl))) (am (c_text_program.bd (hF _ (dm 17 rfl))) (am (c_Program_read.bd (hF _ (dm 18 rfl))) (am (c_Program_names.bd (hF _ (dm 19 rfl))) (am (c_Program_sayings.bd (hF _ (dm 20 rfl))) (am (c_Program_branches.bd (hF _ (dm 21 rfl))) (am (c_Program_places.bd (hF _ (dm 22 rfl))) (am (c_Program_text.bd (hF _ (dm 23 rfl))) (am (c_Program___len__.bd (hF _ (dm 24 rfl))) (am (c_Program___eq__.bd (hF _ (dm 25 rfl))) (am (c_Program___str__.bd (hF _ (dm 26 rfl))) (am (c_Program___repr__.bd (hF _ (dm 27 rfl))) an))))))))))))))))))))))))))))
  fs := fun e he => fsP he
  lm := l_mono
  slots := H.slots
  fn := (am (.inr (.inr ⟨e_is_integer, (em 0 rfl), rfl, H.glo (H.fa (fm 0 rfl))⟩)) (am (.inr (.inr ⟨e_is_name, (em 1 rfl), rfl, H.glo (H.fa (fm 1 rfl))⟩)) (am (.inr (.inr ⟨e_are_integers, (em 2 rfl), rfl, H.glo (H.fa (fm 2 rfl))⟩)) (am (.inr (.inr ⟨e_written_integer, (em 3 rfl), rfl, H.glo (H.fa (fm 3 rfl))⟩)) (am (.inr (.inr ⟨e_is_form, (em 4 rfl), rfl, H.glo (H.fa (fm 4 rfl))⟩)) (am (.inr (.inr ⟨e_is_saying, (em 5 rfl), rfl, H.glo (H.fa (fm 5 rfl))⟩)) (am (.inr (.inr ⟨e_is_branch, (em 6 rfl), rfl, H.glo (H.fa (fm 6 rfl))⟩)) (am (.inr (.inr ⟨e_wrong_name, (em 7 rfl), rfl, H.glo (H.fa (fm 7 rfl))⟩)) (am (.inr (.inr ⟨e_wrong_saying, (em 8 rfl), rfl, H.glo (H.fa (fm 8 rfl))⟩)) (am (.inr (.inr ⟨e_places_in, (em 9 rfl), rfl, H.glo (H.fa (fm 9 rfl))⟩)) (am (.inr (.inr ⟨e_wrong_branch, (em 10 rfl), rfl, H.glo (H.fa (fm 10 rfl))⟩)) (am (.inr (.inr ⟨e_form_words, (em 11 rfl), rfl, H.glo (H.fa (fm 11 rfl))⟩)) (am (.inr (.inr ⟨e_branch_lines, (em 12 rfl), rfl, H.glo (H.fa (fm 12 rfl))⟩)) (am (.inr (.inr ⟨e_program_lines, (em 13 rfl), rfl, H.glo (H.fa (fm 13 rfl))⟩)) (am (.inr (.inr ⟨e_text_form, (em 14 rfl), rfl, H.glo (H.fa (fm 14 rfl))⟩)) (am (.inr (.inr ⟨e_text_saying, (em 15 rfl), rfl, H.glo (H.fa (fm 15 rfl))⟩)) (am (.inr (.inr ⟨e_text_branch, (em 16 rfl), rfl, H.glo (H.fa (fm 16 rfl))⟩)) (am (.inr (.inl rfl)) (am (.inr (.inr ⟨e_text_program, (em 17 rfl), rfl, H.glo (H.fa (fm 18 rfl))⟩)) (am (.inl rfl) an))))))))))))))))))))
theorem Hd.pr : Pr ⟨P, w, mg, base, false, false⟩ (cf K) subP gP fs l es (fun e => fd e.d) (d_bp.ad K) (fd d_bp) (fd d_init) "self" "names" "sayings" "branches" nI ir_Program___init__ where
  pm := H.pm hF
  mgP := H.glo (H.fa (fm 34 rfl))
  mkC := He.mkr_ok (H.fa (fm 35 rfl))
  mgB := H.glo (H.fa (fm 17 rfl))
  kpB := (hF _ (dm 43 rfl)).kp
  bdB := Df.binds (ps := ["lines"]) (hF _ (dm 43 rfl)) (by kernel_rfl) (by decide +kernel)
  bp := fun C' k hC' => fn_bparts (k := k) (q1 := ⟨176, 4, 176, 9⟩) (q2 := ⟨176, 12, 176, 14⟩) (q3 := ⟨176, 4, 176, 14⟩) (q4 := ⟨177, 8, 177, 12⟩) (q5 := ⟨177, 16, 177, 21⟩) (q6 := ⟨178, 11, 178, 15⟩) (q7 := ⟨178, 17, 178, 18⟩) (q8 := ⟨178, 16, 178, 18⟩) (q9 := ⟨178, 11, 178, 19⟩) (q10 := ⟨178, 23, 178, 32⟩) (q11 := ⟨178, 11, 178, 32⟩) (q12 := ⟨178, 8, 183, 34⟩) (q13 := ⟨179, 12, 179, 17⟩) (q14 := ⟨179, 12, 179, 24⟩) (q15 := ⟨179, 26, 179, 30⟩) (q16 := ⟨179, 25, 179, 31⟩) (q17 := ⟨179, 12, 179, 32⟩) (q18 := ⟨179, 12, 179, 32⟩) (q19 := ⟨180, 13, 180, 16⟩) (q20 := ⟨180, 17, 180, 22⟩) (q21 := ⟨180, 13, 180, 23⟩) (q22 := ⟨180, 27, 180, 28⟩) (q23 := ⟨180, 13, 180, 28⟩) (q24 := ⟨180, 32, 180, 37⟩) (q25 := ⟨180, 39, 180, 40⟩) (q26 := ⟨180, 38, 180, 40⟩) (q27 := ⟨180, 32, 180, 41⟩) (q28 := ⟨180, 43, 180, 44⟩) (q29 := ⟨180, 42, 180, 44⟩) (q30 := ⟨180, 32, 180, 45⟩) (q31 := ⟨180, 47, 180, 48⟩) (q32 := ⟨180, 46, 180, 48⟩) (q33 := ⟨180, 32, 180, 49⟩) (q34 := ⟨180, 53, 180, 60⟩) (q35 := ⟨180, 32, 180, 60⟩) (q36 := ⟨180, 13, 180, 60⟩) (q37 := ⟨181, 19, 181, 23⟩) (q38 := ⟨181, 12, 181, 23⟩) (q39 := ⟨183, 12, 183, 17⟩) (q40 := ⟨183, 19, 183, 20⟩) (q41 := ⟨183, 18, 183, 20⟩) (q42 := ⟨183, 12, 183, 21⟩) (q43 := ⟨177, 4, 183, 34⟩) (q44 := ⟨183, 12, 183, 28⟩) (q45 := ⟨183, 29, 183, 33⟩) (q46 := ⟨183, 12, 183, 34⟩) (q47 := ⟨183, 12, 183, 34⟩) (q48 := ⟨180, 8, 183, 34⟩) (q49 := ⟨184, 11, 184, 16⟩) (q50 := ⟨184, 4, 184, 16⟩) (hF _ (dm 43 rfl)) ⟨rfl, rfl, rfl, by decide +kernel, rfl, by decide +kernel, by decide +kernel⟩ ⟨by kernel_rfl, by kernel_rfl, by kernel_rfl⟩ (H.free (H.fa (fm 49 rfl))) (by kernel_rfl) (by kernel_rfl) (by kernel_rfl) hC'
  ini := fun k kn er => fn_init (q0 := ⟨109, 8, 109, 12⟩) (q1 := ⟨109, 8, 109, 22⟩) (q2 := ⟨109, 25, 109, 30⟩) (q3 := ⟨109, 8, 109, 30⟩) (q4 := ⟨110, 8, 110, 12⟩) (q5 := ⟨110, 8, 110, 24⟩) (q6 := ⟨110, 27, 110, 34⟩) (q7 := ⟨110, 8, 110, 34⟩) (q8 := ⟨111, 8, 111, 12⟩) (q9 := ⟨111, 8, 111, 25⟩) (qa := ⟨111, 28, 111, 36⟩) (qb := ⟨111, 8, 111, 36⟩) kn er rfl rfl (hF _ (dm 44 rfl)) s_init (List.take_append_drop 6 (defBody (meth 30 1))).symm c_init (by kernel_rfl) ⟨by kernel_rfl, by kernel_rfl, by kernel_rfl, by kernel_rfl⟩ H.slots rfl rfl rfl
  kwI := (am (.inl ⟨rfl, ["branches", "names", "sayings"], rfl, FunD.kb (hF _ (dm 44 rfl)) (fun _ _ _ _ _ _ first us ws h1 h2 h3 => match first, us, ws, h1, h2, h3 with | [_], [], [_, _, _], _, _, _ => rfl)⟩) an)
  kwP := FunD.kb (hF _ (dm 44 rfl)) (fun _ _ _ _ _ _ first us ws h1 h2 h3 => match first, us, ws, h1, h2, h3 with | [_], [_, _, _], [], _, _, _ => rfl)
  no := no_ok
  lp := fun e he => .inl (l_ok e (List.mem_append_left _ (List.mem_append_left _ he)))
  mcl := fun mm key hl => (show ∀ e ∈ gP.mcl, ∃ e' ∈ es, e'.nm = e.2 ∧ ∀ d, (libW subP).mok e.2 d = true → MthOk (cf K) e.1 (e'.d.ad K) d from (am ⟨e_Program_read, (em 18 rfl), rfl, fun d hd => by rw [subP_mok hd]; exact .cls H.cm.1 H.cm.2⟩ an)) _ (lookup_mem hl)
  mkw := fun e' he' key hk => by
    obtain ⟨e, he, h1, h2, h3⟩ := (show ∀ e' ∈ gP.mkw, ∃ e ∈ es, gP.mcl.lookup e'.1 = some e.nm ∧ (∀ d, (libW subP).mok e.nm d = true → MthOk (cf K) e'.1 (e.d.ad K) d) ∧ ∃ ks : List Str, e'.2.1 = ks.map some ∧ KBs K (fd e.d) e.ps 1 ks e'.2.2.1 e'.2.2.2 from an) e' he'
    have h4 := Option.some.inj (h1.symm.trans hk)
    exact ⟨e, he, h4, fun d hd => h2 d (by rw [h4]; exact hd), h3⟩
  att := fun f key hl => (show ∀ e ∈ gP.att, e.2 = e.1 ∧ ((∃ i : Nat, progSl[i]? = some e.1) ∨ (e.1 ∈ progPr ∧ ∃ e' ∈ es, e'.nm = ("Program." : Str) ++ e.1 ∧ e'.ps.length = 1 ∧ PropF (cf K) "Program" e.1 (He.ma K (He.ga K "Program") e.1) (e'.d.ad K))) from (am ⟨rfl, .inl ⟨1, rfl⟩⟩ (am ⟨rfl, .inl ⟨2, rfl⟩⟩ (am ⟨rfl, .inl ⟨0, rfl⟩⟩ (am ⟨rfl, .inr ⟨(List.mem_of_getElem? (i := 0) rfl), e_Program_names, (em 19 rfl), by kernel_rfl, rfl, H.prop (List.mem_of_getElem? (i := 0) rfl)⟩⟩ (am ⟨rfl, .inr ⟨(List.mem_of_getElem? (i := 1) rfl), e_Program_sayings, (em 20 rfl), by kernel_rfl, rfl, H.prop (List.mem_of_getElem? (i := 1) rfl)⟩⟩ (am ⟨rfl, .inr ⟨(List.mem_of_getElem? (i := 2) rfl), e_Program_branches, (em 21 rfl), by kernel_rfl, rfl, H.prop (List.mem_of_getElem? (i := 2) rfl)⟩⟩ (am ⟨rfl, .inr ⟨(List.mem_of_getElem? (i := 3) rfl), e_Program_places, (em 22 rfl), by kernel_rfl, rfl, H.prop (List.mem_of_getElem? (i := 3) rfl)⟩⟩ (am ⟨rfl, .inr ⟨(List.mem_of_getElem? (i := 4) rfl), e_Program_text, (em 23 rfl), by kernel_rfl, rfl, H.prop (List.mem_of_getElem? (i := 4) rfl)⟩⟩ an))))))))) _ (lookup_mem hl)
  ms := (am (.inr ⟨e_Program___len__, (em 24 rfl), by kernel_rfl, rfl, (H.ms (List.mem_of_getElem? (i := 0) rfl)).1, (H.ms (List.mem_of_getElem? (i := 0) rfl)).2⟩) (am (.inr ⟨e_Program___repr__, (em 27 rfl), by kernel_rfl, rfl, (H.ms (List.mem_of_getElem? (i := 1) rfl)).1, (H.ms (List.mem_of_getElem? (i := 1) rfl)).2⟩) (am (.inr ⟨e_Program___str__, (em 26 rfl), by kernel_rfl, rfl, (H.ms (List.mem_of_getElem? (i := 2) rfl)).1, (H.ms (List.mem_of_getElem? (i := 2) rfl)).2⟩) an)))
  nb := H.nb
  eqs := .inr ⟨e_Program___eq__, (em 25 rfl), by kernel_rfl, rfl, H.eqm.1, H.eqm.2, (chkP_ne H.ck).1, (chkP_ne H.ck).2⟩
theorem Hd.lw : Lw ⟨P, w, mg, base, true, LQ⟩ (cf K) subP gP gL fs l esL (fun e => fd e.d) e__law_begun e__law_cast (fd e__law_begun.d) (fd e__law_cast.d) "_law_pail" "_law_many" where
  ct := H.ctL
  err := rfl
  lmd := (am (.inr (c__law_any_of.ok (hF _ (dm 28 rfl)))) (am (.inr (c__law_tags.ok (hF _ (dm 29 rfl)))) (am (.inr (c__law_wide.ok (hF _ (dm 30 rfl)))) (am (.inr (c__law_form.ok (hF _ (dm 31 rfl)))) (am (.inr (c__law_parts.ok (hF _ (dm 32 rfl)))) (am (.inr (c__law_words.ok (hF _ (dm 33 rfl)))) (am (.inr (c__law_arm_lines.ok (hF _ (dm 34 rfl)))) (am (.inr (c__law_lines.ok (hF _ (dm 35 rfl)))) (am (.inr (c__law_sheet.ok (hF _ (dm 36 rfl)))) (am (.inr (c__law_spots.ok (hF _ (dm 37 rfl)))) (am (.inr (c__law_built.ok (hF _ (dm 38 rfl)))) (am (.inr (c__law_right.ok (hF _ (dm 39 rfl)))) (am (.inr (c_law.ok (hF _ (dm 40 rfl)))) an)))))))))))))
  lam := fun k kn => LamOk.nil rfl
  bd := (am (c__law_any_of.bd (hF _ (dm 28 rfl))) (am (c__law_tags.bd (hF _ (dm 29 rfl))) (am (c__law_wide.bd (hF _ (dm 30 rfl))) (am (c__law_form.bd (hF _ (dm 31 rfl))) (am (c__law_parts.bd (hF _ (dm 32 rfl))) (am (c__law_words.bd (hF _ (dm 33 rfl))) (am (c__law_arm_lines.bd (hF _ (dm 34 rfl))) (am (c__law_lines.bd (hF _ (dm 35 rfl))) (am (c__law_sheet.bd (hF _ (dm 36 rfl))) (am (c__law_spots.bd (hF _ (dm 37 rfl))) (am (c__law_built.bd (hF _ (dm 38 rfl))) (am (c__law_right.bd (hF _ (dm 39 rfl))) (am (c_law.bd (hF _ (dm 40 rfl))) an)))))))))))))
  fl := fun e he => fsL he
  okB := c__law_begun.ok (hF _ (dm 41 rfl))
  bdB := c__law_begun.bd (hF _ (dm 41 rfl))
  psB := rfl
  nmB := rfl
  noB := noB
  lB := lB
  beg := begun_ok
  okC := c__law_cast.ok (hF _ (dm 42 rfl))
  bdC := c__law_cast.bd (hF _ (dm 42 rfl))
  psC := rfl
  nmC := rfl
  noC := noC
  lC := lC
  cst := cast_w
  fn := (am (.inl (List.mem_of_getElem? (i := 0) rfl)) (am (.inl (List.mem_of_getElem? (i := 1) rfl)) (am (.inl (List.mem_of_getElem? (i := 2) rfl)) (am (.inl (List.mem_of_getElem? (i := 3) rfl)) (am (.inl (List.mem_of_getElem? (i := 4) rfl)) (am (.inl (List.mem_of_getElem? (i := 5) rfl)) (am (.inl (List.mem_of_getElem? (i := 6) rfl)) (am (.inl (List.mem_of_getElem? (i := 7) rfl)) (am (.inl (List.mem_of_getElem? (i := 8) rfl)) (am (.inl (List.mem_of_getElem? (i := 9) rfl)) (am (.inl (List.mem_of_getElem? (i := 10) rfl)) (am (.inl (List.mem_of_getElem? (i := 11) rfl)) (am (.inl (List.mem_of_getElem? (i := 12) rfl)) (am (.inl (List.mem_of_getElem? (i := 13) rfl)) (am (.inl (List.mem_of_getElem? (i := 14) rfl)) (am (.inl (List.mem_of_getElem? (i := 15) rfl)) (am (.inl (List.mem_of_getElem? (i := 16) rfl)) (am (.inl (List.mem_of_getElem? (i := 17) rfl)) (am (.inl (List.mem_of_getElem? (i := 18) rfl)) (am (.inl (List.mem_of_getElem? (i := 19) rfl)) (am (.inr ⟨e__law_begun, (List.mem_cons_self ..), rfl, H.glo (H.fa (fm 19 rfl))⟩) (am (.inr ⟨e__law_cast, (List.mem_cons_of_mem _ (List.mem_cons_self ..)), rfl, H.glo (H.fa (fm 20 rfl))⟩) (am (.inr ⟨e__law_any_of, (List.mem_cons_of_mem _ (List.mem_cons_of_mem _ (lm 0 rfl))), rfl, H.glo (H.fa (fm 21 rfl))⟩) (am (.inr ⟨e__law_tags, (List.mem_cons_of_mem _ (List.mem_cons_of_mem _ (lm 1 rfl))), rfl, H.glo (H.fa (fm 22 rfl))⟩) (am (.inr ⟨e__law_wide, (List.mem_cons_of_mem _ (List.mem_cons_of_mem _ (lm 2 rfl))), rfl, H.glo (H.fa (fm 23 rfl))⟩) (am (.inr ⟨e__law_form, (List.mem_cons_of_mem _ (List.mem_cons_of_mem _ (lm 3 rfl))), rfl, H.glo (H.fa (fm 24 rfl))⟩) (am (.inr ⟨e__law_parts, (List.mem_cons_of_mem _ (List.mem_cons_of_mem _ (lm 4 rfl))), rfl, H.glo (H.fa (fm 25 rfl))⟩) (am (.inr ⟨e__law_words, (List.mem_cons_of_mem _ (List.mem_cons_of_mem _ (lm 5 rfl))), rfl, H.glo (H.fa (fm 26 rfl))⟩) (am (.inr ⟨e__law_arm_lines, (List.mem_cons_of_mem _ (List.mem_cons_of_mem _ (lm 6 rfl))), rfl, H.glo (H.fa (fm 27 rfl))⟩) (am (.inr ⟨e__law_lines, (List.mem_cons_of_mem _ (List.mem_cons_of_mem _ (lm 7 rfl))), rfl, H.glo (H.fa (fm 28 rfl))⟩) (am (.inr ⟨e__law_sheet, (List.mem_cons_of_mem _ (List.mem_cons_of_mem _ (lm 8 rfl))), rfl, H.glo (H.fa (fm 29 rfl))⟩) (am (.inr ⟨e__law_spots, (List.mem_cons_of_mem _ (List.mem_cons_of_mem _ (lm 9 rfl))), rfl, H.glo (H.fa (fm 30 rfl))⟩) (am (.inr ⟨e__law_built, (List.mem_cons_of_mem _ (List.mem_cons_of_mem _ (lm 10 rfl))), rfl, H.glo (H.fa (fm 31 rfl))⟩) (am (.inr ⟨e__law_right, (List.mem_cons_of_mem _ (List.mem_cons_of_mem _ (lm 11 rfl))), rfl, H.glo (H.fa (fm 32 rfl))⟩) (am (.inr ⟨e_law, (List.mem_cons_of_mem _ (List.mem_cons_of_mem _ (lm 12 rfl))), rfl, H.glo (H.fa (fm 33 rfl))⟩) an)))))))))))))))))))))))))))))))))))
  kw := fun e he => he
  mcl := rfl
  mkw := rfl
  att := rfl
end
theorem tblH {K : PySem.W.Frag} : ∀ q ∈ (cf K).T, ∃ t ∈ tfs.map (fun d => d.tab K), q.1 = t.2 := fun q hq => by
  obtain ⟨d, hd, rfl⟩ := List.mem_map.mp (show q ∈ tblOf tfs K from hq)
  exact ⟨_, List.mem_map.mpr ⟨d, hd, rfl⟩, rfl⟩
theorem tabH {K : PySem.W.Frag} {p : Addr × Addr → Prop} (h : ∀ d ∈ tfs, p (d.tab K)) : ∀ t ∈ tfs.map (fun d => d.tab K), p t := fun t ht => by
  obtain ⟨d, hd, rfl⟩ := List.mem_map.mp ht
  exact h d hd
theorem fin {P : Program} {w : World} {K : PySem.W.Frag} {mg mb : Str → Option Value} {fa a : Addr} {s1 : Shared} {vs : List Value} {ns : List Int} {k : Nat} (H : Hd K s1.heap mg) (hfa : mg ("law" : Str) = some (.ref fa)) (bn : s1.heap.Ns builtinsNs mb) (bb : ∀ x : Str, x ≠ "__name__" → mb x = bootBuiltins x) (lim : s1.heap.NoLimit) (g0 : s1.gens = #[])
    (ha : s1.heap.get? a = some { cls := .type "list", data := .seq vs.toArray }) (hi : IntsAre vs ns) (hl : ns.length ≤ sizeLine) (room : Room k callerA) (bmn : ∃ (bm : Addr) (ob : Obj), mg "__builtins__" = some (.ref bm) ∧ bm ≠ builtinsNs ∧ s1.heap.get? bm = some ob ∧ ob.cls = .type "module" ∧ ob.dict = some builtinsNs ∧ ob.data = .plain) (hC : ∀ Q : Rv → Prop, Q (.v (.bl true)) → CW (cf K) fs l k "law" [.lst (ns.map D.int)] Q E0) :
    codeAny (model P w) callerA (.call (.ref fa) ⟨[.ref a], []⟩) (fun r s' => r = .ok (.ret (.bool true)) ∧ OldK s1.heap s'.heap ∧ s'.os = s1.os ∧ AllBare s'.gens) s1 := by
  obtain ⟨fd, hF⟩ := pick_fd H.c.n.defs (dm 40 rfl)
  have e := hfa.symm.trans (H.glo (H.fa (fm 33 rfl)))
  cases e
  exact law_G (G := cf K) (C := CW (cf K) fs l k) (k := k) (fd := fd e_law.d) (x := "_law_script") (nm := "law") (lq := LQ) (cs := tfs.map fun d => d.tab K) tblH H.X H.N bn bb lim g0 (fun t ht => tabH (p := fun t => s1.heap.get? t.2 = some { cls := .none, data := .fields #[] }) (fun d hd => H.c.empty d hd) t ht) (fun t ht => tabH (p := fun t => K.lookup t.2 = none) (fun d hd => H.c.out d hd) t ht) (fun t ht => tabH (p := fun t => PySem.W.CodeHd s1.heap t.1 t.2) (fun d hd => PySem.W.codeHd_of_K H.X (H.c.hd d hd)) t ht) (fun _ => bmn) ha hi hl room (fun base _ _ hTB => ((H.lw hF (base := base)).all (H.pr hF (base := base)) k).defs e_law (lm 12 rfl)) (fun s u => Df.bindsA (hF _ (dm 40 rfl)) c_law.pl c_law.nd s [u] rfl) hC (hmC K k)
end K08
namespace K08
open PySem L2 PyProof.Rows En
/-! LEVEL 25 AFTER K08c -/
theorem lgD : LgD fs l := ⟨noC, lC, (fsL (e := e__law_any_of) (lm 0 rfl)), (fsL (e := e__law_tags) (lm 1 rfl)), (fsL (e := e__law_wide) (lm 2 rfl)), (fsL (e := e__law_form) (lm 3 rfl))⟩
theorem lgB : LgB fs := ⟨(fsL (e := e__law_words) (lm 5 rfl)), (fsL (e := e__law_arm_lines) (lm 6 rfl)), (fsL (e := e__law_lines) (lm 7 rfl)), (fsL (e := e__law_sheet) (lm 8 rfl)), (fsL (e := e__law_built) (lm 10 rfl))⟩
theorem told (K : PySem.W.Frag) {ns : List Int} (h1 : ns.length ≤ 63) (h2 : ∀ n ∈ ns, Builtin.Int.intBits n ≤ 1048576) {Q : Rv → Prop} (q : Q (.v (.bl true))) : CW (cf K) fs l 25 "law" [.lst (ns.map D.int)] Q E0 :=
  k08_law_ok (G := cf K) rfl (hmC K) pfH plH (fsL (e := e_law) (lm 12 rfl)) noB lB (k := 12) (fun Q E q => k08_right_ok (G := cf K) rfl (hmC K) pfH plH lgD lgB (fsL (e := e__law_parts) (lm 4 rfl)) (fsL (e := e__law_spots) (lm 9 rfl)) (fsL (e := e__law_right) (lm 11 rfl)) (k := 12) q) h1 h2 q
end K08
open PySem PySem.W PySem.Calls PyProof.Rows
theorem PySem.Challenge.cw_fallranks_k08_whole_places_in_order_holds : PySem.Challenge.rw_fallranks_k08_whole_places_in_order.Holds := by
  w_on; o_law
  k_head
  case hw => w_witness2
  case hc =>
    refine Att.attach_callB (l := PySem.Challenge.rw_fallranks_k08_whole_places_in_order) (n := 63) rfl (by kernel_rfl) fun w s₀ s₁ mg mb fa o pm cd doc a vs ns G Y ho hd hcd hmg hobj hints hlen hbits hg => ?_
    have KX := kIn_of Y
    have c := En.says_k (ex := K08.ex) (fn := K08.dfs) Y (by kernel_rfl)
    exact K08.fin (k := 25) ⟨KX, G.T.g, c⟩ hmg G.T.b G.T.builtins G.T.nolimit hg hobj hints (Nat.le_trans hlen (by decide)) ⟨rfl, by decide, by decide⟩ G.T.bmain fun Q q => K08.told _ hlen hbits q

import PyProof.Rows.All
import Wide.All
import OpenK.AllK
import Wide.FinOn
import HandS.ForMost
import HandS.Walk
import HandS.TupAny
import HandS.TupLe
import HandS.Zip
import HandS.IsInst
import HandS.Style
import HandS.Exc
import KE.DataMinMax
import HandS.SortKw
import KE.KUnpack
import HandS.Base
import HandS.Call
import HandS.Ends
import HandS.HeadEnd
import HandS.Defaults
import HandS.Words
import HandS.SetFor
import HandS.Strs
import HandS.Conv
import KE.GoesEnum
import KE.KUnpackStar
import HandS.HeadHook3
import HandS.HeadHook2
import HandS.Head0
import HandS.Head1
import HandS.Head2
import HandS.HeadHook1
import KE.KStateDown
import Lean
import PySem.Challenge.RW_giveway_k12_flat_code
set_option Elab.async false
set_option linter.all false
set_option maxRecDepth 100000
set_option maxHeartbeats 4000000
/-! GA: abstract values, the small language, its meaning. -/
namespace G
open PySem L2

/-- abstract values: tuples, lists, dicts inline; ref: a cell of the abstract heap; fn: a function (class) of the module; scr: the script -/
inductive AV where
  | non | bl (b : Bool) | int (i : Int) | str (x : Str) | tup (xs : List AV) | lst (xs : List AV) | dct (ks vs : List AV)
  | ref (n : Nat) | fn (x : Str) | scr (ns : List Int)
  deriving Inhabited

/-- what a cell holds -/
inductive Cell where
  | lst (xs : List AV)
  | dK (ks : List Key) (vs : List AV)
  | dT (ks : List (List Key)) (vs : List AV)
  | ins (C : Str) (fs : List (Str × AV))
  deriving Inhabited
abbrev AH := List Cell

/-- an exception: its class, its fields -/
structure Exn where
  cls : Str
  fs : List (Str × AV)

inductive Rs (α : Type) where
  | ok (a : α) (h : AH)
  | ex (x : Exn) (h : AH)
  | no

def Rs.bind {α β : Type} (r : Rs α) (f : α → AH → Rs β) : Rs β := match r with
  | .ok a h => f a h
  | .ex x h => .ex x h
  | .no => .no
@[simp] theorem Rs.bind_ok {α β : Type} (a : α) (h : AH) (f : α → AH → Rs β) : (Rs.ok a h).bind f = f a h := rfl
@[simp] theorem Rs.bind_ex {α β : Type} (x : Exn) (h : AH) (f : α → AH → Rs β) : (Rs.ex x h).bind f = .ex x h := rfl
@[simp] theorem Rs.bind_no {α β : Type} (f : α → AH → Rs β) : (Rs.no : Rs α).bind f = .no := rfl

/-- what a name holds: nothing, a value, a list of one's own -/
inductive Sv where
  | un | vl (x : AV) | ol (xs : List AV)
  deriving Inhabited
abbrev ASt := List Sv
def frz : Sv → Sv
  | .ol xs => .vl (.lst xs)
  | s => s
def frzAt (σ : ASt) : List Nat → ASt
  | [] => σ
  | i :: is => frzAt (match σ[i]? with
    | some s => σ.set i (frz s)
    | none => σ) is

inductive BOp where
  | add | sub | mul | fdiv | mod | pow
inductive COp where
  | lt | le | gt | ge | eq | ne | is | isn | mem | nmem
inductive Ty where
  | int | bool | str | tuple | list | dict

inductive Tgt where
  | nm (i : Nat)
  | tp (ts : List Tgt)

inductive Bi where
  | len | all | any | sum | min | max | sorted | tuple | list | str | int | repr | bool
  deriving DecidableEq

mutual
inductive Exp where
  | c (v : AV)
  | var (i : Nat)
  | bin (o : BOp) (a b : Exp)
  | neg (a : Exp)
  | not (a : Exp)
  | and (a b : Exp)
  | or (a b : Exp)
  | cmp (o : COp) (a b : Exp)
  | chain (o p : COp) (a b c : Exp)
  | ife (t : Tst) (a b : Exp)
  | isi (a : Exp) (ts : List Ty)
  | tup (es : List Exp)
  | lst (es : List Exp)
  | sub (a i : Exp)
  | slice (a : Exp) (lo hi : Option Exp)
  | rev (a : Exp)
  | call (f : Str) (es : List Exp)
  | callK (f : Str) (es : List Exp) (ix : List Nat)
  | dis (ks : List Key) (vs : List AV)
  | upper (a : Exp)
  | cat (a b : Exp)
  | rgl (k : Bool) (a b : Exp)
  | sset (a : Exp)
  | bi (f : Bi) (es : List Exp)
  | biD (f : Bi) (e d : Exp)
  | kin (n : Bool) (a : Exp) (t : List (Str × AV))
  | kget (t : List (Str × AV)) (a : Exp)
  | kgetD (t : List (Str × AV)) (a d : Exp)
  | comp (c : Cmp)
  | cell (e : Exp)
/-- a test -/
inductive Tst where
  | e (e : Exp)
  | and (a b : Tst)
  | or (a b : Tst)
  | not (a : Tst)
/-- a comprehension: its clauses, then its element -/
inductive Cmp where
  | elt (e : Exp)
  | cl (tg : Tgt) (it : Itr) (ifs : List Tst) (c : Cmp)
inductive Itr where
  | sq (e : Exp)
  | rg (a b : Exp)
  | en (e : Exp)
  | zp (a b : Exp)
end

inductive Stm where
  | set (i : Nat) (e : Exp)
  | own (i : Nat) (e : Exp)
  | asg (t : Tgt) (e : Exp)
  | par (i j : Nat) (a b : Exp)
  | parO (i j : Nat) (a b : Exp)
  | pars (is : List Nat) (os : List Bool) (es : List Exp)
  | star (i j : Nat) (e : Exp)
  | ext (i : Nat) (e : Exp)
  | sset (o i e : Exp)
  | app (i : Nat) (e : Exp)
  | expr (e : Exp)
  | aug (i : Nat) (o : BOp) (e : Exp)
  | ife (t : Tst) (a b : List Stm)
  | for (tg : Tgt) (it : Itr) (b : List Stm)
  | while (t : Tst) (b : List Stm)
  | ret (e : Exp)
  | retN
  | pass
  | brk
  | cnt
  | frzd (is : List Nat) (s : Stm)
  | never

/-! ### operations on values -/
mutual
/-- == : none where it is not told -/
def pyEq : AV → AV → Option Bool
  | .non, .non => some true
  | .bl a, .bl b => some (a == b)
  | .bl a, .int j => some ((if a then 1 else 0) == j)
  | .int i, .bl b => some (i == (if b then 1 else 0))
  | .int i, .int j => some (i == j)
  | .str x, .str y => some (x == y)
  | .lst xs, .lst ys => if xs.length = ys.length then pyEqs xs ys else some false
  | .tup xs, .tup ys => pyEqs xs ys
  | .non, .bl _ | .non, .int _ | .non, .str _ | .non, .lst _ | .non, .tup _ => some false
  | .bl _, .non | .bl _, .str _ | .bl _, .lst _ | .bl _, .tup _ => some false
  | .int _, .non | .int _, .str _ | .int _, .lst _ | .int _, .tup _ => some false
  | .str _, .non | .str _, .bl _ | .str _, .int _ | .str _, .lst _ | .str _, .tup _ => some false
  | .lst _, .non | .lst _, .bl _ | .lst _, .int _ | .lst _, .str _ | .lst _, .tup _ => some false
  | .tup _, .non | .tup _, .bl _ | .tup _, .int _ | .tup _, .str _ | .tup _, .lst _ => some false
  | _, _ => none
/-- item by item, as long as both have some; the lengths at the end -/
def pyEqs : List AV → List AV → Option Bool
  | [], [] => some true
  | x :: xs, y :: ys => (pyEq x y).bind fun a => (pyEqs xs ys).map fun b => a && b
  | [], _ :: _ => some false
  | _ :: _, [] => some false
end

mutual
def dep : AV → Nat
  | .tup xs => deps xs + 1
  | .lst xs => deps xs + 1
  | _ => 0
def deps : List AV → Nat
  | [] => 0
  | x :: xs => max (dep x) (deps xs)
end
/-- x == y, where one of them is not too deep -/
def eqD (x y : AV) : Option Bool := if min (dep x) (dep y) ≤ 60 then pyEq x y else none

def pyIn (x : AV) : List AV → Option Bool
  | [] => some false
  | y :: ys => (eqD y x).bind fun a => (pyIn x ys).map fun b => a || b

def truth (h : AH) : AV → Option Bool
  | .non => some false
  | .bl b => some b
  | .int i => some (i != 0)
  | .str x => if x.length ≤ sizeLine then some (x.length != 0) else none
  | .tup xs => some (!xs.isEmpty)
  | .lst xs => some (!xs.isEmpty)
  | _ => none

/-- the items of a list, a tuple, a list in a cell -/
def items (h : AH) : AV → Option (List AV)
  | .tup xs => some xs
  | .lst xs => some xs
  | .ref n => match h[n]? with
    | some (.lst xs) => some xs
    | _ => none
  | _ => none

/-- the items of a list, a tuple, told as a value -/
def vitems : AV → Option (List AV)
  | .tup xs => some xs
  | .lst xs => some xs
  | _ => none

/-- the items of a list, a list in a cell -/
def litems (h : AH) : AV → Option (List AV)
  | .lst xs => some xs
  | .ref n => match h[n]? with
    | some (.lst xs) => some xs
    | _ => none
  | _ => none

def opB (o : BOp) (x y : AV) (h : AH) : Rs AV := match o, x, y with
  | .add, .int i, .int j => .ok (.int (i + j)) h
  | .sub, .int i, .int j => .ok (.int (i - j)) h
  | .mul, .int i, .int j => if (-(2 ^ 64) < i ∧ i < 2 ^ 64) ∨ (-(2 ^ 64) < j ∧ j < 2 ^ 64) then .ok (.int (i * j)) h else .no
  | .fdiv, .int i, .int j => if 0 < j ∧ j < 1073741824 then .ok (.int (i / j)) h else .no
  | .mod, .int i, .int j => if 0 < j then .ok (.int (i % j)) h else .no
  | .pow, .int i, .int j => if 0 ≤ j ∧ j ≤ 1000000 ∧ i.natAbs < 2 ^ 64 then .ok (.int (i ^ j.toNat)) h else .no
  | .add, .str a, .str b => if a.length + b.length ≤ sizeLine then .ok (.str (a ++ b)) h else .no
  | .add, .tup a, .tup b => if a.length + b.length ≤ sizeLine then .ok (.tup (a ++ b)) h else .no
  | .add, .lst a, .lst b => if a.length + b.length ≤ sizeLine then .ok (.lst (a ++ b)) h else .no
  | _, _, _ => .no

def opLt : AV → AV → Option Bool
  | .int i, .int j => some (decide (i < j))
  | _, _ => none
def isConst : AV → Bool
  | .non => true
  | .bl _ => true
  | _ => false
/-- is: of None, of truths -/
def opIs : AV → AV → Option Bool
  | .non, .non => some true
  | .bl a, .bl b => some (decide (a = b))
  | .bl _, .non | .int _, .non | .str _, .non | .tup _, .non | .lst _, .non | .dct _ _, .non | .ref _, .non | .fn _, .non | .scr _, .non => some false
  | _, _ => none

def opC (o : COp) (x y : AV) (h : AH) : Option Bool := match o with
  | .lt => opLt x y
  | .gt => opLt y x
  | .le => (opLt y x).map not
  | .ge => (opLt x y).map not
  | .eq => eqD x y
  | .ne => (eqD x y).map not
  | .is => opIs x y
  | .isn => (opIs x y).map not
  | .mem => match y with
    | .str b => (match x with
      | .str a => some (!(Builtin.Str.occurrences b a 0 b.length 1).isEmpty)
      | _ => none)
    | _ => (items h y).bind (pyIn x)
  | .nmem => match y with
    | .str b => (match x with
      | .str a => some (!(!(Builtin.Str.occurrences b a 0 b.length 1).isEmpty))
      | _ => none)
    | _ => ((items h y).bind (pyIn x)).map not

def hasTy : AV → Ty → Option Bool
  | .non, _ => some false
  | .bl _, .bool => some true
  | .bl _, .int => some true
  | .bl _, _ => some false
  | .int _, .int => some true
  | .int _, _ => some false
  | .str _, .str => some true
  | .str _, _ => some false
  | .tup _, .tuple => some true
  | .tup _, _ => some false
  | .lst _, .list => some true
  | .lst _, _ => some false
  | .dct _ _, .dict => some true
  | .dct _ _, _ => some false
  | _, _ => none
def hasTys (x : AV) : List Ty → Option Bool
  | [] => some false
  | t :: ts => match hasTy x t with
    | some true => some true
    | some false => hasTys x ts
    | none => none

/-- x[i] -/
def opSub (x i : AV) (h : AH) : Option AV := match x, i with
  | .str z, .int k => if z.length ≤ sizeLine then (atI z.cps.toList k).map fun c => .str ⟨#[c]⟩ else none
  | .scr ns, .int k => (atI ns k).map .int
  | x, .int k => (items h x).bind fun xs => atI xs k
  | _, _ => none
/-- x[lo:hi] -/
def cutL {α : Type} (xs : List α) (lo hi : Option Int) : List α := (xs.drop (HT.sIx xs.length 0 lo)).take (HT.sIx xs.length xs.length hi - HT.sIx xs.length 0 lo)
def opSlice (x : AV) (lo hi : Option Int) (h : AH) : Option AV := match x with
  | .tup xs => some (.tup (cutL xs lo hi))
  | .lst xs => some (.lst (cutL xs lo hi))
  | .str z => if z.length ≤ sizeLine then some (.str (cutS z lo hi)) else none
  | _ => none

/-! ### targets -/
mutual
def asgT : Tgt → AV → ASt → Option ASt
  | .nm i, v, σ => if i < σ.length then some (σ.set i (.vl v)) else none
  | .tp ts, .tup xs, σ => asgTs ts xs σ
  | .tp ts, .lst xs, σ => asgTs ts xs σ
  | .tp _, _, _ => none
def asgTs : List Tgt → List AV → ASt → Option ASt
  | [], [], σ => some σ
  | t :: ts, x :: xs, σ => (asgT t x σ).bind (asgTs ts xs)
  | [], _ :: _, _ => none
  | _ :: _, [], _ => none
end

def lift {α : Type} (o : Option α) (h : AH) : Rs α := match o with
  | some a => .ok a h
  | none => .no
@[simp] theorem lift_some {α : Type} (a : α) (h : AH) : lift (some a) h = .ok a h := rfl
@[simp] theorem lift_none {α : Type} (h : AH) : lift (none : Option α) h = .no := rfl

/-- a key as a value -/
def keyA : Key → AV
  | .inl i => .int i
  | .inr x => .str x
mutual
/-- what repr reads -/
def toPy : AV → Option PyData
  | .non => some .none
  | .bl b => some (.bool b)
  | .int i => some (.int i)
  | .str x => some (.str x)
  | .tup xs => (toPys xs).map .tuple
  | .lst xs => (toPys xs).map .list
  | .dct ks vs => (toPys ks).bind fun as => (toPys vs).map fun bs => .dict (as.zip bs)
  | _ => none
def toPys : List AV → Option (List PyData)
  | [] => some []
  | x :: xs => (toPy x).bind fun a => (toPys xs).map fun as => a :: as
end
def opRepr (x : AV) : Option Str := (toPy x).bind fun d => if d.showable = true ∧ d.depth ≤ 60 ∧ d.shown.length ≤ sizeLine then some d.shown else none
def intsOf : List AV → Option (List Int)
  | [] => some []
  | x :: xs => match x with
    | .int b => (intsOf xs).map (b :: ·)
    | _ => none
/-- a number put into rising ones, once -/
def insS (k : Int) : List Int → List Int
  | [] => [k]
  | x :: xs => if k < x then k :: x :: xs else if k = x then x :: xs else x :: insS k xs
def sortSet (ns : List Int) : List Int := ns.foldr insS []
def boolsOf : List AV → Option (List Bool)
  | [] => some []
  | x :: xs => match x with
    | .bl b => (boolsOf xs).map (b :: ·)
    | _ => none

def opBi (f : Bi) (vs : List AV) (h : AH) : Rs AV := match f, vs with
  | .len, [.str z] => if z.length ≤ sizeLine then .ok (.int z.length) h else .no
  | .len, [.scr ns] => .ok (.int ns.length) h
  | .len, [v] => (lift (items h v) h).bind fun xs h => .ok (.int xs.length) h
  | .all, [v] => lift (((litems h v).bind boolsOf).map fun bs => .bl (bs.all id)) h
  | .any, [v] => lift (((litems h v).bind boolsOf).map fun bs => .bl (bs.any id)) h
  | .tuple, [v] => lift ((items h v).map .tup) h
  | .list, [v] => lift ((items h v).map .lst) h
  | .min, [.int i, .int j] => .ok (.int (if j < i then j else i)) h
  | .max, [.int i, .int j] => .ok (.int (if j > i then j else i)) h
  | .repr, [v] => lift ((opRepr v).map .str) h
  | .int, [.bl b] => .ok (.int (if b then 1 else 0)) h
  | .int, [.int i] => .ok (.int i) h
  | .sum, [v] => lift (((litems h v).bind intsOf).map fun ns => .int ns.sum) h
  | _, _ => .no
/-- min, max of ints, with a default -/
def opBiD (f : Bi) (x d : AV) (h : AH) : Rs AV := match f, (litems h x).bind intsOf with
  | .max, some [] => .ok d h
  | .max, some (n :: ns) => .ok (.int (ns.foldl max n)) h
  | .min, some [] => .ok d h
  | .min, some (n :: ns) => .ok (.int (ns.foldl min n)) h
  | _, _ => .no

/-! ### the meaning -/
/-- the loop of a comprehension: for each item the slots by its target, then the rest -/
def compL (tg : Tgt) (body : ASt → AH → Rs (List AV)) : List AV → ASt → AH → Rs (List AV)
  | [], _, h => .ok [] h
  | x :: xs, σ, h => (lift (asgT tg x σ) h).bind fun σ' h => (body σ' h).bind fun ys h => (compL tg body xs σ h).bind fun zs h => .ok (ys ++ zs) h

/-- the items that an iteration gives -/
def zipA : List AV → List AV → List AV
  | x :: xs, y :: ys => .tup [x, y] :: zipA xs ys
  | _, _ => []
/-- a text's signs -/
def strA (z : Str) : List AV := z.cps.toList.map fun c => .str ⟨#[c]⟩
/-- what is walked: a tuple, a list, a text -/
def witems : AV → Option (List AV)
  | .str z => some (strA z)
  | x => vitems x
def zipK : AV → AV → Option (List AV)
  | .tup a, .tup b => some (zipA a b)
  | .lst a, .lst b => some (zipA a b)
  | .str z, .lst b => some (zipA (strA z) b)
  | _, _ => none
def enumA : Nat → List AV → List AV
  | _, [] => []
  | n, x :: xs => .tup [.int n, x] :: enumA (n + 1) xs
def rangeA (a b : Int) : List AV := (List.range (b - a).toNat).map fun (i : Nat) => .int (a + (i : Int))

abbrev CallA := Str → List AV → AH → Rs AV
mutual
def tgSlots : Tgt → List Nat
  | .nm i => [i]
  | .tp ts => tgsSlots ts
def tgsSlots : List Tgt → List Nat
  | [] => []
  | t :: ts => tgSlots t ++ tgsSlots ts
end
/-- the names of a comprehension's block -/
def cmpSlots : Cmp → List Nat
  | .elt _ => []
  | .cl tg _ _ c => tgSlots tg ++ cmpSlots c
def wipeA (σ : ASt) : List Nat → ASt
  | [] => σ
  | v :: vs => (wipeA σ vs).set v .un
/-- no exception leaves -/
def noEx {α : Type} (r : Rs α) : Rs α := match r with
  | .ex _ _ => .no
  | r => r

/-- a thing that is only looked into: a list of one's own too -/
def peek (e : Exp) (σ : ASt) (h : AH) (r : Rs AV) : Rs AV := match e with
  | .var i => (match σ[i]? with
    | some (.ol xs) => .ok (.lst xs) h
    | _ => r)
  | _ => r

mutual
def evE (Φ : CallA) : Exp → ASt → AH → Rs AV
  | .c v, _, h => .ok v h
  | .var i, σ, h => (match σ[i]? with
    | some (.vl v) => .ok v h
    | _ => .no)
  | .bin o a b, σ, h => (evE Φ a σ h).bind fun x h => (evE Φ b σ h).bind fun y h => opB o x y h
  | .neg a, σ, h => (evE Φ a σ h).bind fun x h => (match x with
    | .int i => .ok (.int (-i)) h
    | _ => .no)
  | .not a, σ, h => (evE Φ a σ h).bind fun x h => (match x with
    | .bl b => .ok (.bl (!b)) h
    | _ => .no)
  | .and a b, σ, h => (evE Φ a σ h).bind fun x h => (match x with
    | .bl true => evE Φ b σ h
    | .bl false => .ok (.bl false) h
    | _ => .no)
  | .or a b, σ, h => (evE Φ a σ h).bind fun x h => (match x with
    | .bl false => evE Φ b σ h
    | .bl true => .ok (.bl true) h
    | _ => .no)
  | .cmp o a b, σ, h => (peek a σ h (evE Φ a σ h)).bind fun x h => (peek b σ h (evE Φ b σ h)).bind fun y h => lift ((opC o x y h).map .bl) h
  | .chain o p a b c, σ, h => (evE Φ a σ h).bind fun x h => (evE Φ b σ h).bind fun y h => (lift (opC o x y h) h).bind fun k h =>
    (match k with
    | true => (evE Φ c σ h).bind fun z h => lift ((opC p y z h).map .bl) h
    | false => .ok (.bl false) h)
  | .ife t a b, σ, h => (evT Φ t σ h).bind fun k h => (match k with
    | true => evE Φ a σ h
    | false => evE Φ b σ h)
  | .isi a ts, σ, h => (evE Φ a σ h).bind fun x h => lift ((hasTys x ts).map .bl) h
  | .tup es, σ, h => (evEs Φ es σ h).bind fun xs h => if xs.length ≤ sizeLine then .ok (.tup xs) h else .no
  | .lst es, σ, h => (evEs Φ es σ h).bind fun xs h => if xs.length ≤ sizeLine then .ok (.lst xs) h else .no
  | .sub a i, σ, h => (peek a σ h (evE Φ a σ h)).bind fun x h => (evE Φ i σ h).bind fun k h => lift (opSub x k h) h
  | .slice a lo hi, σ, h => (peek a σ h (evE Φ a σ h)).bind fun x h => (evO Φ lo σ h).bind fun l h => (evO Φ hi σ h).bind fun u h => lift (opSlice x l u h) h
  | .rev a, σ, h => (peek a σ h (evE Φ a σ h)).bind fun x h => (match x with
    | .tup xs => .ok (.tup xs.reverse) h
    | .lst xs => .ok (.lst xs.reverse) h
    | _ => .no)
  | .call f es, σ, h => (evEs Φ es σ h).bind fun xs h => Φ f xs h
  | .dis ks vs, _, h => if ks.length ≤ 1 ∧ vs.length = ks.length then .ok (.dct (ks.map keyA) vs) h else .no
  | .cat a b, σ, h => (peek a σ h (evE Φ a σ h)).bind fun x h => (peek b σ h (evE Φ b σ h)).bind fun y h => (match x, y with
    | .lst xs, .lst ys => if xs.length + ys.length ≤ sizeLine then .ok (.lst (xs ++ ys)) h else .no
    | _, _ => .no)
  | .rgl k a b, σ, h => (evE Φ a σ h).bind fun x h => (evE Φ b σ h).bind fun y h => (match x, y with
    | .int i, .int j => if 0 ≤ i ∧ i ≤ 16777216 ∧ 0 ≤ j ∧ j ≤ 16777216 then .ok (if k then .tup (rangeA i j) else .lst (rangeA i j)) h else .no
    | _, _ => .no)
  | .upper a, σ, h => (evE Φ a σ h).bind fun x h => (match x with
    | .str z => if z.length ≤ 5592405 then .ok (.str (Txt.upper z)) h else .no
    | _ => .no)
  | .sset a, σ, h => (evE Φ a σ h).bind fun x h => (match x with
    | .tup xs => (match intsOf xs with
      | some ns => if ns.length < 64 then .ok (.lst ((sortSet ns).map .int)) h else .no
      | none => .no)
    | .lst xs => (match intsOf xs with
      | some ns => if ns.length < 64 then .ok (.lst ((sortSet ns).map .int)) h else .no
      | none => .no)
    | _ => .no)
  | .callK f es ix, σ, h => (evEs Φ es σ h).bind fun xs h => Φ f (ix.map fun i => xs.getD i .non) h
  | .bi f es, σ, h => (evPs Φ es σ h).bind fun xs h => opBi f xs h
  | .biD f e d, σ, h => (peek e σ h (evE Φ e σ h)).bind fun x h => (evE Φ d σ h).bind fun y h => opBiD f x y h
  | .kin n a t, σ, h => (evE Φ a σ h).bind fun x h => (match x with
    | .str z => .ok (.bl (if n then !(t.lookup z).isSome else (t.lookup z).isSome)) h
    | _ => .no)
  | .kget t a, σ, h => (evE Φ a σ h).bind fun x h => (match x with
    | .str z => lift (t.lookup z) h
    | _ => .no)
  | .kgetD t a d, σ, h => (evE Φ a σ h).bind fun x h => (evE Φ d σ h).bind fun y h => (match x with
    | .str z => .ok ((t.lookup z).getD y) h
    | _ => .no)
  | .comp c, σ, h => (noEx (evC Φ c true σ h)).bind fun xs h => if xs.length ≤ sizeLine then .ok (.lst xs) h else .no
  | .cell e, σ, h => (evE Φ e σ h).bind fun x h => (match x with
    | .lst xs => .ok (.ref h.length) (h ++ [.lst xs])
    | _ => .no)
def evPs (Φ : CallA) : List Exp → ASt → AH → Rs (List AV)
  | [], _, h => .ok [] h
  | e :: es, σ, h => (peek e σ h (evE Φ e σ h)).bind fun x h => (evPs Φ es σ h).bind fun xs h => .ok (x :: xs) h
def evT (Φ : CallA) : Tst → ASt → AH → Rs Bool
  | .e e, σ, h => (peek e σ h (evE Φ e σ h)).bind fun x h => lift (truth h x) h
  | .and a b, σ, h => (evT Φ a σ h).bind fun k h => (match k with
    | true => evT Φ b σ h
    | false => .ok false h)
  | .or a b, σ, h => (evT Φ a σ h).bind fun k h => (match k with
    | true => .ok true h
    | false => evT Φ b σ h)
  | .not a, σ, h => (evT Φ a σ h).bind fun k h => .ok (!k) h
def evEs (Φ : CallA) : List Exp → ASt → AH → Rs (List AV)
  | [], _, h => .ok [] h
  | e :: es, σ, h => (evE Φ e σ h).bind fun x h => (evEs Φ es σ h).bind fun xs h => .ok (x :: xs) h
def evO (Φ : CallA) : Option Exp → ASt → AH → Rs (Option Int)
  | none, _, h => .ok none h
  | some e, σ, h => (evE Φ e σ h).bind fun x h => (match x with
    | .int i => .ok (some i) h
    | _ => .no)
def evI (Φ : CallA) : Itr → Bool → ASt → AH → Rs (List AV)
  | .sq e, pk, σ, h => (if pk then peek e σ h (evE Φ e σ h) else evE Φ e σ h).bind fun x h => lift (witems x) h
  | .rg a b, _, σ, h => (evE Φ a σ h).bind fun x h => (evE Φ b σ h).bind fun y h => (match x, y with
    | .int i, .int j => if -(2 ^ 62) ≤ i ∧ i < 2 ^ 62 ∧ -(2 ^ 62) ≤ j ∧ j < 2 ^ 62 then .ok (rangeA i j) h else .no
    | _, _ => .no)
  | .en e, pk, σ, h => (if pk then peek e σ h (evE Φ e σ h) else evE Φ e σ h).bind fun x h => (lift (vitems x) h).bind fun xs h => .ok (enumA 0 xs) h
  | .zp a b, pk, σ, h => (if pk then peek a σ h (evE Φ a σ h) else evE Φ a σ h).bind fun x h => (if pk then peek b σ h (evE Φ b σ h) else evE Φ b σ h).bind fun y h => lift (zipK x y) h
/-- the tests of a clause -/
def evF (Φ : CallA) : List Tst → ASt → AH → Rs Bool
  | [], _, h => .ok true h
  | t :: ts, σ, h => (evT Φ t σ h).bind fun k h => (match k with
    | true => evF Φ ts σ h
    | false => .ok false h)
def evC (Φ : CallA) : Cmp → Bool → ASt → AH → Rs (List AV)
  | .elt e, _, σ, h => (evE Φ e σ h).bind fun x h => .ok [x] h
  | .cl tg it ifs c, pk, σ, h => (evI Φ it pk σ h).bind fun xs h => compL tg (fun σ h => (evF Φ ifs σ h).bind fun k h => (match k with
    | true => evC Φ c false σ h
    | false => .ok [] h)) xs (wipeA σ (tgSlots tg ++ cmpSlots c)) h
end

/-- what a statement comes to -/
inductive Fl where
  | nx (σ : ASt) | rt (v : AV) | bk (σ : ASt) | ct (σ : ASt)

def forL (tg : Tgt) (body : ASt → AH → Rs Fl) : List AV → ASt → AH → Rs Fl
  | [], σ, h => .ok (.nx σ) h
  | x :: xs, σ, h => (lift (asgT tg x σ) h).bind fun σ h => (body σ h).bind fun f h => (match f with
    | .nx σ => forL tg body xs σ h
    | .ct σ => forL tg body xs σ h
    | .bk σ => .ok (.nx σ) h
    | .rt v => .ok (.rt v) h)
def whileN (t : ASt → AH → Rs Bool) (body : ASt → AH → Rs Fl) : Nat → ASt → AH → Rs Fl
  | 0, _, _ => .no
  | n + 1, σ, h => (t σ h).bind fun k h => (match k with
    | false => .ok (.nx σ) h
    | true => (body σ h).bind fun f h => (match f with
      | .nx σ => whileN t body n σ h
      | .ct σ => whileN t body n σ h
      | .bk σ => .ok (.nx σ) h
      | .rt v => .ok (.rt v) h))
def turns : Nat := 1099511627776
def setSlot (σ : ASt) (i : Nat) (s : Sv) : Option ASt := if i < σ.length then some (σ.set i s) else none
/-- several names at once: values, lists of one's own -/
def setAll : ASt → List Nat → List Bool → List AV → Option ASt
  | σ, [], [], [] => some σ
  | σ, i :: is, false :: os, x :: xs => (setSlot σ i (.vl x)).bind fun σ => setAll σ is os xs
  | σ, i :: is, true :: os, x :: xs => (match x with
    | .lst ys => (setSlot σ i (.ol ys)).bind fun σ => setAll σ is os xs
    | _ => none)
  | _, _, _, _ => none

mutual
def evS (Φ : CallA) : Stm → ASt → AH → Rs Fl
  | .set i e, σ, h => (evE Φ e σ h).bind fun x h => (lift (setSlot σ i (.vl x)) h).bind fun σ h => .ok (.nx σ) h
  | .own i e, σ, h => (evE Φ e σ h).bind fun x h => (match x with
    | .lst xs => (lift (setSlot σ i (.ol xs)) h).bind fun σ h => .ok (.nx σ) h
    | _ => .no)
  | .asg t e, σ, h => (evE Φ e σ h).bind fun x h => (lift (asgT t x σ) h).bind fun σ h => .ok (.nx σ) h
  | .par i j a b, σ, h => (evE Φ a σ h).bind fun x h => (evE Φ b σ h).bind fun y h => (lift ((setSlot σ i (.vl x)).bind fun σ => setSlot σ j (.vl y)) h).bind fun σ h => .ok (.nx σ) h
  | .parO i j a b, σ, h => (evE Φ a σ h).bind fun x h => (evE Φ b σ h).bind fun y h => (match y with
    | .lst ys => (lift ((setSlot σ i (.vl x)).bind fun σ => setSlot σ j (.ol ys)) h).bind fun σ h => .ok (.nx σ) h
    | _ => .no)
  | .pars is os es, σ, h => (evEs Φ es σ h).bind fun xs h => (lift (setAll σ is os xs) h).bind fun σ h => .ok (.nx σ) h
  | .star i j e, σ, h => (evE Φ e σ h).bind fun x h => (match x with
    | .tup (y :: ys) => (lift ((setSlot σ i (.vl y)).bind fun σ => setSlot σ j (.ol ys)) h).bind fun σ h => .ok (.nx σ) h
    | _ => .no)
  | .ext i e, σ, h => (match σ[i]? with
    | some (.ol xs) => (evE Φ e σ h).bind fun x h => (match x with
      | .lst ys => if xs.length + ys.length ≤ sizeLine then .ok (.nx (σ.set i (.ol (xs ++ ys)))) h else .no
      | _ => .no)
    | _ => .no)
  | .sset o i e, σ, h => (evE Φ e σ h).bind fun v h => (evE Φ o σ h).bind fun x h => (evE Φ i σ h).bind fun k h => (match x, k with
    | .ref n, .int z => (match h[n]? with
      | some (.lst xs) => (match ixN xs.length z with
        | some j => .ok (.nx σ) (h.set n (.lst (xs.set j v)))
        | none => .no)
      | _ => .no)
    | _, _ => .no)
  | .app i e, σ, h => (match σ[i]? with
    | some (.ol xs) => (evE Φ e σ h).bind fun x h => if xs.length < sizeLine then .ok (.nx (σ.set i (.ol (xs ++ [x])))) h else .no
    | _ => .no)
  | .expr e, σ, h => (evE Φ e σ h).bind fun _ h => .ok (.nx σ) h
  | .aug i o e, σ, h => (match σ[i]? with
    | some (.vl x) => (evE Φ e σ h).bind fun y h => (match o, x, y with
      | .add, .int a, .int b => .ok (.nx (σ.set i (.vl (.int (a + b))))) h
      | .sub, .int a, .int b => .ok (.nx (σ.set i (.vl (.int (a - b))))) h
      | _, _, _ => .no)
    | _ => .no)
  | .ife t a b, σ, h => (evT Φ t σ h).bind fun k h => (match k with
    | true => evSs Φ a σ h
    | false => evSs Φ b σ h)
  | .for tg it b, σ, h => (evI Φ it false σ h).bind fun xs h => forL tg (evSs Φ b) xs σ h
  | .while t b, σ, h => whileN (evT Φ t) (evSs Φ b) turns σ h
  | .ret e, σ, h => (evE Φ e (σ.map frz) h).bind fun x h => .ok (.rt x) h
  | .retN, _, h => .ok (.rt .non) h
  | .pass, σ, h => .ok (.nx σ) h
  | .brk, σ, h => .ok (.bk σ) h
  | .cnt, σ, h => .ok (.ct σ) h
  | .frzd is s, σ, h => evS Φ s (frzAt σ is) h
  | .never, _, _ => .no
def evSs (Φ : CallA) : List Stm → ASt → AH → Rs Fl
  | [], σ, h => .ok (.nx σ) h
  | s :: ss, σ, h => (evS Φ s σ h).bind fun f h => (match f with
    | .nx σ => evSs Φ ss σ h
    | f => .ok f h)
end

/-- a def of the small language: its places (parameters first), how many parameters, its body -/
structure Fn where
  slots : Nat
  pars : Nat
  body : List Stm

def start (n : Nat) (vs : List AV) : ASt := vs.map .vl ++ List.replicate (n - vs.length) .un
def runFn (Φ : CallA) (f : Fn) (vs : List AV) (h : AH) : Rs AV := if vs.length = f.pars then
    (evSs Φ f.body (start f.slots vs) h).bind fun r h => (match r with
      | .rt v => .ok v h
      | .nx _ => .ok .non h
      | _ => .no)
  else .no
abbrev Tab := List (Str × Fn)
/-- the calls, so many deep -/
def callN (T : Tab) : Nat → CallA
  | 0, _, _, _ => .no
  | n + 1, f, vs, h => match T.lookup f with
    | some fn => runFn (callN T n) fn vs h
    | none => .no
end G

set_option Elab.async false
set_option linter.all false
set_option maxRecDepth 100000
set_option maxHeartbeats 4000000
/-! GB: what the abstract values stand for. -/
namespace G
open PySem PySem.Spec PyProof.Rows L2

/-! ### over the machine's heap: enough for ==, in -/
mutual
inductive Con (h : Heap) : AV → Value → Prop
  | non : Con h .non .none
  | bl (b : Bool) : Con h (.bl b) (.bool b)
  | int (i : Int) (t : Tok) : Con h (.int i) (.int i t)
  | str (x : Str) (t : Tok) : Con h (.str x) (.str x t)
  | tup {a : Addr} {xs : List AV} {us : List Value} : h.IsTuple a us.toArray → Cons h xs us → Con h (.tup xs) (.ref a)
  | lst {a : Addr} {xs : List AV} {us : List Value} : h.IsList a us.toArray → Cons h xs us → Con h (.lst xs) (.ref a)
  | dct (ks vs : List AV) (u : Value) : Con h (.dct ks vs) u
  | ref (n : Nat) (u : Value) : Con h (.ref n) u
  | fn (x : Str) (u : Value) : Con h (.fn x) u
  | scr (ns : List Int) (u : Value) : Con h (.scr ns) u
inductive Cons (h : Heap) : List AV → List Value → Prop
  | nil : Cons h [] []
  | cons {x : AV} {u : Value} {xs : List AV} {us : List Value} : Con h x u → Cons h xs us → Cons h (x :: xs) (u :: us)
end

theorem Cons.length {h : Heap} : ∀ {xs : List AV} {us : List Value}, Cons h xs us → xs.length = us.length
  | [], _, c => by cases c; rfl
  | x :: xs, _, c => by
    cases c with
    | cons _ cs => exact congrArg Nat.succ (Cons.length cs)

theorem arr_inj {α : Type} {xs ys : List α} (h : xs.toArray = ys.toArray) : xs = ys := by simpa using congrArg Array.toList h
theorem isTuple_inj {h : Heap} {a : Addr} {xs ys : Array Value} (p : h.IsTuple a xs) (q : h.IsTuple a ys) : xs = ys := by
  obtain ⟨o, e, _, n, d⟩ := p
  obtain ⟨o', e', _, n', d'⟩ := q
  rw [e] at e'; cases e'
  rw [d] at d'
  injection d'
theorem isList_inj {h : Heap} {a : Addr} {xs ys : Array Value} (p : h.IsList a xs) (q : h.IsList a ys) : xs = ys := by
  obtain ⟨o, e, _, n, d⟩ := p
  obtain ⟨o', e', _, n', d'⟩ := q
  rw [e] at e'; cases e'
  rw [d] at d'
  injection d'
theorem not_list_tuple {h : Heap} {a : Addr} {xs ys : Array Value} (p : h.IsList a xs) (q : h.IsTuple a ys) : False := by
  obtain ⟨o, e, c, n, d⟩ := p
  obtain ⟨o', e', c', n', d'⟩ := q
  rw [e] at e'; cases e'
  rw [c] at c'; exact absurd c' (by decide)

mutual
/-- two readings of one value are equal, where == is told of them -/
theorem Con.refl_eq {h : Heap} : ∀ (x y : AV) (u : Value) (b : Bool), Con h x u → Con h y u → pyEq x y = some b → b = true
  | .non, y, u, b, c, c', e => by
    cases c; cases c' <;> simp_all [pyEq]
  | .bl _, y, u, b, c, c', e => by
    cases c; cases c' <;> simp_all [pyEq]
  | .int _, y, u, b, c, c', e => by
    cases c; cases c' <;> simp_all [pyEq]
  | .str _, y, u, b, c, c', e => by
    cases c; cases c' <;> simp_all [pyEq]
  | .tup xs, y, u, b, c, c', e => by
    cases c with
    | tup p cs =>
      cases c' with
      | tup p' cs' =>
        cases (arr_inj (isTuple_inj p p'))
        exact Con.refl_eqs xs _ _ b cs cs' (by simpa [pyEq] using e)
      | lst p' cs' => exact (not_list_tuple p' p).elim
      | dct => simp [pyEq] at e
      | ref => simp [pyEq] at e
      | fn => simp [pyEq] at e
      | scr => simp [pyEq] at e
  | .lst xs, y, u, b, c, c', e => by
    cases c with
    | lst p cs =>
      cases c' with
      | lst p' cs' =>
        cases (arr_inj (isList_inj p p'))
        have l : xs.length = _ := cs.length.trans cs'.length.symm
        exact Con.refl_eqs xs _ _ b cs cs' (by simpa [pyEq, l] using e)
      | tup p' cs' => exact (not_list_tuple p p').elim
      | dct => simp [pyEq] at e
      | ref => simp [pyEq] at e
      | fn => simp [pyEq] at e
      | scr => simp [pyEq] at e
  | .dct _ _, y, u, b, c, c', e => by cases y <;> simp [pyEq] at e
  | .ref _, y, u, b, c, c', e => by cases y <;> simp [pyEq] at e
  | .fn _, y, u, b, c, c', e => by cases y <;> simp [pyEq] at e
  | .scr _, y, u, b, c, c', e => by cases y <;> simp [pyEq] at e
theorem Con.refl_eqs {h : Heap} : ∀ (xs ys : List AV) (us : List Value) (b : Bool), Cons h xs us → Cons h ys us → pyEqs xs ys = some b → b = true
  | [], ys, us, b, c, c', e => by
    cases c; cases c'; simpa [pyEqs] using e.symm
  | x :: xs, ys, us, b, c, c', e => by
    cases c with
    | cons c cs =>
      cases c' with
      | @cons y _ ys _ c' cs' =>
        simp only [pyEqs, Option.bind_eq_some_iff, Option.map_eq_some_iff] at e
        obtain ⟨k1, e1, k2, e2, rfl⟩ := e
        rw [Con.refl_eq x y _ _ c c' e1, Con.refl_eqs xs ys _ _ cs cs' e2]
        rfl
end

section
variable {s : Shared}
open SeqAt
theorem min_deps {x y : AV} {xs ys : List AV} : min (dep x) (dep y) ≤ min (deps (x :: xs)) (deps (y :: ys)) := by
  simp only [deps]; omega
theorem min_deps' {x y : AV} {xs ys : List AV} : min (deps xs) (deps ys) ≤ min (deps (x :: xs)) (deps (y :: ys)) := by
  simp only [deps]; omega

/-- what == is of two values, in the three forms that the machine asks -/
structure EqIs (A : Around) (s : Shared) (u v : Value) (b : Bool) : Prop where
  rc : RcAt A s u v b
  ne : RcNeAt A s u v (!b)
  eq : EqAt A s u v b

theorem all_at (f : Nat → Bool) (n : Nat) : ((List.range n).all f) = decide (∀ j, j < n → f j = true) := by
  rw [Bool.eq_iff_iff]; simp

/-- the items' answers by their place -/
theorem eqs_at {xs ys : List AV} {b : Bool} (e : pyEqs xs ys = some b) : ∃ f : Nat → Bool, (∀ j (h1 : j < xs.length) (h2 : j < ys.length), pyEq xs[j] ys[j] = some (f j)) ∧
    ((List.range (min xs.length ys.length)).all f && xs.length == ys.length) = b := by
  induction xs generalizing ys b with
  | nil =>
    cases ys with
    | nil => exact ⟨fun _ => true, fun j h1 => absurd h1 (by simp), by simpa [pyEqs] using e⟩
    | cons y ys => exact ⟨fun _ => true, fun j h1 => absurd h1 (by simp), by simpa [pyEqs] using e⟩
  | cons x xs ih =>
    cases ys with
    | nil => exact ⟨fun _ => true, fun j _ h2 => absurd h2 (by simp), by simpa [pyEqs] using e⟩
    | cons y ys =>
      simp only [pyEqs, Option.bind_eq_some_iff, Option.map_eq_some_iff] at e
      obtain ⟨k1, e1, k2, e2, rfl⟩ := e
      obtain ⟨f, hf, hb⟩ := ih e2
      refine ⟨fun j => match j with | 0 => k1 | j + 1 => f j, fun j h1 h2 => ?_, ?_⟩
      · cases j with
        | zero => simpa using e1
        | succ j => simpa using hf j (by simpa using h1) (by simpa using h2)
      · rw [← hb]
        simp only [List.length_cons]
        rw [show min (xs.length + 1) (ys.length + 1) = min xs.length ys.length + 1 by omega, List.range_succ_eq_map, List.all_cons, List.all_map]
        simp only [Bool.and_assoc]
        congr 2
        simp

mutual
theorem eq_is : ∀ (x y : AV) (u v : Value) (b : Bool) (A : Around), Con s.heap x u → Con s.heap y v → pyEq x y = some b → A.units + min (dep x) (dep y) < cLine → EqIs A s u v b
  | .non, y, u, v, b, A, c, c', e, hu => by
    cases c
    have hu' : A.units < cLine := by omega
    cases c' <;> simp only [pyEq, Option.some.injEq, reduceCtorEq] at e <;> subst e
    · exact ⟨.none_none, .none_none, .same _⟩
    · exact ⟨.none_bool _, .none_bool _, .none_bool _⟩
    · exact ⟨.none_int _ _, .none_int _ _, .none_int _ _⟩
    · exact ⟨.none_str _ _, .none_str _ _, .none_str _ _⟩
    · rename_i p _; exact ⟨.none_tuple p hu', .none_tuple p hu', .none_tuple p hu'⟩
    · rename_i p _; exact ⟨.none_list p hu', .none_list p hu', .none_list p hu'⟩
  | .bl k, y, u, v, b, A, c, c', e, hu => by
    cases c
    have hu' : A.units < cLine := by omega
    cases c' <;> simp only [pyEq, Option.some.injEq, reduceCtorEq] at e <;> subst e
    · exact ⟨.bool_none _, .bool_none _, .bool_none _⟩
    · exact ⟨.bool_bool _ _, .bool_bool _ _, .bool_bool _ _⟩
    · exact ⟨.bool_int _ _ _, .bool_int _ _ _, .bool_int _ _ _⟩
    · exact ⟨.bool_str _ _ _, .bool_str _ _ _, .bool_str _ _ _⟩
    · rename_i p _; exact ⟨.bool_tuple _ p hu', .bool_tuple _ p hu', .bool_tuple _ p hu'⟩
    · rename_i p _; exact ⟨.bool_list _ p hu', .bool_list _ p hu', .bool_list _ p hu'⟩
  | .int k, y, u, v, b, A, c, c', e, hu => by
    cases c
    have hu' : A.units < cLine := by omega
    cases c' <;> simp only [pyEq, Option.some.injEq, reduceCtorEq] at e <;> subst e
    · exact ⟨.int_none _ _, .int_none _ _, .int_none _ _⟩
    · exact ⟨.int_bool _ _ _, .int_bool _ _ _, .int_bool _ _ _⟩
    · exact ⟨.int_int _ _ _ _, .int_int _ _ _ _, .int_int _ _ _ _⟩
    · exact ⟨.int_str _ _ _ _, .int_str _ _ _ _, .int_str _ _ _ _⟩
    · rename_i p _; exact ⟨.int_tuple _ _ p hu', .int_tuple _ _ p hu', .int_tuple _ _ p hu'⟩
    · rename_i p _; exact ⟨.int_list _ _ p hu', .int_list _ _ p hu', .int_list _ _ p hu'⟩
  | .str k, y, u, v, b, A, c, c', e, hu => by
    cases c
    have hu' : A.units < cLine := by omega
    cases c' <;> simp only [pyEq, Option.some.injEq, reduceCtorEq] at e <;> subst e
    · exact ⟨.str_none _ _, .str_none _ _, .str_none _ _⟩
    · exact ⟨.str_bool _ _ _, .str_bool _ _ _, .str_bool _ _ _⟩
    · exact ⟨.str_int _ _ _ _, .str_int _ _ _ _, .str_int _ _ _ _⟩
    · exact ⟨.str_str _ _ _ _, .str_str _ _ _ _, .str_str _ _ _ _⟩
    · rename_i p _; exact ⟨.str_tuple _ _ p hu', .str_tuple _ _ p hu', .str_tuple _ _ p hu'⟩
    · rename_i p _; exact ⟨.str_list _ _ p hu', .str_list _ _ p hu', .str_list _ _ p hu'⟩
  | .tup xs, y, u, v, b, A, c, c', e, hu => by
    cases c with
    | @tup a _ us p cs =>
      have hu' : A.units < cLine := by omega
      cases c' with
      | non => simp only [pyEq, Option.some.injEq] at e; subst e; exact ⟨.tuple_none p hu', .tuple_none p hu', .tuple_none p hu'⟩
      | bl _ => simp only [pyEq, Option.some.injEq] at e; subst e; exact ⟨.tuple_bool _ p hu', .tuple_bool _ p hu', .tuple_bool _ p hu'⟩
      | int _ _ => simp only [pyEq, Option.some.injEq] at e; subst e; exact ⟨.tuple_int _ _ p hu', .tuple_int _ _ p hu', .tuple_int _ _ p hu'⟩
      | str _ _ => simp only [pyEq, Option.some.injEq] at e; subst e; exact ⟨.tuple_str _ _ p hu', .tuple_str _ _ p hu', .tuple_str _ _ p hu'⟩
      | lst p' _ => simp only [pyEq, Option.some.injEq] at e; subst e; exact ⟨.tuple_list p p' hu', .tuple_list p p' hu', .tuple_list p p' hu'⟩
      | @tup a' ys vs p' cs' =>
        simp only [pyEq] at e
        obtain ⟨f, hf, hb⟩ := eqs_at e
        have l1 := cs.length
        have l2 := cs'.length
        have it : ∀ j (h1 : j < us.toArray.size) (h2 : j < vs.toArray.size), EqAt A.in1 s us.toArray[j] vs.toArray[j] (f j) := fun j h1 h2 =>
          (eqs_is xs ys us vs A.in1 cs cs' (by show A.units + 1 + _ < cLine; simp only [dep] at hu; omega) j f hf (by simpa using h1) (by simpa using h2)).eq
        have rb : ((List.range (min us.toArray.size vs.toArray.size)).all f && us.toArray.size == vs.toArray.size) = b := by
          rw [← hb, l1, l2]; simp
        have r := RcAt.tuples p p' hu' it
        rw [rb] at r
        have rn := RcNeAt.tuples p p' hu' it
        rw [rb] at rn
        refine ⟨r, rn, ?_⟩
        by_cases q : a = a'
        · subst q
          have := Con.refl_eq (.tup xs) (.tup ys) _ b (.tup p cs) (.tup p' cs') (by simpa [pyEq] using e)
          subst this
          exact .same _
        · exact .of_refs q r
      | dct => simp [pyEq] at e
      | ref => simp [pyEq] at e
      | fn => simp [pyEq] at e
      | scr => simp [pyEq] at e
  | .lst xs, y, u, v, b, A, c, c', e, hu => by
    cases c with
    | @lst a _ us p cs =>
      have hu' : A.units < cLine := by omega
      cases c' with
      | non => simp only [pyEq, Option.some.injEq] at e; subst e; exact ⟨.list_none p hu', .list_none p hu', .list_none p hu'⟩
      | bl _ => simp only [pyEq, Option.some.injEq] at e; subst e; exact ⟨.list_bool _ p hu', .list_bool _ p hu', .list_bool _ p hu'⟩
      | int _ _ => simp only [pyEq, Option.some.injEq] at e; subst e; exact ⟨.list_int _ _ p hu', .list_int _ _ p hu', .list_int _ _ p hu'⟩
      | str _ _ => simp only [pyEq, Option.some.injEq] at e; subst e; exact ⟨.list_str _ _ p hu', .list_str _ _ p hu', .list_str _ _ p hu'⟩
      | tup p' _ => simp only [pyEq, Option.some.injEq] at e; subst e; exact ⟨.list_tuple p p' hu', .list_tuple p p' hu', .list_tuple p p' hu'⟩
      | @lst a' ys vs p' cs' =>
        have l1 := cs.length
        have l2 := cs'.length
        by_cases hl : xs.length = ys.length
        · simp only [pyEq, hl, if_true] at e
          obtain ⟨f, hf, hb⟩ := eqs_at e
          have hsz : us.toArray.size = vs.toArray.size := by simp; omega
          have it : ∀ j (h1 : j < us.toArray.size) (h2 : j < vs.toArray.size), EqAt A.in1 s us.toArray[j] vs.toArray[j] (f j) := fun j h1 h2 =>
            (eqs_is xs ys us vs A.in1 cs cs' (by show A.units + 1 + _ < cLine; simp only [dep] at hu; omega) j f hf (by simpa using h1) (by simpa using h2)).eq
          have rb : ((List.range us.toArray.size).all f) = b := by
            rw [← hb, show min xs.length ys.length = us.toArray.size by simp; omega]
            simp [hl]
          have r := RcAt.lists p p' hsz hu' it
          rw [rb] at r
          have rn := RcNeAt.lists p p' hsz hu' it
          rw [rb] at rn
          refine ⟨r, rn, ?_⟩
          by_cases q : a = a'
          · subst q
            have := Con.refl_eq (.lst xs) (.lst ys) _ b (.lst p cs) (.lst p' cs') (by simpa [pyEq, hl] using e)
            subst this
            exact .same _
          · exact .of_refs q r
        · simp only [pyEq, hl, if_false, Option.some.injEq] at e
          subst e
          have hsz : (us.toArray.size != vs.toArray.size) = true := by simp; omega
          have r := RcAt.lists_lengths p p' hsz hu'
          refine ⟨r, RcNeAt.lists_lengths p p' hsz hu', .of_refs (fun q => ?_) r⟩
          subst q
          have q := isList_inj p p'
          rw [q] at hsz; simp at hsz
      | dct => simp [pyEq] at e
      | ref => simp [pyEq] at e
      | fn => simp [pyEq] at e
      | scr => simp [pyEq] at e
  | .dct _ _, y, u, v, b, A, c, c', e, hu => by cases y <;> simp [pyEq] at e
  | .ref _, y, u, v, b, A, c, c', e, hu => by cases y <;> simp [pyEq] at e
  | .fn _, y, u, v, b, A, c, c', e, hu => by cases y <;> simp [pyEq] at e
  | .scr _, y, u, v, b, A, c, c', e, hu => by cases y <;> simp [pyEq] at e
theorem eqs_is : ∀ (xs ys : List AV) (us vs : List Value) (A : Around), Cons s.heap xs us → Cons s.heap ys vs → A.units + min (deps xs) (deps ys) < cLine →
    ∀ (j : Nat) (f : Nat → Bool), (∀ j (h1 : j < xs.length) (h2 : j < ys.length), pyEq xs[j] ys[j] = some (f j)) → ∀ (h1 : j < us.length) (h2 : j < vs.length), EqIs A s us[j] vs[j] (f j)
  | [], _, _, _, _, c, _, _, j, _, _, h1, _ => by cases c; exact absurd h1 (by simp)
  | _ :: _, [], _, _, _, _, c', _, j, _, _, _, h2 => by cases c'; exact absurd h2 (by simp)
  | x :: xs, y :: ys, _, _, A, c, c', hu, j, f, hf, h1, h2 => by
    cases c with
    | cons c cs =>
      cases c' with
      | cons c' cs' =>
        cases j with
        | zero => exact eq_is x y _ _ _ A c c' (hf 0 (by simp) (by simp)) (by have := min_deps (x := x) (y := y) (xs := xs) (ys := ys); omega)
        | succ j => exact eqs_is xs ys _ _ A cs cs' (by have := min_deps' (x := x) (y := y) (xs := xs) (ys := ys); omega) j (fun j => f (j + 1)) (fun j h1 h2 => hf (j + 1) (by simpa using h1) (by simpa using h2)) (by simpa using h1) (by simpa using h2)
end
end
end G

set_option Elab.async false
set_option linter.all false
set_option maxRecDepth 100000
set_option maxHeartbeats 4000000
/-! GC: the abstract state and the hand layer's. -/
namespace G
open PySem PySem.Spec PyProof.Rows L2

/-! ### one value has one answer -/
mutual
theorem Con.det {h : Heap} : ∀ (y1 y2 x : AV) (u : Value) (k1 k2 : Bool), Con h y1 u → Con h y2 u → pyEq y1 x = some k1 → pyEq y2 x = some k2 → k1 = k2
  | .non, y2, x, u, k1, k2, c, c', e, e' => by
    cases c; cases c' <;> cases x <;> simp_all [pyEq]
  | .bl _, y2, x, u, k1, k2, c, c', e, e' => by
    cases c; cases c' <;> cases x <;> simp_all [pyEq]
  | .int _, y2, x, u, k1, k2, c, c', e, e' => by
    cases c; cases c' <;> cases x <;> simp_all [pyEq]
  | .str _, y2, x, u, k1, k2, c, c', e, e' => by
    cases c; cases c' <;> cases x <;> simp_all [pyEq]
  | .tup xs, y2, x, u, k1, k2, c, c', e, e' => by
    cases c with
    | tup p cs =>
      cases c' with
      | tup p' cs' =>
        cases (arr_inj (isTuple_inj p p'))
        cases x <;> simp only [pyEq, Option.some.injEq, reduceCtorEq] at e e'
        case tup zs => exact Con.dets xs _ zs _ k1 k2 cs cs' e e'
        all_goals (rw [← e, ← e'])
      | lst p' cs' => exact (not_list_tuple p' p).elim
      | dct => cases x <;> simp [pyEq] at e'
      | ref => cases x <;> simp [pyEq] at e'
      | fn => cases x <;> simp [pyEq] at e'
      | scr => cases x <;> simp [pyEq] at e'
  | .lst xs, y2, x, u, k1, k2, c, c', e, e' => by
    cases c with
    | lst p cs =>
      cases c' with
      | @lst _ ys _ p' cs' =>
        cases (arr_inj (isList_inj p p'))
        have l : xs.length = ys.length := cs.length.trans cs'.length.symm
        cases x <;> simp only [pyEq, Option.some.injEq, reduceCtorEq] at e e'
        case lst zs =>
          by_cases hl : xs.length = zs.length
          · rw [if_pos hl] at e
            rw [if_pos (l.symm.trans hl)] at e'
            exact Con.dets xs _ zs _ k1 k2 cs cs' e e'
          · rw [if_neg hl] at e
            rw [if_neg (fun q => hl (l.trans q))] at e'
            exact Option.some.inj (e.symm.trans e')
        all_goals (rw [← e, ← e'])
      | tup p' cs' => exact (not_list_tuple p p').elim
      | dct => cases x <;> simp [pyEq] at e'
      | ref => cases x <;> simp [pyEq] at e'
      | fn => cases x <;> simp [pyEq] at e'
      | scr => cases x <;> simp [pyEq] at e'
  | .dct _ _, _, x, _, _, _, _, _, e, _ => by cases x <;> simp [pyEq] at e
  | .ref _, _, x, _, _, _, _, _, e, _ => by cases x <;> simp [pyEq] at e
  | .fn _, _, x, _, _, _, _, _, e, _ => by cases x <;> simp [pyEq] at e
  | .scr _, _, x, _, _, _, _, _, e, _ => by cases x <;> simp [pyEq] at e
theorem Con.dets {h : Heap} : ∀ (xs ys zs : List AV) (us : List Value) (k1 k2 : Bool), Cons h xs us → Cons h ys us → pyEqs xs zs = some k1 → pyEqs ys zs = some k2 → k1 = k2
  | [], ys, zs, us, k1, k2, c, c', e, e' => by
    cases c; cases c'
    exact Option.some.inj (e.symm.trans e')
  | x :: xs, ys, [], us, k1, k2, c, c', e, e' => by
    cases c; cases c'
    simp only [pyEqs, Option.some.injEq] at e e'
    rw [← e, ← e']
  | x :: xs, ys, z :: zs, us, k1, k2, c, c', e, e' => by
    cases c with
    | cons c cs =>
      cases c' with
      | @cons y _ ys _ c' cs' =>
        simp only [pyEqs, Option.bind_eq_some_iff, Option.map_eq_some_iff] at e e'
        obtain ⟨a1, e1, a2, e2, rfl⟩ := e
        obtain ⟨b1, f1, b2, f2, rfl⟩ := e'
        rw [Con.det x y z _ _ _ c c' e1 f1, Con.dets xs ys zs _ _ _ cs cs' e2 f2]
end


/-- == against x, told of a value of the machine -/
def Ans (h : Heap) (x : AV) (u : Value) (b : Bool) : Prop := ∃ y, Con h y u ∧ eqD y x = some b
theorem Ans.det {h : Heap} {x : AV} {u : Value} {b b' : Bool} (p : Ans h x u b) (p' : Ans h x u b') : b = b' := by
  obtain ⟨y, c, e⟩ := p
  obtain ⟨y', c', e'⟩ := p'
  unfold eqD at e e'
  split at e
  · split at e'
    · exact Con.det y y' x u b b' c c' e e'
    · cases e'
  · cases e
open SeqAt in
theorem in_answers' {s : Shared} {A : Around} {x : AV} {v : Value} (cx : Con s.heap x v) (hu : A.units + 60 < cLine) (e : Value → Bool) (he : ∀ u b, Ans s.heap x u b → e u = b) :
    ∀ {xs : List AV} {us : List Value} {k : Bool}, Cons s.heap xs us → pyIn x xs = some k → (∀ u ∈ us, EqAt A s u v (e u)) ∧ us.any e = k
  | [], _, k, cs, hk => by
    cases cs
    exact ⟨fun u hu => (by cases hu), by simpa [pyIn] using hk⟩
  | y :: ys, _, k, cs, hk => by
    cases cs with
    | cons c cs =>
      simp only [pyIn, Option.bind_eq_some_iff, Option.map_eq_some_iff] at hk
      obtain ⟨a, e1, b, e2, rfl⟩ := hk
      have ea := he _ _ ⟨y, c, e1⟩
      obtain ⟨h1, h2⟩ := in_answers' cx hu e he cs e2
      refine ⟨fun u hu' => ?_, by rw [List.any_cons, ea, h2]⟩
      rcases List.mem_cons.mp hu' with rfl | hu'
      · rw [ea]
        unfold eqD at e1
        split at e1
        · exact (eq_is y x _ v a A c cx e1 (by omega)).eq
        · cases e1
      · exact h1 u hu'
open SeqAt in
/-- the answers of == against one value, by the machine's values -/
theorem in_answers {s : Shared} {A : Around} {x : AV} {v : Value} (cx : Con s.heap x v) (hu : A.units + 60 < cLine) {xs : List AV} {us : List Value} {k : Bool} (cs : Cons s.heap xs us) (hk : pyIn x xs = some k) :
    ∃ e : Value → Bool, (∀ u ∈ us, EqAt A s u v (e u)) ∧ us.any e = k := by
  classical
  refine ⟨fun u => if Ans s.heap x u true then true else false, in_answers' cx hu _ (fun u b p => ?_) cs hk⟩
  by_cases q : Ans s.heap x u true
  · simp only [if_pos q]; exact q.det p
  · simp only [if_neg q]
    cases b with
    | true => exact absurd p q
    | false => rfl

/-! ### the abstract value and the layer's value -/
/-- the script: locked, or of the written part -/
def SqS (K : PySem.W.Frag) (H : Hp) (a : Addr) (ns : List Int) : Prop := (∃ o, H a = some (.frz o (.lst (ns.map V.int)))) ∨
    ∃ (o : Obj) (its : Array Value) (n : Nat), K.lookup a = some o ∧ o.cls = .type "list" ∧ o.dict = none ∧ o.data = .seq its n ∧ its.size ≤ sizeLine ∧ Vals (ns.map V.int) its.toList
theorem SqS.sq {K : PySem.W.Frag} {H : Hp} {a : Addr} {ns : List Int} (h : SqS K H a ns) : SqL K H a (ns.map V.int) := by
  rcases h with h | h
  · exact .inl (.inr h)
  · exact .inr h


mutual
inductive Rep (K : PySem.W.Frag) (mg : Str → Option Value) (ρ : List Addr) (ex : Addr → Prop) (H : Hp) : AV → V → Prop
  | non : Rep K mg ρ ex H .non .non
  | bl (b : Bool) : Rep K mg ρ ex H (.bl b) (.bl b)
  | int (i : Int) : Rep K mg ρ ex H (.int i) (.int i)
  | str (x : Str) : Rep K mg ρ ex H (.str x) (.str x)
  | tup {a : Addr} {xs : List AV} {vs : List V} : SqT K H a vs → Reps K mg ρ ex H xs vs → Rep K mg ρ ex H (.tup xs) (.ref a)
  | lst {a : Addr} {xs : List AV} {vs : List V} : H a = some (.lst vs) → a ∉ ρ → ¬ ex a → Reps K mg ρ ex H xs vs → Rep K mg ρ ex H (.lst xs) (.ref a)
  | dct {a : Addr} {kvs : List (Key × V)} {vs : List AV} : H a = some (.dK kvs) → a ∉ ρ → ¬ ex a → Reps K mg ρ ex H vs (kvs.map (·.2)) → Rep K mg ρ ex H (.dct (kvs.map fun p => keyA p.1) vs) (.ref a)
  | ref {n : Nat} {a : Addr} : ρ[n]? = some a → Rep K mg ρ ex H (.ref n) (.ref a)
  | fn {x : Str} {f : Addr} : mg x = some (.ref f) → Rep K mg ρ ex H (.fn x) (.ref f)
  | scr {a : Addr} {ns : List Int} : SqS K H a ns → Rep K mg ρ ex H (.scr ns) (.ref a)
inductive Reps (K : PySem.W.Frag) (mg : Str → Option Value) (ρ : List Addr) (ex : Addr → Prop) (H : Hp) : List AV → List V → Prop
  | nil : Reps K mg ρ ex H [] []
  | cons {x : AV} {v : V} {xs : List AV} {vs : List V} : Rep K mg ρ ex H x v → Reps K mg ρ ex H xs vs → Reps K mg ρ ex H (x :: xs) (v :: vs)
end

/-- what leaves every reading as it is -/
structure Stp (ρ : List Addr) (ex : Addr → Prop) (H : Hp) (ρ' : List Addr) (ex' : Addr → Prop) (H' : Hp) : Prop where
  val : ∀ a u, H a = some u → a ∉ ρ → ¬ ex a → H' a = some u ∧ a ∉ ρ' ∧ ¬ ex' a
  fix : ∀ a u, H a = some u → ¬ Mut (some u) → H' a = some u
  ref : ∀ (n : Nat) (a : Addr), ρ[n]? = some a → ρ'[n]? = some a
section
variable {K : PySem.W.Frag} {mg : Str → Option Value} {ρ ρ' ρ'' : List Addr} {ex ex' ex'' : Addr → Prop} {H H' H'' : Hp}
theorem Stp.refl : Stp ρ ex H ρ ex H := ⟨fun _ _ e n x => ⟨e, n, x⟩, fun _ _ e _ => e, fun _ _ e => e⟩
theorem Stp.trans (a : Stp ρ ex H ρ' ex' H') (b : Stp ρ' ex' H' ρ'' ex'' H'') : Stp ρ ex H ρ'' ex'' H'' :=
  ⟨fun c u e n x => let ⟨e1, n1, x1⟩ := a.val c u e n x; b.val c u e1 n1 x1, fun c u e m => b.fix c u (a.fix c u e m) m, fun n c e => b.ref n c (a.ref n c e)⟩
theorem Stp.sqT (a : Stp ρ ex H ρ' ex' H') {b : Addr} {vs : List V} (h : SqT K H b vs) : SqT K H' b vs := by
  rcases h with (h | ⟨o, h⟩) | h
  · exact .inl (.inl (a.fix b _ h (fun z => z)))
  · exact .inl (.inr ⟨o, a.fix b _ h (fun z => z)⟩)
  · exact .inr h
theorem Stp.sqS (a : Stp ρ ex H ρ' ex' H') {b : Addr} {ns : List Int} (h : SqS K H b ns) : SqS K H' b ns := by
  rcases h with ⟨o, h⟩ | h
  · exact .inl ⟨o, a.fix b _ h (fun z => z)⟩
  · exact .inr h
mutual
theorem Rep.step (a : Stp ρ ex H ρ' ex' H') : ∀ {x : AV} {v : V}, Rep K mg ρ ex H x v → Rep K mg ρ' ex' H' x v
  | _, _, .non => .non
  | _, _, .bl b => .bl b
  | _, _, .int i => .int i
  | _, _, .str x => .str x
  | _, _, .tup q r => .tup (a.sqT q) (Reps.step a r)
  | _, _, .lst e n x r => let ⟨e1, n1, x1⟩ := a.val _ _ e n x; .lst e1 n1 x1 (Reps.step a r)
  | _, _, .dct e n x r => let ⟨e1, n1, x1⟩ := a.val _ _ e n x; .dct e1 n1 x1 (Reps.step a r)
  | _, _, .ref e => .ref (a.ref _ _ e)
  | _, _, .fn e => .fn e
  | _, _, .scr q => .scr (a.sqS q)
theorem Reps.step (a : Stp ρ ex H ρ' ex' H') : ∀ {xs : List AV} {vs : List V}, Reps K mg ρ ex H xs vs → Reps K mg ρ' ex' H' xs vs
  | _, _, .nil => .nil
  | _, _, .cons r rs => .cons (Rep.step a r) (Reps.step a rs)
end
theorem Reps.length : ∀ {xs : List AV} {vs : List V}, Reps K mg ρ ex H xs vs → xs.length = vs.length
  | _, _, .nil => rfl
  | _, _, .cons _ rs => congrArg Nat.succ (Reps.length rs)
theorem Reps.get : ∀ {xs : List AV} {vs : List V} {i : Nat} {x : AV}, Reps K mg ρ ex H xs vs → xs[i]? = some x → ∃ v, vs[i]? = some v ∧ Rep K mg ρ ex H x v
  | _, _, _, _, .nil, e => by simp at e
  | _, _, 0, _, .cons r _, e => by simp at e; subst e; exact ⟨_, rfl, r⟩
  | _, _, i + 1, _, .cons _ rs, e => by
    obtain ⟨v, h1, h2⟩ := Reps.get (i := i) rs (by simpa using e)
    exact ⟨v, by simpa using h1, h2⟩
theorem Reps.get' : ∀ {xs : List AV} {vs : List V} {i : Nat} {v : V}, Reps K mg ρ ex H xs vs → vs[i]? = some v → ∃ x, xs[i]? = some x ∧ Rep K mg ρ ex H x v
  | _, _, _, _, .nil, e => by simp at e
  | _, _, 0, _, .cons r _, e => by simp at e; subst e; exact ⟨_, rfl, r⟩
  | _, _, i + 1, _, .cons _ rs, e => by
    obtain ⟨v, h1, h2⟩ := Reps.get' (i := i) rs (by simpa using e)
    exact ⟨v, by simpa using h1, h2⟩
theorem Reps.append : ∀ {xs ys : List AV} {vs ws : List V}, Reps K mg ρ ex H xs vs → Reps K mg ρ ex H ys ws → Reps K mg ρ ex H (xs ++ ys) (vs ++ ws)
  | _, _, _, _, .nil, s => s
  | _, _, _, _, .cons r rs, s => .cons r (Reps.append rs s)
theorem Reps.take : ∀ {xs : List AV} {vs : List V} (n : Nat), Reps K mg ρ ex H xs vs → Reps K mg ρ ex H (xs.take n) (vs.take n)
  | _, _, 0, _ => .nil
  | _, _, _ + 1, .nil => .nil
  | _, _, n + 1, .cons r rs => .cons r (Reps.take n rs)
theorem Reps.drop : ∀ {xs : List AV} {vs : List V} (n : Nat), Reps K mg ρ ex H xs vs → Reps K mg ρ ex H (xs.drop n) (vs.drop n)
  | _, _, 0, r => r
  | _, _, _ + 1, .nil => .nil
  | _, _, n + 1, .cons _ rs => Reps.drop n rs
theorem Reps.set : ∀ {xs : List AV} {vs : List V} {x : AV} {v : V} (n : Nat), Reps K mg ρ ex H xs vs → Rep K mg ρ ex H x v → Reps K mg ρ ex H (xs.set n x) (vs.set n v)
  | _, _, _, _, _, .nil, _ => .nil
  | _, _, _, _, 0, .cons _ rs, r => .cons r rs
  | _, _, _, _, n + 1, .cons r rs, q => .cons r (Reps.set n rs q)
theorem Reps.reverse : ∀ {xs : List AV} {vs : List V}, Reps K mg ρ ex H xs vs → Reps K mg ρ ex H xs.reverse vs.reverse
  | _, _, .nil => .nil
  | _, _, .cons r rs => by
    rw [List.reverse_cons, List.reverse_cons]
    exact Reps.append (Reps.reverse rs) (.cons r .nil)
theorem Reps.isEmpty {xs : List AV} {vs : List V} (r : Reps K mg ρ ex H xs vs) : xs.isEmpty = vs.isEmpty := by cases r <;> rfl
theorem Reps.bls {bs : List Bool} : ∀ {vs : List V}, Reps K mg ρ ex H (bs.map AV.bl) vs → vs = bs.map V.bl := by
  induction bs with
  | nil => intro vs r; cases r; rfl
  | cons b bs ih =>
    intro vs r
    cases r with
    | cons r rs => cases r; rw [ih rs]; rfl
theorem Reps.ints {ns : List Int} : ∀ {vs : List V}, Reps K mg ρ ex H (ns.map AV.int) vs → vs = ns.map V.int := by
  induction ns with
  | nil => intro vs r; cases r; rfl
  | cons b bs ih =>
    intro vs r
    cases r with
    | cons r rs => cases r; rw [ih rs]; rfl
end

/-- what is only looked into: also a list of one's own -/
def RepW (K : PySem.W.Frag) (mg : Str → Option Value) (ρ : List Addr) (ex : Addr → Prop) (H : Hp) (x : AV) (v : V) : Prop :=
  Rep K mg ρ ex H x v ∨ ∃ xs a vs, x = .lst xs ∧ v = .ref a ∧ H a = some (.lst vs) ∧ a ∉ ρ ∧ Reps K mg ρ ex H xs vs

/-- behind an expression: cells may have turned, new things may have come, all else stands -/
structure Ext (ρ : List Addr) (H : Hp) (ρ' : List Addr) (H' : Hp) : Prop where
  pre : ∃ t, ρ' = ρ ++ t
  new : ∀ a, a ∈ ρ' → a ∉ ρ → H a = none
  fix : ∀ a u, H a = some u → ¬ Mut (some u) → H' a = some u
  keep : ∀ a u, H a = some u → a ∉ ρ → H' a = some u
section
variable {K : PySem.W.Frag} {mg : Str → Option Value} {ρ ρ' ρ'' : List Addr} {ex : Addr → Prop} {H H' H'' : Hp}
theorem Ext.refl : Ext ρ H ρ H := ⟨⟨[], by simp⟩, fun _ a n => absurd a n, fun _ _ e _ => e, fun _ _ e _ => e⟩
theorem Ext.sub (a : Ext ρ H ρ' H') {b : Addr} (h : b ∈ ρ) : b ∈ ρ' := by
  obtain ⟨t, e⟩ := a.pre
  rw [e]; exact List.mem_append_left _ h
theorem Ext.trans (a : Ext ρ H ρ' H') (b : Ext ρ' H' ρ'' H'') : Ext ρ H ρ'' H'' := by
  refine ⟨?_, fun c h n => ?_, fun c u e m => b.fix c u (a.fix c u e m) m, fun c u e n => ?_⟩
  · obtain ⟨t, e⟩ := a.pre
    obtain ⟨t', e'⟩ := b.pre
    exact ⟨t ++ t', by rw [e', e, List.append_assoc]⟩
  · by_cases q : c ∈ ρ'
    · exact a.new c q n
    · cases z : H c with
      | none => rfl
      | some u => have := a.keep c u z n; rw [b.new c h q] at this; cases this
  · refine b.keep c u (a.keep c u e n) fun q => ?_
    rw [a.new c q n] at e; cases e
theorem Ext.step (a : Ext ρ H ρ' H') : Stp ρ ex H ρ' ex H' :=
  ⟨fun b u e n x => ⟨a.keep b u e n, fun q => (by rw [a.new b q n] at e; cases e), x⟩, a.fix, fun n b e => by
    obtain ⟨t, e'⟩ := a.pre
    rw [e', List.getElem?_append_left (List.getElem?_eq_some_iff.mp e).1]; exact e⟩
theorem RepW.step (a : Ext ρ H ρ' H') {x : AV} {v : V} (h : RepW K mg ρ ex H x v) : RepW K mg ρ' ex H' x v := by
  rcases h with h | ⟨xs, b, vs, e1, e2, e3, n, r⟩
  · exact .inl (h.step a.step)
  · exact .inr ⟨xs, b, vs, e1, e2, a.keep b _ e3 n, fun q => (by rw [a.new b q n] at e3; cases e3), r.step a.step⟩
theorem RepW.lst {xs : List AV} {v : V} (h : RepW K mg ρ ex H (.lst xs) v) : ∃ a vs, v = .ref a ∧ H a = some (.lst vs) ∧ a ∉ ρ ∧ Reps K mg ρ ex H xs vs := by
  rcases h with h | ⟨ys, b, vs, e1, e2, e3, n, r⟩
  · cases h with
    | lst e n x r => exact ⟨_, _, rfl, e, n, r⟩
  · cases e1
    exact ⟨b, vs, e2, e3, n, r⟩
theorem RepW.rep {x : AV} {v : V} (h : RepW K mg ρ ex H x v) (n : ∀ xs, x ≠ .lst xs) : Rep K mg ρ ex H x v := by
  rcases h with h | ⟨ys, b, vs, e1, _⟩
  · exact h
  · exact absurd e1 (n ys)
end

/-! ### the abstract heap -/
def CellRel (K : PySem.W.Frag) (mg : Str → Option Value) (ρ : List Addr) (ex : Addr → Prop) (H : Hp) (a : Addr) : Cell → Prop
  | .lst xs => ∃ vs, H a = some (.lst vs) ∧ Reps K mg ρ ex H xs vs
  | .dK ks vs => ∃ kvs : List (Key × V), H a = some (.dK kvs) ∧ kvs.map (·.1) = ks ∧ Reps K mg ρ ex H vs (kvs.map (·.2))
  | .dT ks vs => ∃ kvs : List (List Key × V), H a = some (.dT kvs) ∧ kvs.map (·.1) = ks ∧ Reps K mg ρ ex H vs (kvs.map (·.2))
  | .ins C fs => ∃ (Ca dx : Addr) (gs : List (Str × V)), mg C = some (.ref Ca) ∧ H a = some (.ins Ca dx gs) ∧ gs.map (·.1) = fs.map (·.1) ∧ Reps K mg ρ ex H (fs.map (·.2)) (gs.map (·.2))
structure HRel (K : PySem.W.Frag) (mg : Str → Option Value) (ρ : List Addr) (ex : Addr → Prop) (ah : AH) (H : Hp) : Prop where
  len : ρ.length = ah.length
  nd : ρ.Nodup
  out : ∀ a ∈ ρ, ¬ ex a
  exOk : ∀ a, ex a → H a ≠ none
  cell : ∀ (n : Nat) (c : Cell) (a : Addr), ah[n]? = some c → ρ[n]? = some a → CellRel K mg ρ ex H a c
/-- what the names hold -/
def SlotRel (K : PySem.W.Frag) (mg : Str → Option Value) (ρ : List Addr) (ex : Addr → Prop) (H : Hp) (w : Option Addr) (v : Option V) : Sv → Prop
  | .un => True
  | .vl x => ∃ u, v = some u ∧ Rep K mg ρ ex H x u
  | .ol xs => ∃ a vs, v = some (.ref a) ∧ w = some a ∧ H a = some (.lst vs) ∧ Reps K mg ρ ex H xs vs
structure StRel (K : PySem.W.Frag) (mg : Str → Option Value) (ρ : List Addr) (ex : Addr → Prop) (ws : List (Option Addr)) (aσ : ASt) (ah : AH) (σ : L2.St) (H : Hp) : Prop where
  hp : HRel K mg ρ ex ah H
  len : aσ.length = σ.length
  wlen : ws.length = σ.length
  slot : ∀ (i : Nat) (s : Sv) (v : Option V) (w : Option Addr), aσ[i]? = some s → σ[i]? = some v → ws[i]? = some w → SlotRel K mg ρ ex H w v s
  own : ∀ (i : Nat) (a : Addr), ws[i]? = some (some a) → ex a
  inj : ∀ (i j : Nat) (a : Addr), ws[i]? = some (some a) → ws[j]? = some (some a) → i = j

section
variable {K : PySem.W.Frag} {mg : Str → Option Value} {ρ ρ' : List Addr} {ex ex' : Addr → Prop} {H H' : Hp} {ah : AH}
theorem CellRel.ne {a : Addr} : ∀ {c : Cell}, CellRel K mg ρ ex H a c → H a ≠ none
  | .lst _, ⟨_, e, _⟩ => by rw [e]; simp
  | .dK _ _, ⟨_, e, _⟩ => by rw [e]; simp
  | .dT _ _, ⟨_, e, _⟩ => by rw [e]; simp
  | .ins _ _, ⟨_, _, _, _, e, _⟩ => by rw [e]; simp
theorem CellRel.mut {a : Addr} : ∀ {c : Cell}, CellRel K mg ρ ex H a c → Mut (H a)
  | .lst _, ⟨_, e, _⟩ => by rw [e]; trivial
  | .dK _ _, ⟨_, e, _⟩ => by rw [e]; trivial
  | .dT _ _, ⟨_, e, _⟩ => by rw [e]; trivial
  | .ins _ _, ⟨_, _, _, _, e, _⟩ => by rw [e]; trivial
/-- a cell that itself stands, the rest stepping -/
theorem CellRel.step (a : Stp ρ ex H ρ' ex' H') {b : Addr} (e : H' b = H b) : ∀ {c : Cell}, CellRel K mg ρ ex H b c → CellRel K mg ρ' ex' H' b c
  | .lst _, ⟨vs, h, r⟩ => ⟨vs, e.trans h, r.step a⟩
  | .dK _ _, ⟨kvs, h, hk, r⟩ => ⟨kvs, e.trans h, hk, r.step a⟩
  | .dT _ _, ⟨kvs, h, hk, r⟩ => ⟨kvs, e.trans h, hk, r.step a⟩
  | .ins _ _, ⟨Ca, dx, gs, m, h, hk, r⟩ => ⟨Ca, dx, gs, m, e.trans h, hk, r.step a⟩
theorem HRel.there (h : HRel K mg ρ ex ah H) {a : Addr} (m : a ∈ ρ) : ∃ (n : Nat) (c : Cell), ah[n]? = some c ∧ ρ[n]? = some a ∧ CellRel K mg ρ ex H a c := by
  obtain ⟨n, hn, e⟩ := List.getElem_of_mem m
  have hn' : n < ah.length := by rw [← h.len]; exact hn
  have e1 : ah[n]? = some ah[n] := by simp [hn']
  have e2 : ρ[n]? = some a := by rw [List.getElem?_eq_getElem hn, e]
  exact ⟨n, _, e1, e2, h.cell n _ a e1 e2⟩
theorem HRel.ne (h : HRel K mg ρ ex ah H) {a : Addr} (m : a ∈ ρ) : H a ≠ none := let ⟨_, _, _, _, c⟩ := h.there m; c.ne
theorem HRel.mut (h : HRel K mg ρ ex ah H) {a : Addr} (m : a ∈ ρ) : Mut (H a) := let ⟨_, _, _, _, c⟩ := h.there m; c.mut
/-- more is excluded, at a place where nothing stood -/
theorem HRel.at {n : Nat} {c : Cell} (h : HRel K mg ρ ex ah H) (e : ah[n]? = some c) : ∃ a, ρ[n]? = some a ∧ CellRel K mg ρ ex H a c := by
  have hn : n < ρ.length := by rw [h.len]; exact (List.getElem?_eq_some_iff.mp e).1
  exact ⟨ρ[n], List.getElem?_eq_getElem hn, h.cell n c _ e (List.getElem?_eq_getElem hn)⟩
end

section
variable {K : PySem.W.Frag} {mg : Str → Option Value} {ρ ρ' : List Addr} {ex ex' : Addr → Prop} {H H' : Hp} {ah ah' : AH} {ws : List (Option Addr)} {aσ : ASt} {σ : L2.St}
theorem SlotRel.ext (a : Ext ρ H ρ' H') {w : Option Addr} {v : Option V} (hw : ∀ b, w = some b → b ∉ ρ) : ∀ {s : Sv}, SlotRel K mg ρ ex H w v s → SlotRel K mg ρ' ex H' w v s
  | .un, _ => trivial
  | .vl _, ⟨u, e, r⟩ => ⟨u, e, r.step a.step⟩
  | .ol _, ⟨b, vs, e1, e2, e3, r⟩ => ⟨b, vs, e1, e2, a.keep b _ e3 (hw b e2), r.step a.step⟩
/-- the names stand behind an expression -/
theorem StRel.ext (h : StRel K mg ρ ex ws aσ ah σ H) (a : Ext ρ H ρ' H') (hp : HRel K mg ρ' ex ah' H') : StRel K mg ρ' ex ws aσ ah' σ H' :=
  ⟨hp, h.len, h.wlen, fun i s v w e1 e2 e3 => (h.slot i s v w e1 e2 e3).ext a (fun b eb n => by subst eb; exact h.hp.out b n (h.own i b e3)), h.own, h.inj⟩
end
end G

set_option Elab.async false
set_option linter.all false
set_option maxRecDepth 100000
set_option maxHeartbeats 4000000
/-! GD: operations, by values. -/
namespace G
open PySem PySem.Spec PyProof.Rows L2

/-! ### ends -/
def Post {α : Type} (r : Rs α) (k : α → AH → Prop) (e : Exn → AH → Prop) : Prop := match r with
  | .ok a h => k a h
  | .ex x h => e x h
  | .no => False
theorem Post.imp {α : Type} {r : Rs α} {k k' : α → AH → Prop} {e e' : Exn → AH → Prop} (h : Post r k e) (hk : ∀ a h, k a h → k' a h) (he : ∀ x h, e x h → e' x h) : Post r k' e' := by
  cases r with
  | ok a h' => exact hk _ _ h
  | ex x h' => exact he _ _ h
  | no => exact h
theorem Post.bind {α β : Type} {r : Rs α} {f : α → AH → Rs β} {k : β → AH → Prop} {e : Exn → AH → Prop} : Post (r.bind f) k e ↔ Post r (fun a h => Post (f a h) k e) e := by cases r <;> exact Iff.rfl
theorem Post.lift {α : Type} {o : Option α} {h : AH} {k : α → AH → Prop} {e : Exn → AH → Prop} (p : Post (lift o h) k e) : ∃ a, o = some a ∧ k a h := by
  cases o with
  | none => exact p.elim
  | some a => exact ⟨a, rfl, p⟩
theorem Post.ite {α : Type} {c : Prop} [Decidable c] {r : Rs α} {k : α → AH → Prop} {e : Exn → AH → Prop} (p : Post (if c then r else .no) k e) : c ∧ Post r k e := by
  by_cases h : c
  · rw [if_pos h] at p; exact ⟨h, p⟩
  · rw [if_neg h] at p; exact p.elim

/-- an exception that flies -/
def XRel (K : PySem.W.Frag) (mg : Str → Option Value) (ρ : List Addr) (ex : Addr → Prop) (H : Hp) (x : Exn) (c : Value) (d : Option Addr) : Prop :=
  ∃ C, mg x.cls = some (.ref C) ∧ c = .ref C ∧ ((x.fs = [] ∧ d = none) ∨ ∃ dx gs, d = some dx ∧ H dx = some (.xd gs) ∧ gs.map (·.1) = x.fs.map (·.1) ∧ Reps K mg ρ ex H (x.fs.map (·.2)) (gs.map (·.2)))
def ExC (X : Cx) (E : XK) (ρ : List Addr) (ex : Addr → Prop) (H : Hp) (x : Exn) (ah' : AH) : Prop :=
  ∀ ρ' H' c d, Ext ρ H ρ' H' → HRel X.K X.mg ρ' ex ah' H' → XRel X.K X.mg ρ' ex H' x c d → E c d H'
/-- the end of an expression that comes to v -/
def Kok (X : Cx) (ρ : List Addr) (ex : Addr → Prop) (H : Hp) (Q : VK) (v : AV) (ah' : AH) : Prop :=
  ∀ ρ' H' v', Ext ρ H ρ' H' → HRel X.K X.mg ρ' ex ah' H' → Rep X.K X.mg ρ' ex H' v v' → Q v' H'

section
variable {X : Cx} {E : XK} {ρ ρ' : List Addr} {ex : Addr → Prop} {H H' : Hp} {Q : VK} {ah ah' : AH}
theorem ExC.ext {x : Exn} (h : ExC X E ρ ex H x ah') (a : Ext ρ H ρ' H') : ExC X E ρ' ex H' x ah' := fun ρ2 H2 c d b hp r => h ρ2 H2 c d (a.trans b) hp r
theorem Kok.ext {v : AV} (h : Kok X ρ ex H Q v ah') (a : Ext ρ H ρ' H') : Kok X ρ' ex H' Q v ah' := fun ρ2 H2 c b hp r => h ρ2 H2 c (a.trans b) hp r
theorem Kok.here {v : AV} {v' : V} (h : Kok X ρ ex H Q v ah) (hp : HRel X.K X.mg ρ ex ah H) (r : Rep X.K X.mg ρ ex H v v') : Q v' H := h ρ H v' .refl hp r

/-- a new thing laid -/
theorem ext_new {p : Addr} {o : HO} (hp : HRel X.K X.mg ρ ex ah H) (np : H p = none) : Ext ρ H ρ (upd H p o) :=
  ⟨⟨[], by simp⟩, fun _ a n => absurd a n, fun a u e _ => by rw [upd_ne (ne_of_none e np)]; exact e, fun a u e _ => by rw [upd_ne (ne_of_none e np)]; exact e⟩
theorem hrel_new {p : Addr} {o : HO} (hp : HRel X.K X.mg ρ ex ah H) (np : H p = none) : HRel X.K X.mg ρ ex ah (upd H p o) :=
  ⟨hp.len, hp.nd, hp.out, fun a x => by
    by_cases e : a = p
    · subst e; rw [upd_same]; simp
    · rw [upd_ne e]; exact hp.exOk a x, fun n c a e1 e2 => by
    refine (hp.cell n c a e1 e2).step (ext_new hp np).step ?_
    rw [upd_ne (fun e => by subst e; exact hp.ne (List.mem_of_getElem? e2) np)]⟩
theorem Kok.tup {xs : List AV} {vs : List V} (h : Kok X ρ ex H Q (.tup xs) ah) (hp : HRel X.K X.mg ρ ex ah H) (r : Reps X.K X.mg ρ ex H xs vs) (p : Addr) (np : H p = none) : Q (.ref p) (upd H p (.tup vs)) :=
  h ρ _ _ (ext_new hp np) (hrel_new hp np) (.tup (.inl (.inl upd_same)) (r.step (ext_new hp np).step))
theorem Kok.lst {xs : List AV} {vs : List V} (h : Kok X ρ ex H Q (.lst xs) ah) (hp : HRel X.K X.mg ρ ex ah H) (r : Reps X.K X.mg ρ ex H xs vs) (p : Addr) (np : H p = none) : Q (.ref p) (upd H p (.lst vs)) :=
  h ρ _ _ (ext_new hp np) (hrel_new hp np) (.lst upd_same (fun m => hp.ne m np) (fun x => hp.exOk p x np) (r.step (ext_new hp np).step))
end

/-! ### the machine's heap -/
section
variable {X : Cx} {pins : List (Addr × Obj)} {σ : L2.St} {H : Hp} {s : Shared} {ρ : List Addr} {ex : Addr → Prop}
mutual
theorem Rep.con (I : Inv X pins σ H s) : ∀ {x : AV} {v : V} {u : Value}, Rep X.K X.mg ρ ex H x v → RelV v u → Con s.heap x u
  | _, _, _, .non, r => by cases r; exact .non
  | _, _, _, .bl b, r => by cases r; exact .bl b
  | _, _, _, .int i, r => by obtain ⟨t, rfl⟩ := r; exact .int i t
  | _, _, _, .str x, r => by obtain ⟨t, rfl⟩ := r; exact .str x t
  | _, _, _, .tup q rs, r => by
    cases r
    obtain ⟨its, rv, p, _⟩ := I.tuple q
    exact .tup p (Reps.conAll I rs rv)
  | _, _, _, .lst e _ _ rs, r => by
    cases r
    obtain ⟨its, rv, p, _⟩ := I.list (.of e)
    exact .lst p.isList (Reps.conAll I rs rv)
  | _, _, _, .dct _ _ _ _, _ => .dct _ _ _
  | _, _, _, .ref _, _ => .ref _ _
  | _, _, _, .fn _, _ => .fn _ _
  | _, _, _, .scr _, _ => .scr _ _
theorem Reps.conAll (I : Inv X pins σ H s) : ∀ {xs : List AV} {vs : List V} {us : List Value}, Reps X.K X.mg ρ ex H xs vs → Vals vs us → Cons s.heap xs us
  | _, _, _, .nil, r => by cases r; exact .nil
  | _, _, _, .cons q qs, r => by
    cases r with
    | cons r rs => exact .cons (Rep.con I q r) (Reps.conAll I qs rs)
end
theorem RepW.con (I : Inv X pins σ H s) {x : AV} {v : V} {u : Value} (h : RepW X.K X.mg ρ ex H x v) (r : RelV v u) : Con s.heap x u := by
  rcases h with h | ⟨xs, a, vs, rfl, rfl, e, _, rs⟩
  · exact h.con I r
  · cases r
    obtain ⟨its, rv, p, _⟩ := I.list (.of e)
    exact .lst p.isList (rs.conAll I rv)
/-- the items of a sequence: a list or a tuple of the machine -/
theorem items_at {ah : AH} (hp : HRel X.K X.mg ρ ex ah H) {x : AV} {v : V} {xs : List AV} (h : RepW X.K X.mg ρ ex H x v) (e : items ah x = some xs) :
    ∃ a vs, v = .ref a ∧ ((∃ n, x = .ref n ∧ H a = some (.lst vs)) ∨ (x = .lst xs ∧ H a = some (.lst vs)) ∨ (x = .tup xs ∧ SqT X.K H a vs)) ∧ Reps X.K X.mg ρ ex H xs vs := by
  cases x with
  | tup ys =>
    cases e
    cases h.rep (fun _ q => by cases q) with
    | tup q r => exact ⟨_, _, rfl, .inr (.inr ⟨rfl, q⟩), r⟩
  | lst ys =>
    cases e
    obtain ⟨a, vs, e1, e2, _, r⟩ := h.lst
    exact ⟨a, vs, e1, .inr (.inl ⟨rfl, e2⟩), r⟩
  | ref n =>
    cases h.rep (fun _ q => by cases q) with
    | @ref _ a hn =>
      simp only [items] at e
      split at e
      · rename_i ys hc
        cases e
        obtain ⟨vs, h1, r⟩ := hp.cell n _ a hc hn
        exact ⟨a, vs, rfl, .inl ⟨n, rfl, h1⟩, r⟩
      · cases e
  | non => cases e
  | bl _ => cases e
  | int _ => cases e
  | str _ => cases e
  | dct _ _ => cases e
  | fn _ => cases e
  | scr _ => cases e
theorem items_sq {ah : AH} (hp : HRel X.K X.mg ρ ex ah H) {x : AV} {v : V} {xs : List AV} (h : RepW X.K X.mg ρ ex H x v) (e : items ah x = some xs) :
    ∃ a vs, v = .ref a ∧ (SqL X.K H a vs ∨ SqT X.K H a vs) ∧ Reps X.K X.mg ρ ex H xs vs := by
  obtain ⟨a, vs, e1, q, r⟩ := items_at hp h e
  refine ⟨a, vs, e1, ?_, r⟩
  rcases q with ⟨_, _, q⟩ | ⟨_, q⟩ | ⟨_, q⟩
  · exact .inl (.of q)
  · exact .inl (.of q)
  · exact .inr q
end

/-! ### + - * // % ** -/
def pyB : BOp → Operator
  | .add => .Add
  | .sub => .Sub
  | .mul => .Mult
  | .fdiv => .FloorDiv
  | .mod => .Mod
  | .pow => .Pow
def noX : Exn → AH → Prop := fun _ _ => False
def rB (X : Cx) (o : BOp) : R2 := fun x y H Q => ∃ ρ ex ah a b, HRel X.K X.mg ρ ex ah H ∧ Rep X.K X.mg ρ ex H a x ∧ Rep X.K X.mg ρ ex H b y ∧ Post (opB o a b ah) (Kok X ρ ex H Q) noX
theorem op_B (X : Cx) (o : BOp) : OpR X (binaryOp (pyB o)) (rB X o) := by
  intro pins s σ H x y v u Q I rx ry h
  obtain ⟨ρ, ex, ah, a, b, hp, ra, rb, P⟩ := h
  unfold opB at P
  split at P
  · cases ra; cases rb; exact op_add pins s σ H _ _ v u Q I rx ry ⟨_, _, rfl, rfl, P.here hp (.int _)⟩
  · cases ra; cases rb; exact op_sub pins s σ H _ _ v u Q I rx ry ⟨_, _, rfl, rfl, P.here hp (.int _)⟩
  · cases ra; cases rb
    obtain ⟨c, P⟩ := P.ite
    exact op_mul pins s σ H _ _ v u Q I rx ry ⟨_, _, rfl, rfl, c, P.here hp (.int _)⟩
  · cases ra; cases rb
    obtain ⟨c, P⟩ := P.ite
    exact op_fdiv pins s σ H _ _ v u Q I rx ry ⟨_, _, rfl, rfl, c, P.here hp (.int _)⟩
  · cases ra; cases rb
    obtain ⟨c, P⟩ := P.ite
    exact op_mod pins s σ H _ _ v u Q I rx ry ⟨_, _, rfl, rfl, c, P.here hp (.int _)⟩
  · cases ra; cases rb
    obtain ⟨c, P⟩ := P.ite
    exact op_pow pins s σ H _ _ v u Q I rx ry ⟨_, _, rfl, rfl, c, P.here hp (.int _)⟩
  · cases ra; cases rb
    obtain ⟨c, P⟩ := P.ite
    exact op_add_str pins s σ H _ _ v u Q I rx ry ⟨_, _, rfl, rfl, c, P.here hp (.str _)⟩
  · cases ra with
    | @tup a1 xs vs q r =>
      cases rb with
      | @tup a2 ys ws q2 r2 =>
        obtain ⟨c, P⟩ := P.ite
        refine op_catA pins s σ H _ _ v u Q I rx ry ⟨_, _, _, _, rfl, rfl, q, q2, by rw [← r.length, ← r2.length]; exact c, fun e => ?_, fun e e2 => ?_, fun e e2 p np => P.tup hp (r.append r2) p np⟩
        · subst e; cases r
          exact P.here hp (.tup q2 r2)
        · subst e2; cases r2
          exact P.here hp (.tup q (by simpa using r))
  · cases ra with
    | lst e1 n1 x1 r =>
      cases rb with
      | lst e2 n2 x2 r2 =>
        obtain ⟨c, P⟩ := P.ite
        exact op_cat pins s σ H _ _ v u Q I rx ry ⟨_, _, _, _, rfl, rfl, e1, e2, by rw [← r.length, ← r2.length]; exact c, fun p np => P.lst hp (r.append r2) p np⟩
  · exact P.elim

/-! ### comparisons -/
def pyC : COp → CmpOp
  | .lt => .Lt
  | .le => .LtE
  | .gt => .Gt
  | .ge => .GtE
  | .eq => .Eq
  | .ne => .NotEq
  | .is => .Is
  | .isn => .IsNot
  | .mem => .In
  | .nmem => .NotIn
def rC (X : Cx) (o : COp) : R2 := fun x y H Q => ∃ ρ ex ah a b k, HRel X.K X.mg ρ ex ah H ∧ RepW X.K X.mg ρ ex H a x ∧ RepW X.K X.mg ρ ex H b y ∧ opC o a b ah = some k ∧ Q (.bl k) H
theorem opLt_int {a b : AV} {k : Bool} (e : opLt a b = some k) : ∃ i j, a = .int i ∧ b = .int j ∧ k = decide (i < j) := by
  unfold opLt at e
  split at e
  · cases e; exact ⟨_, _, rfl, rfl, rfl⟩
  · cases e
def isNon : AV → Bool
  | .non => true
  | _ => false
theorem isNon_rep {K : PySem.W.Frag} {mg : Str → Option Value} {ρ : List Addr} {ex : Addr → Prop} {H : Hp} {a : AV} {v : V} (r : RepW K mg ρ ex H a v) : decide (v = .non) = isNon a := by
  rcases r with r | ⟨_, _, _, rfl, rfl, _⟩
  · cases r <;> simp [isNon]
  · simp [isNon]
theorem opIs_cases {a b : AV} {k : Bool} (e : opIs a b = some k) : (b = .non ∧ k = isNon a) ∨ ∃ p q, a = .bl p ∧ b = .bl q ∧ k = decide (p = q) := by
  unfold opIs at e
  split at e <;> first | (cases e; exact .inr ⟨_, _, rfl, rfl, rfl⟩) | (cases e; exact .inl ⟨rfl, rfl⟩) | cases e
section
variable {K : PySem.W.Frag} {mg : Str → Option Value} {ρ : List Addr} {ex : Addr → Prop} {H : Hp}
theorem RepW.int {i : Int} {v : V} (h : RepW K mg ρ ex H (.int i) v) : v = .int i := by cases h.rep (fun _ q => by cases q); rfl
theorem RepW.bl {b : Bool} {v : V} (h : RepW K mg ρ ex H (.bl b) v) : v = .bl b := by cases h.rep (fun _ q => by cases q); rfl
theorem RepW.str {x : Str} {v : V} (h : RepW K mg ρ ex H (.str x) v) : v = .str x := by cases h.rep (fun _ q => by cases q); rfl
theorem RepW.non {v : V} (h : RepW K mg ρ ex H .non v) : v = .non := by cases h.rep (fun _ q => by cases q); rfl
end
theorem eqD_pyEq {a b : AV} {k : Bool} (e : eqD a b = some k) : pyEq a b = some k ∧ min (dep a) (dep b) ≤ 60 := by
  unfold eqD at e
  split at e
  · exact ⟨e, by assumption⟩
  · cases e
theorem op_C (X : Cx) (o : COp) (hu : X.A.units + 64 < cLine) : OpR X (compareOp (pyC o)) (rC X o) := by
  intro pins s σ H x y v u Q I rx ry h
  obtain ⟨ρ, ex, ah, a, b, k, hp, ra, rb, e, q⟩ := h
  have fin : EP X pins σ Q (.bool k) s := ⟨.bl k, H, I, rfl, q⟩
  have memT : ∀ {k' : Bool}, (items ah b).bind (pyIn a) = some k' → ∃ (p : Addr), u = .ref p ∧ ∃ (us : Array Value) (f : Value → Bool), (s.heap.IsList p us ∨ s.heap.IsTuple p us) ∧ (∀ w, w ∈ us → SeqAt.EqAt X.A.in1 s w v (f w)) ∧ us.any f = k' := fun {k'} e => by
    obtain ⟨xs, e1, e2⟩ := Option.bind_eq_some_iff.mp e
    obtain ⟨p, vs, rfl, sq, r⟩ := items_sq hp rb e1
    obtain rfl : u = .ref p := ry
    rcases sq with sq | sq
    · obtain ⟨its, rv, pl, _⟩ := I.list sq
      obtain ⟨f, h1, h2⟩ := in_answers (A := X.A.in1) (ra.con I rx) (by show X.A.units + 1 + 60 < cLine; omega) (r.conAll I rv) e2
      exact ⟨p, rfl, its.toArray, f, .inl pl.isList, fun w hw => h1 w (by simpa using hw), by simpa using h2⟩
    · obtain ⟨its, rv, pl, _⟩ := I.tuple sq
      obtain ⟨f, h1, h2⟩ := in_answers (A := X.A.in1) (ra.con I rx) (by show X.A.units + 1 + 60 < cLine; omega) (r.conAll I rv) e2
      exact ⟨p, rfl, its.toArray, f, .inr pl, fun w hw => h1 w (by simpa using hw), by simpa using h2⟩
  cases o with
  | lt =>
    obtain ⟨i, j, rfl, rfl, rfl⟩ := opLt_int e
    obtain rfl := ra.int
    obtain rfl := rb.int
    exact op_lt pins s σ H _ _ v u Q I rx ry ⟨_, _, rfl, rfl, q⟩
  | gt =>
    obtain ⟨i, j, rfl, rfl, rfl⟩ := opLt_int (a := b) (b := a) e
    obtain rfl := ra.int
    obtain rfl := rb.int
    exact op_gt pins s σ H _ _ v u Q I rx ry ⟨_, _, rfl, rfl, q⟩
  | le =>
    obtain ⟨k', e', rfl⟩ := Option.map_eq_some_iff.mp (show (opLt b a).map not = some k from e)
    obtain ⟨i, j, rfl, rfl, rfl⟩ := opLt_int e'
    obtain rfl := ra.int
    obtain rfl := rb.int
    refine op_le pins s σ H _ _ v u Q I rx ry ⟨_, _, rfl, rfl, ?_⟩
    have ee : decide (j ≤ i) = !decide (i < j) := by rw [← decide_not]; exact decide_eq_decide.mpr (by omega)
    show Q (.bl (decide (j ≤ i))) H
    rw [ee]
    exact q
  | ge =>
    obtain ⟨k', e', rfl⟩ := Option.map_eq_some_iff.mp (show (opLt a b).map not = some k from e)
    obtain ⟨i, j, rfl, rfl, rfl⟩ := opLt_int e'
    obtain rfl := ra.int
    obtain rfl := rb.int
    refine op_ge pins s σ H _ _ v u Q I rx ry ⟨_, _, rfl, rfl, ?_⟩
    have ee : decide (j ≤ i) = !decide (i < j) := by rw [← decide_not]; exact decide_eq_decide.mpr (by omega)
    show Q (.bl (decide (j ≤ i))) H
    rw [ee]
    exact q
  | eq =>
    obtain ⟨e1, e2⟩ := eqD_pyEq (show eqD a b = some k from e)
    exact (eq_is a b v u k X.A (ra.con I rx) (rb.con I ry) e1 (by omega)).rc X.prog X.w X.xe _ fin
  | ne =>
    obtain ⟨k', e', rfl⟩ := Option.map_eq_some_iff.mp (show (eqD a b).map not = some k from e)
    obtain ⟨e1, e2⟩ := eqD_pyEq e'
    exact (eq_is a b v u k' X.A (ra.con I rx) (rb.con I ry) e1 (by omega)).ne X.prog X.w X.xe _ fin
  | «is» =>
    rcases opIs_cases (show opIs a b = some k from e) with ⟨rfl, rfl⟩ | ⟨p, p', rfl, rfl, rfl⟩
    · obtain rfl := rb.non
      exact op_isN pins s σ H _ _ v u Q I rx ry ⟨rfl, by rw [isNon_rep ra]; exact q⟩
    · obtain rfl := ra.bl
      obtain rfl := rb.bl
      exact op_is_bl pins s σ H _ _ v u Q I rx ry ⟨_, _, rfl, rfl, q⟩
  | isn =>
    obtain ⟨k', e', rfl⟩ := Option.map_eq_some_iff.mp (show (opIs a b).map not = some k from e)
    rcases opIs_cases e' with ⟨rfl, rfl⟩ | ⟨p, p', rfl, rfl, rfl⟩
    · obtain rfl := rb.non
      exact op_notN pins s σ H _ _ v u Q I rx ry ⟨rfl, by rw [isNon_rep ra]; exact q⟩
    · obtain rfl := ra.bl
      obtain rfl := rb.bl
      exact op_isnot_bl pins s σ H _ _ v u Q I rx ry ⟨_, _, rfl, rfl, q⟩
  | mem =>
    simp only [opC] at e
    split at e
    · split at e
      · cases e
        obtain rfl := ra.str
        obtain rfl := rb.str
        exact op_in_str pins s σ H _ _ v u Q I rx ry ⟨_, _, rfl, rfl, q⟩
      · cases e
    · obtain ⟨p, rfl, us, f, sq, h1, rfl⟩ := memT e
      rcases sq with sq | sq
      · exact SeqAt.in_listAt f sq h1 fin
      · exact SeqAt.in_tupleAt f sq h1 fin
  | nmem =>
    simp only [opC] at e
    split at e
    · split at e
      · cases e
        obtain rfl := ra.str
        obtain rfl := rb.str
        exact op_notin_str pins s σ H _ _ v u Q I rx ry ⟨_, _, rfl, rfl, q⟩
      · cases e
    · obtain ⟨k', e', rfl⟩ := Option.map_eq_some_iff.mp e
      obtain ⟨p, rfl, us, f, sq, h1, rfl⟩ := memT e'
      rcases sq with sq | sq
      · exact SeqAt.notIn_listAt f sq h1 fin
      · exact SeqAt.notIn_tupleAt f sq h1 fin

/-! ### truth -/
def rTru (X : Cx) : V → Hp → (Bool → Hp → Prop) → Prop := fun x H Q => ∃ ρ ex ah a k, HRel X.K X.mg ρ ex ah H ∧ RepW X.K X.mg ρ ex H a x ∧ truth ah a = some k ∧ Q k H
theorem op_T (X : Cx) : TruR X (rTru X) := by
  intro pins s σ H x v Q I rx h
  obtain ⟨ρ, ex, ah, a, k, hp, ra, e, q⟩ := h
  refine tru_ok pins s σ H x v Q I rx ⟨k, ?_, q⟩
  cases a with
  | non => obtain rfl := ra.non; cases e; rfl
  | bl b => obtain rfl := ra.bl; cases e; rfl
  | int i => obtain rfl := ra.int; cases e; rfl
  | str z =>
    obtain rfl := ra.str
    simp only [truth] at e
    split at e
    · cases e
      exact ⟨by assumption, by
        rw [Bool.eq_iff_iff]; simp⟩
    · cases e
  | tup xs =>
    cases e
    cases ra.rep (fun _ q => by cases q) with
    | tup q r => exact .inr (.inl ⟨_, q, by rw [r.isEmpty]⟩)
  | lst xs =>
    cases e
    obtain ⟨p, vs, rfl, e2, _, r⟩ := ra.lst
    exact .inl ⟨_, .of e2, by rw [r.isEmpty]⟩
  | dct _ _ => cases e
  | ref _ => cases e
  | fn _ => cases e
  | scr _ => cases e

/-! ### subscripts -/
theorem Reps.atI {K : PySem.W.Frag} {mg : Str → Option Value} {ρ : List Addr} {ex : Addr → Prop} {H : Hp} {xs : List AV} {vs : List V} (r : Reps K mg ρ ex H xs vs) {i : Int} {x : AV} (e : L2.atI xs i = some x) : ∃ v, L2.atI vs i = some v ∧ Rep K mg ρ ex H x v := by
  unfold L2.atI at e ⊢
  obtain ⟨j, e1, e2⟩ := Option.bind_eq_some_iff.mp e
  obtain ⟨v, e3, rv⟩ := r.get e2
  exact ⟨v, by rw [← r.length, e1]; exact e3, rv⟩
theorem atI_map {α β : Type} (f : α → β) {xs : List α} {i : Int} {x : α} (e : L2.atI xs i = some x) : L2.atI (xs.map f) i = some (f x) := by
  unfold L2.atI at e ⊢
  obtain ⟨j, e1, e2⟩ := Option.bind_eq_some_iff.mp e
  rw [List.length_map, e1]
  show (xs.map f)[j]? = _
  rw [List.getElem?_map, e2]; rfl
def rSub (X : Cx) : R2 := fun x y H Q => ∃ ρ ex ah a b r, HRel X.K X.mg ρ ex ah H ∧ RepW X.K X.mg ρ ex H a x ∧ Rep X.K X.mg ρ ex H b y ∧ opSub a b ah = some r ∧ ∀ v, Rep X.K X.mg ρ ex H r v → Q v H
theorem op_Sub (X : Cx) : IxR X (rSub X) := by
  intro ve se pins s σ H x y v u Q I rx ry h hs
  obtain ⟨ρ, ex, ah, a, b, r, hp, ra, rb, e, q⟩ := h
  have seq : ∀ k : Int, b = .int k → (∃ xs, items ah a = some xs ∧ L2.atI xs k = some r) → rIx X.K x y H Q := fun k hb ⟨xs, e1, e2⟩ => by
    subst hb
    cases rb
    obtain ⟨p, vs, rfl, sq, rs⟩ := items_sq hp ra e1
    obtain ⟨w, e3, rw'⟩ := rs.atI e2
    rcases sq with sq | sq
    · exact .inl ⟨p, vs, k, w, rfl, rfl, sq, e3, q w rw'⟩
    · exact .inr (.inl ⟨p, vs, k, w, rfl, rfl, sq, e3, q w rw'⟩)
  refine ix_seq ve se pins s σ H x y v u Q I rx ry ?_ hs
  unfold opSub at e
  split at e
  · rename_i z k
    split at e
    · rename_i hz
      obtain ⟨c, e1, rfl⟩ := Option.map_eq_some_iff.mp e
      obtain rfl := ra.str
      cases rb
      exact .inr (.inr ⟨z, k, c, rfl, rfl, hz, e1, q _ (.str _)⟩)
    · cases e
  · rename_i ns k
    obtain ⟨i, e1, rfl⟩ := Option.map_eq_some_iff.mp e
    cases rb
    cases ra.rep (fun _ q => by cases q) with
    | scr sq => exact .inl ⟨_, _, k, .int i, rfl, rfl, sq.sq, atI_map V.int e1, q _ (.int _)⟩
  · rename_i k h1 h2
    obtain ⟨xs, e1, e2⟩ := Option.bind_eq_some_iff.mp e
    exact seq k rfl ⟨xs, e1, e2⟩
  · cases e
end G

set_option Elab.async false
set_option linter.all false
set_option maxRecDepth 100000
set_option maxHeartbeats 4000000
/-! GE: slices, isinstance, built-in calls. -/
namespace HTx
open PySem PySem.Spec PyProof.Rows L2 HT
section
variable {prog : Program} {w : World} {A : Around} {E : Value → Shared → Prop} {s : Shared}
theorem adjust_rev (n : Nat) : Builtin.Slice.sliceAdjust none none (-1) (n : Int) = ((n : Int) - 1, -1) := by
  unfold Builtin.Slice.sliceAdjust
  simp
theorem places_rev (n : Nat) : Builtin.Slice.slicePlaces ((n : Int) - 1) (-1) (-1) = n := by
  unfold Builtin.Slice.slicePlaces
  rw [if_neg (by decide)]
  by_cases h : n = 0
  · subst h; rfl
  · rw [if_pos (by omega)]
    have : ((n : Int) - 1 - -1 - 1) / (- -1) + 1 = n := by
      rw [show (- -1 : Int) = 1 by decide, Int.ediv_one]; omega
    rw [this]; simp
theorem sliceApplied_rev {sl : Addr} {vl vu vs : Value} {n : Nat} {Q : Int × Int × Nat → Shared → Prop} (hs : s.heap.IsSliceOf sl vl vu vs) (pl : IsPart vl none) (pu : IsPart vu none) (ps : IsPart vs (some (-1)))
    (h : Q ((n : Int) - 1, -1, n) s) : wpAny (model prog w) A (Builtin.Slice.sliceApplied (.ref sl) (pure (n : Int))) Q E s := by
  obtain ⟨os, hos, hcs, hds⟩ := id hs
  unfold Builtin.Slice.sliceApplied Builtin.Slice.sliceFields
  refine wpAny_bind (wpAny_bind (wpAny_field hos hds (x := vl) rfl (wpAny_bind (wpAny_field hos hds (x := vu) rfl (wpAny_bind (wpAny_field hos hds (x := vs) rfl (wpAny_pure ?_)))))))
  refine wpAny_bind (slicePart_ ps ?_)
  show wpAny _ _ (if ((-1 : Int) == 0) = true then _ else _) _ _ s
  rw [if_neg (by decide)]
  refine wpAny_bind (slicePart_ pl (wpAny_bind (slicePart_ pu (wpAny_bind (wpAny_pure ?_)))))
  show wpAny _ _ (match Builtin.Slice.sliceAdjust none none (-1) (n : Int) with | (lo, hi) => pure (lo, (-1 : Int), Builtin.Slice.slicePlaces lo hi (-1))) _ _ s
  rw [adjust_rev n]
  show wpAny _ _ (pure ((n : Int) - 1, (-1 : Int), Builtin.Slice.slicePlaces ((n : Int) - 1) (-1) (-1))) _ _ s
  rw [places_rev]
  exact wpAny_pure h
theorem fm_map {α β : Type} {f : α → Option β} {g : α → β} : ∀ {l : List α}, (∀ m ∈ l, f m = some (g m)) → l.filterMap f = l.map g
  | [], _ => rfl
  | a :: l, h => by
    rw [List.filterMap_cons, h a (List.mem_cons_self ..), List.map_cons, fm_map fun m hm => h m (List.mem_cons_of_mem _ hm)]
theorem pick_rev (xs : List Value) : ((List.range xs.length).filterMap fun (m : Nat) => xs.toArray[((xs.length : Int) - 1 + (m : Int) * -1).toNat]?) = xs.reverse := by
  rw [fm_map (g := fun m => xs.reverse.getD m .none) (fun m hm => by
    have hm := List.mem_range.mp hm
    rw [show ((xs.length : Int) - 1 + (m : Int) * -1).toNat = xs.length - 1 - m by omega]
    rw [List.getD_eq_getElem?_getD, List.getElem?_reverse hm]
    have : xs.length - 1 - m < xs.length := by omega
    simp [this])]
  apply List.ext_getElem (by simp)
  intro i h1 h2
  simp only [List.length_map, List.length_range] at h1
  simp [List.getD_eq_getElem?_getD, h1]
theorem getItem_tuple_rev {t sl : Addr} {items : List Value} {vl vu vs : Value} {Q : Value → Shared → Prop} (ht : IsTup s.heap t items.toArray) (hs : s.heap.IsSliceOf sl vl vu vs) (pl : IsPart vl none) (pu : IsPart vu none) (ps : IsPart vs (some (-1)))
    (h : Q (.ref s.heap.objs.size) { s with heap := s.heap.push { cls := .type "tuple", data := .seq items.reverse.toArray } })
    (hsz : items.length ≤ sizeLine) : wpAny (model prog w) A (getItem (.ref t) (.ref sl)) Q E s := by
  obtain ⟨os, hos, hcs, hds⟩ := id hs
  have hTs : s.TypeIs (.ref sl) "slice" := ⟨os, hos, hcs⟩
  unfold getItem
  try with_reducible refine wpAny_holding ?_
  first | refine wpAny_bind (wpAny_pure ?_) | skip
  refine wpAny_bind (wpAny_sequenceKey ht.typeIs (by decide) ?_)
  refine wpAny_bind (wpAny_callSpecial?_slot (name := Str.ofString "__getitem__") ht.typeIs PyProof.Rows.slot_tuple_getitem
    (wpAny_call_entry PyProof.Rows.slot_tuple_getitem ht.typeIs entry_tuple_getitem ?_ (args_tuple_getitem _ _)))
  show wpAny _ _ (Builtin.Tuple.tupleItemsOf (.ref t) >>= _) _ _ s
  refine wpAny_bind (tupleItemsOf_ ht ?_)
  refine wpAny_bind (wpAny_typeOf hTs ?_)
  rw [if_pos (by decide)]
  have hn : items.toArray.size = items.length := List.size_toArray ..
  refine wpAny_bind (sliceApplied_rev hs pl pu ps ?_)
  have hno : ¬ ((((items.toArray.size : Int) - 1 == 0) && ((-1 : Int) == 1) && (items.toArray.size == items.toArray.size)) = true) := by simp
  show wpAny _ _ (if (((items.toArray.size : Int) - 1 == 0) && ((-1 : Int) == 1) && (items.toArray.size == items.toArray.size)) = true then _ else _) _ _ s
  rw [if_neg hno]
  have hp : ((List.range items.toArray.size).filterMap fun (m : Nat) => items.toArray[((items.toArray.size : Int) - 1 + (m : Int) * -1).toNat]?).toArray = items.reverse.toArray := by
    rw [hn, pick_rev]
  rw [hp]
  have htake : sizeOk (.seq items.reverse.toArray) := by
    show items.reverse.toArray.size ≤ sizeLine
    rw [List.size_toArray, List.length_reverse]; exact hsz
  first
    | exact wpAny_bind (m := Builtin.Tuple.tupleExact _) (wpAny_newObj_type (wpAny_pure ⟨_, rfl, wpAny_pure h⟩) htake)
    | exact wpAny_bind (m := Builtin.Tuple.tupleExact _) (wpAny_newObj_type (wpAny_bind (wpAny_pure (wpAny_pure ⟨_, rfl, wpAny_pure h⟩))) htake)
    | exact wpAny_bind (wpAny_bind (m := Builtin.Tuple.tupleExact _) (wpAny_newObj_type (wpAny_pure (wpAny_pure ⟨_, rfl, wpAny_pure h⟩)) htake))
    | exact wpAny_bind (wpAny_bind (m := Builtin.Tuple.tupleExact _) (wpAny_newObj_type (wpAny_pure ⟨_, rfl, wpAny_pure h⟩) htake))
end
end HTx

namespace G
open PySem PySem.Spec PyProof.Rows L2

/-! ### slices -/
theorem cutL_V {α β : Type} (f : α → β) (xs : List α) (lo hi : Option Int) : cutL (xs.map f) lo hi = (cutL xs lo hi).map f := by
  unfold cutL; simp
theorem Reps.cut {K : PySem.W.Frag} {mg : Str → Option Value} {ρ : List Addr} {ex : Addr → Prop} {H : Hp} {xs : List AV} {vs : List V} (r : Reps K mg ρ ex H xs vs) (lo hi : Option Int) : Reps K mg ρ ex H (cutL xs lo hi) (cutV vs lo hi) := by
  unfold cutL cutV
  rw [← r.length]
  exact (r.drop _).take _
def rSl (X : Cx) : V → Option Int → Option Int → Hp → VK → Prop := fun x lo hi H Q => ∃ ρ ex ah a r, HRel X.K X.mg ρ ex ah H ∧ RepW X.K X.mg ρ ex H a x ∧ opSlice a lo hi ah = some r ∧ Kok X ρ ex H Q r ah
theorem cut_whole {α : Type} {xs : List α} {lo hi : Option Int} (h : HT.sIx xs.length 0 lo = 0 ∧ HT.sIx xs.length xs.length hi = xs.length) : cutL xs lo hi = xs := by
  unfold cutL
  rw [h.1, h.2]; simp
theorem op_Sl (X : Cx) : SlR X (rSl X) := by
  intro pins s σ H x v vl vu lo hi sl Q I rx hs pl pu h
  obtain ⟨ρ, ex, ah, a, r, hp, ra, e, q⟩ := h
  cases a with
  | tup xs =>
    cases e
    cases ra.rep (fun _ q => by cases q) with
    | @tup p _ vs sq rs =>
      refine sl_tupA pins s σ H _ v vl vu lo hi sl Q I rx hs pl pu ⟨_, vs, rfl, sq, fun hw => ?_, fun _ p np => q.tup hp (rs.cut lo hi) p np⟩
      refine q.here hp ?_
      rw [← rs.length] at hw
      rw [cut_whole hw]
      exact .tup sq rs
  | lst xs =>
    cases e
    obtain ⟨p, vs, rfl, e2, _, rs⟩ := ra.lst
    exact sl_list pins s σ H _ v vl vu lo hi sl Q I rx hs pl pu ⟨_, vs, rfl, .of e2, fun p np => q.lst hp (rs.cut lo hi) p np⟩
  | str z =>
    simp only [opSlice] at e
    split at e
    · cases e
      obtain rfl := ra.str
      exact sl_str pins s σ H _ v vl vu lo hi sl Q I rx hs pl pu ⟨_, rfl, by assumption, q.here hp (.str _)⟩
    · cases e
  | non => cases e
  | bl _ => cases e
  | int _ => cases e
  | dct _ _ => cases e
  | ref _ => cases e
  | fn _ => cases e
  | scr _ => cases e

/-! ### isinstance -/
def tyN : Ty → String
  | .int => "int"
  | .bool => "bool"
  | .str => "str"
  | .tuple => "tuple"
  | .list => "list"
  | .dict => "dict"
def avN : AV → Option String
  | .non => some "NoneType"
  | .bl _ => some "bool"
  | .int _ => some "int"
  | .str _ => some "str"
  | .tup _ => some "tuple"
  | .lst _ => some "list"
  | .dct _ _ => some "dict"
  | _ => none
theorem hasTy_kit {x : AV} {t : Ty} {b : Bool} (e : hasTy x t = some b) : ∃ n, avN x = some n ∧ kitB n (tyN t) = some b := by
  cases x <;> cases t <;> simp only [hasTy, Option.some.injEq, reduceCtorEq] at e <;> subst e <;> exact ⟨_, rfl, by decide +kernel⟩
theorem hasTys_kit {K : PySem.W.Frag} {x : AV} {n : String} (hn : avN x = some n) : ∀ {ts : List Ty} {b : Bool}, hasTys x ts = some b → PySem.W.kitAny K (.type n) (ts.map fun t => Value.type (tyN t)) = some b
  | [], b, e => e
  | t :: ts, b, e => by
    unfold hasTys at e
    split at e
    · rename_i h
      obtain ⟨m, h1, h2⟩ := hasTy_kit h
      rw [hn] at h1; cases h1
      cases e
      exact kitAny_cons (kit_ty h2) (fun q => by cases q) (fun _ => rfl)
    · rename_i h
      obtain ⟨m, h1, h2⟩ := hasTy_kit h
      rw [hn] at h1; cases h1
      exact kitAny_cons (kit_ty h2) (fun _ => hasTys_kit hn e) (fun q => by cases q)
    · cases e
theorem hasTys_avN {x : AV} : ∀ {ts : List Ty} {b : Bool}, ts ≠ [] → hasTys x ts = some b → ∃ n, avN x = some n
  | [], _, h, _ => absurd rfl h
  | t :: ts, b, _, e => by
    unfold hasTys at e
    split at e
    · rename_i h; obtain ⟨m, h1, _⟩ := hasTy_kit h; exact ⟨m, h1⟩
    · rename_i h; obtain ⟨m, h1, _⟩ := hasTy_kit h; exact ⟨m, h1⟩
    · cases e
theorem Rep.ty {K : PySem.W.Frag} {mg : Str → Option Value} {ρ : List Addr} {ex : Addr → Prop} {H : Hp} {x : AV} {v : V} {n : String} (r : Rep K mg ρ ex H x v) (e : avN x = some n) : TyX K H v (.type n) := by
  cases r with
  | non => cases e; exact .base .non
  | bl b => cases e; exact .base (.bl b)
  | int i => cases e; exact .base (.int i)
  | str z => cases e; exact .base (.str z)
  | tup q _ =>
    cases e
    rcases q with (q | ⟨o, q⟩) | ⟨o, its, k, h1, h2, _⟩
    · exact .base (.tup q)
    · exact .fTuple q
    · exact .kTuple h1 h2
  | lst q _ _ _ => cases e; exact .base (.lst q)
  | dct q _ _ _ => cases e; exact .base (.dK q)
  | ref _ => cases e
  | fn _ => cases e
  | scr _ => cases e

/-! ### calls of built-ins -/
inductive RepWs (K : PySem.W.Frag) (mg : Str → Option Value) (ρ : List Addr) (ex : Addr → Prop) (H : Hp) : List AV → List V → Prop
  | nil : RepWs K mg ρ ex H [] []
  | cons {x : AV} {v : V} {xs : List AV} {vs : List V} : RepW K mg ρ ex H x v → RepWs K mg ρ ex H xs vs → RepWs K mg ρ ex H (x :: xs) (v :: vs)
theorem RepWs.step {K : PySem.W.Frag} {mg : Str → Option Value} {ρ ρ' : List Addr} {ex : Addr → Prop} {H H' : Hp} (a : Ext ρ H ρ' H') : ∀ {xs : List AV} {vs : List V}, RepWs K mg ρ ex H xs vs → RepWs K mg ρ' ex H' xs vs
  | _, _, .nil => .nil
  | _, _, .cons r rs => .cons (r.step a) (RepWs.step a rs)
theorem boolsOf_map : ∀ {xs : List AV} {bs : List Bool}, boolsOf xs = some bs → xs = bs.map AV.bl
  | [], _, e => by cases e; rfl
  | x :: xs, bs, e => by
    cases x <;> simp only [boolsOf, Option.map_eq_some_iff, reduceCtorEq] at e
    obtain ⟨bs', e1, rfl⟩ := e
    rw [boolsOf_map e1]; rfl
theorem intsOf_map : ∀ {xs : List AV} {bs : List Int}, intsOf xs = some bs → xs = bs.map AV.int
  | [], _, e => by cases e; rfl
  | x :: xs, bs, e => by
    cases x <;> simp only [intsOf, Option.map_eq_some_iff, reduceCtorEq] at e
    obtain ⟨bs', e1, rfl⟩ := e
    rw [intsOf_map e1]; rfl
theorem alike_ints (ns : List Int) : PySem.W.AlikeAll (ns.map PyData.int) := by
  refine ⟨fun x hx y hy => ?_, fun x hx => ?_⟩
  · obtain ⟨n, _, rfl⟩ := List.mem_map.mp hx
    obtain ⟨m, _, rfl⟩ := List.mem_map.mp hy
    rfl
  · obtain ⟨n, _, rfl⟩ := List.mem_map.mp hx
    intro h; cases h
theorem litems_items {h : AH} {x : AV} {xs : List AV} (e : litems h x = some xs) : items h x = some xs := by
  cases x <;> first | exact e | cases e
section
variable {X : Cx} {pins : List (Addr × Obj)} {σ : L2.St} {H : Hp} {s : Shared} {ρ : List Addr} {ex : Addr → Prop}
theorem litems_sq {ah : AH} (hp : HRel X.K X.mg ρ ex ah H) {x : AV} {v : V} {xs : List AV} (h : RepW X.K X.mg ρ ex H x v) (e : litems ah x = some xs) :
    ∃ a vs, v = .ref a ∧ H a = some (.lst vs) ∧ Reps X.K X.mg ρ ex H xs vs := by
  obtain ⟨a, vs, e1, q, r⟩ := items_at hp h (litems_items e)
  refine ⟨a, vs, e1, ?_, r⟩
  rcases q with ⟨_, _, q⟩ | ⟨_, q⟩ | ⟨rfl, _⟩
  · exact q
  · exact q
  · cases e
theorem ne_sysMod (I : L2.Inv X pins σ H s) (sm : (X.K.lookup sysModules).isSome = true) {a : Addr} {u : HO} (e : H a = some u) : a ≠ sysModules := by
  rintro rfl
  obtain ⟨o, ho⟩ := Option.isSome_iff_exists.mp sm
  rw [(I.bs _ o (I.ok.mod.kin _ _ ho)).2] at e
  cases e
theorem reads_keys {h : Heap} : ∀ {ks : List Key} {us : List Value} {as : List PyData}, toPys (ks.map keyA) = some as → Vals (ks.map kV) us → ReadsAll h us as []
  | [], _, _, e, r => by
    simp only [List.map_nil, toPys, Option.some.injEq] at e
    subst e
    cases r
    exact .nil
  | k :: ks, _, _, e, r => by
    rw [List.map_cons, toPys] at e
    obtain ⟨a, e1, e2⟩ := Option.bind_eq_some_iff.mp e
    obtain ⟨as, e3, rfl⟩ := Option.map_eq_some_iff.mp e2
    rw [List.map_cons] at r
    cases r with
    | cons r rs =>
      have q := reads_keys (h := h) e3 rs
      cases k with
      | inl i =>
        simp only [keyA, toPy, Option.some.injEq] at e1
        subst e1
        obtain ⟨t, rfl⟩ := r
        exact .cons (as := []) (bs := []) (.int i t) q
      | inr x =>
        simp only [keyA, toPy, Option.some.injEq] at e1
        subst e1
        obtain ⟨t, rfl⟩ := r
        exact .cons (as := []) (bs := []) (.str x t) q
theorem readsAll_len {h : Heap} : ∀ {us : List Value} {ds : List PyData} {as : List Addr}, ReadsAll h us ds as → us.length = ds.length
  | _, _, _, .nil => rfl
  | _, _, _, .cons _ rs => congrArg Nat.succ (readsAll_len rs)
theorem dct_vals {P : Program} {w : World} : ∀ {kvs : List (Key × V)} {vs : List (Key × Value)} {es : List DictEntry}, KV kvs vs → Pairs (mixKind P w) es vs → Vals ((kvs.map (·.1)).map kV) (es.map (·.key)) ∧ Vals (kvs.map (·.2)) (es.map (·.val))
  | [], _, _, r, p => by
    cases r
    cases p
    exact ⟨.nil, .nil⟩
  | kv :: kvs, _, _, r, p => by
    cases r with
    | cons h t =>
      cases p with
      | cons hk hv ps =>
        obtain ⟨h1, h2⟩ := h
        obtain ⟨q1, q2⟩ := dct_vals t ps
        refine ⟨.cons ?_ q1, .cons (by show L2.RelV kv.2 _; dsimp only; rw [hv]; exact h2) q2⟩
        show L2.RelV (kV kv.1) _
        dsimp only
        rw [h1]
        rcases keyIs_shape hk with ⟨i, t, e1, e2⟩ | ⟨x, t, e1, e2⟩
        · rw [e1, e2]; exact ⟨t, rfl⟩
        · rw [e1, e2]; exact ⟨t, rfl⟩
mutual
/-- what repr reads of the machine's heap -/
theorem Rep.reads (I : L2.Inv X pins σ H s) (sm : (X.K.lookup sysModules).isSome = true) : ∀ {x : AV} {v : V} {u : Value} {d : PyData}, Rep X.K X.mg ρ ex H x v → toPy x = some d → RelV v u → ∃ as, Reads s.heap u d as ∧ sysModules ∉ as
  | _, _, _, _, .non, e, r => by cases e; cases r; exact ⟨[], .none, by simp⟩
  | _, _, _, _, .bl b, e, r => by cases e; cases r; exact ⟨[], .bool b, by simp⟩
  | _, _, _, _, .int i, e, r => by cases e; obtain ⟨t, rfl⟩ := r; exact ⟨[], .int i t, by simp⟩
  | _, _, _, _, .str x, e, r => by cases e; obtain ⟨t, rfl⟩ := r; exact ⟨[], .str x t, by simp⟩
  | _, _, _, _, .tup q rs, e, r => by
    rw [toPy] at e
    obtain ⟨ds, e1, rfl⟩ := Option.map_eq_some_iff.mp e
    cases r
    obtain ⟨its, rv, ⟨o, ho, hc, n, hd⟩, _⟩ := I.tuple q
    obtain ⟨as, q1, q2⟩ := Reps.readsAll I sm rs e1 rv
    exact ⟨as, .tuple ho hc hd (by simpa using q1), q2⟩
  | _, _, _, _, .lst ea _ _ rs, e, r => by
    rw [toPy] at e
    obtain ⟨ds, e1, rfl⟩ := Option.map_eq_some_iff.mp e
    cases r
    obtain ⟨hz, its, n, rv, ho⟩ := I.hok _ _ ea
    obtain ⟨as, q1, q2⟩ := Reps.readsAll I sm rs e1 rv
    exact ⟨_, .list ho rfl rfl (by simpa using q1), by
      simp only [List.mem_cons, not_or]
      exact ⟨fun z => ne_sysMod I sm ea z.symm, q2⟩⟩
  | _, _, _, _, .dct (kvs := kvs) ea _ _ rs, e, r => by
    rw [toPy] at e
    obtain ⟨as, e1, e2⟩ := Option.bind_eq_some_iff.mp e
    obtain ⟨bs, e3, rfl⟩ := Option.map_eq_some_iff.mp e2
    cases r
    obtain ⟨hz, hS, vs, kv, o, es, ep, ho, hx, hd, hk, hp, hn⟩ := dk_of I.hok ea
    obtain ⟨v1, v2⟩ := dct_vals kv hp
    obtain ⟨bs', q1, q2⟩ := Reps.readsAll I sm rs e3 v2
    have r1 := reads_keys (h := s.heap) (ks := kvs.map (·.1)) (by rw [List.map_map]; exact e1) v1
    have l1 := readsAll_len r1
    have l2 := readsAll_len q1
    have l3 : as.length = bs.length := by rw [← l1, ← l2]; simp
    refine ⟨_, .dict ho hx.1 hd (as := []) (bs := bs') ?_ ?_, ?_⟩
    · rw [List.map_fst_zip (Nat.le_of_eq l3)]; exact r1
    · rw [List.map_snd_zip (Nat.le_of_eq l3.symm)]; exact q1
    · simp only [List.append_nil, List.cons_append, List.nil_append, List.mem_cons, not_or]
      exact ⟨fun z => ne_sysMod I sm ea z.symm, q2⟩
  | _, _, _, _, .ref _, e, _ => by cases e
  | _, _, _, _, .fn _, e, _ => by cases e
  | _, _, _, _, .scr _, e, _ => by cases e
theorem Reps.readsAll (I : L2.Inv X pins σ H s) (sm : (X.K.lookup sysModules).isSome = true) : ∀ {xs : List AV} {vs : List V} {us : List Value} {ds : List PyData}, Reps X.K X.mg ρ ex H xs vs → toPys xs = some ds → Vals vs us → ∃ as, ReadsAll s.heap us ds as ∧ sysModules ∉ as
  | _, _, _, _, .nil, e, r => by
    simp only [toPys, Option.some.injEq] at e
    subst e
    cases r
    exact ⟨[], .nil, by simp⟩
  | _, _, _, _, .cons q qs, e, r => by
    rw [toPys] at e
    obtain ⟨d, e1, e2⟩ := Option.bind_eq_some_iff.mp e
    obtain ⟨ds, e3, rfl⟩ := Option.map_eq_some_iff.mp e2
    cases r with
    | cons r rs =>
      obtain ⟨as, h1, n1⟩ := Rep.reads I sm q e1 r
      obtain ⟨bs, h2, n2⟩ := Reps.readsAll I sm qs e3 rs
      exact ⟨as ++ bs, .cons h1 h2, by simp [n1, n2]⟩
end
theorem repr_w {Q : VK} (I : L2.Inv X pins σ H s) (hu : X.A.units + 64 < cLine) (gd : X.A.guards = some []) (sm : (X.K.lookup sysModules).isSome = true) {x : AV} {v : V} {us : List Value} {t : Str} (h : RepW X.K X.mg ρ ex H x v) (r : ∃ u, us = [u] ∧ RelV v u) (e : opRepr x = some t) (q : Q (.str t) H) :
    wpAny (model X.prog X.w) X.A (call (.builtin "repr") us) (EP X pins σ Q) X.xe s := by
  obtain ⟨u, rfl, r⟩ := r
  unfold opRepr at e
  obtain ⟨d, e1, e2⟩ := Option.bind_eq_some_iff.mp e
  split at e2
  · rename_i c
    cases e2
    have hr : ∃ as, Reads s.heap u d as ∧ sysModules ∉ as := by
      rcases h with h | ⟨xs, a, vs, rfl, rfl, ea, n, rs⟩
      · exact h.reads I sm e1 r
      · rw [toPy] at e1
        obtain ⟨ds, e3, rfl⟩ := Option.map_eq_some_iff.mp e1
        cases r
        obtain ⟨hz, its, n, rv, ho⟩ := I.hok _ _ ea
        obtain ⟨as, q1, q2⟩ := rs.readsAll I sm e3 rv
        exact ⟨_, .list ho rfl rfl (by simpa using q1), by
          simp only [List.mem_cons, not_or]
          exact ⟨fun z => ne_sysMod I sm ea z.symm, q2⟩⟩
    obtain ⟨as, hr, hn⟩ := hr
    have fin : ∀ tk u, EP X pins σ Q (.str d.shown u) { s with toks := tk } := fun tk u => ⟨.str d.shown, H, I.tok tk, ⟨u, rfl⟩, q⟩
    cases hr with
    | none => exact PySem.P.repr_of_none (fin _ _)
    | bool b => exact PySem.P.repr_of_bool (fin _ _)
    | int i t => exact PySem.P.repr_of_int (by simpa [PyData.showable] using c.1) (fin _ _)
    | str x t => exact PySem.P.repr_of_str (fin _ _) c.2.2
    | list h1 h2 h3 h4 =>
      exact repr_of_reads' (.list h1 h2 h3 h4) c.1 (fun _ => hn) gd (by have := c.2.1; omega) (fun _ _ e => e) (fun h' u tk hk => ⟨.str _, H, I.kept (t' := tk) hk, ⟨u, rfl⟩, q⟩) c.2.2
    | tuple h1 h2 h3 h4 =>
      exact repr_of_reads' (.tuple h1 h2 h3 h4) c.1 (fun _ => hn) gd (by have := c.2.1; omega) (fun _ _ e => e) (fun h' u tk hk => ⟨.str _, H, I.kept (t' := tk) hk, ⟨u, rfl⟩, q⟩) c.2.2
    | dict h1 h2 h3 h4 h5 =>
      exact repr_of_reads' (.dict h1 h2 h3 h4 h5) c.1 (fun _ => hn) gd (by have := c.2.1; omega) (fun _ _ e => e) (fun h' u tk hk => ⟨.str _, H, I.kept (t' := tk) hk, ⟨u, rfl⟩, q⟩) c.2.2
  · cases e2
end
theorem Vals.one' {v : V} {us : List Value} (r : Vals [v] us) : ∃ u, us = [u] ∧ RelV v u := by
  cases r with
  | cons r rr => cases rr; exact ⟨_, rfl, r⟩
def biId : Bi → Value
  | .len => .builtin "len"
  | .all => .builtin "all"
  | .any => .builtin "any"
  | .sum => .builtin "sum"
  | .min => .builtin "min"
  | .max => .builtin "max"
  | .sorted => .builtin "sorted"
  | .tuple => .type "tuple"
  | .list => .type "list"
  | .str => .type "str"
  | .int => .type "int"
  | .repr => .builtin "repr"
  | .bool => .type "bool"
def rBi (X : Cx) (f : Bi) : List V → Hp → VK → Prop := fun vs H Q => ∃ ρ ex ah xs, HRel X.K X.mg ρ ex ah H ∧ RepWs X.K X.mg ρ ex H xs vs ∧ Post (opBi f xs ah) (Kok X ρ ex H Q) noX
theorem op_Bi (X : Cx) (f : Bi) (hc : X.calm = true) (hu : X.A.units + 64 < cLine) (gd : X.A.guards = some []) (sm : (X.K.lookup sysModules).isSome = true) : CallR X (biId f) (rBi X f) := by
  intro pins s σ H vs us Q I r h
  obtain ⟨ρ, ex, ah, xs, hp, rs, P⟩ := h
  unfold opBi at P
  split at P
  · obtain ⟨c, P⟩ := P.ite
    cases rs with | cons r1 rs => cases rs; obtain rfl := r1.str; exact call_len pins s σ H _ us Q I r ⟨_, _, rfl, ⟨c, rfl⟩, P.here hp (.int _)⟩
  · cases rs with
    | cons r1 rs =>
      cases rs
      cases r1.rep (fun _ q => by cases q) with
      | scr sq => exact call_len pins s σ H _ us Q I r ⟨_, _, rfl, .inl ⟨_, sq.sq, (List.length_map ..).symm⟩, P.here hp (.int _)⟩
  · rw [Post.bind] at P
    obtain ⟨ys, e, P⟩ := P.lift
    cases rs with
    | cons r1 rs =>
      cases rs
      obtain ⟨a, ws, rfl, sq, rr⟩ := items_sq hp r1 e
      refine call_len pins s σ H _ us Q I r ⟨_, ws.length, rfl, ?_, by rw [← rr.length]; exact P.here hp (.int _)⟩
      rcases sq with sq | sq
      · exact .inl ⟨_, sq, rfl⟩
      · exact .inr ⟨_, sq, rfl⟩
  · obtain ⟨v, e, P⟩ := P.lift
    obtain ⟨bs, e0, rfl⟩ := Option.map_eq_some_iff.mp e
    obtain ⟨ys, e1, e2⟩ := Option.bind_eq_some_iff.mp e0
    obtain rfl := boolsOf_map e2
    cases rs with
    | cons r1 rs =>
      cases rs
      obtain ⟨a, ws, rfl, e3, rr⟩ := litems_sq hp r1 e1
      obtain rfl := rr.bls
      exact cr_all hc pins s σ H _ us Q I r ⟨a, bs, rfl, .of e3, P.here hp (.bl _)⟩
  · obtain ⟨v, e, P⟩ := P.lift
    obtain ⟨bs, e0, rfl⟩ := Option.map_eq_some_iff.mp e
    obtain ⟨ys, e1, e2⟩ := Option.bind_eq_some_iff.mp e0
    obtain rfl := boolsOf_map e2
    cases rs with
    | cons r1 rs =>
      cases rs
      obtain ⟨a, ws, rfl, e3, rr⟩ := litems_sq hp r1 e1
      obtain rfl := rr.bls
      exact cr_any hc pins s σ H _ us Q I r ⟨a, bs, rfl, .of e3, P.here hp (.bl _)⟩
  · obtain ⟨v, e, P⟩ := P.lift
    obtain ⟨ys, e0, rfl⟩ := Option.map_eq_some_iff.mp e
    cases rs with
    | cons r1 rs =>
      cases rs
      obtain ⟨a, ws, rfl, sq, rr⟩ := items_sq hp r1 e0
      rcases sq with sq | sq
      · exact call_tuple_of pins s σ H _ us Q I r ⟨a, ws, rfl, .inl ⟨sq, fun p np => P.tup hp rr p np⟩⟩
      · exact call_tuple_of pins s σ H _ us Q I r ⟨a, ws, rfl, .inr ⟨sq, P.here hp (.tup sq rr)⟩⟩
  · obtain ⟨v, e, P⟩ := P.lift
    obtain ⟨ys, e0, rfl⟩ := Option.map_eq_some_iff.mp e
    cases rs with
    | cons r1 rs =>
      cases rs
      obtain ⟨a, ws, rfl, sq, rr⟩ := items_sq hp r1 e0
      exact call_list_of pins s σ H _ us Q I r ⟨a, ws, rfl, sq, fun p np => P.lst hp rr p np⟩
  · cases rs with
    | cons r1 rs =>
      cases rs with
      | cons r2 rs =>
        cases rs
        obtain rfl := r1.int
        obtain rfl := r2.int
        exact call_min2 hc pins s σ H _ us Q I r ⟨_, _, rfl, P.here hp (.int _)⟩
  · cases rs with
    | cons r1 rs =>
      cases rs with
      | cons r2 rs =>
        cases rs
        obtain rfl := r1.int
        obtain rfl := r2.int
        exact call_max2 hc pins s σ H _ us Q I r ⟨_, _, rfl, P.here hp (.int _)⟩
  · obtain ⟨v, e, P⟩ := P.lift
    obtain ⟨t, e0, rfl⟩ := Option.map_eq_some_iff.mp e
    cases rs with
    | cons r1 rs =>
      cases rs
      exact repr_w I hu gd sm r1 (Vals.one' r) e0 (P.here hp (.str _))
  · cases rs with | cons r1 rs => cases rs; cases r1.rep (fun _ q => by cases q); exact call_int1 pins s σ H _ us Q I r (.inr ⟨_, rfl, P.here hp (.int _)⟩)
  · cases rs with | cons r1 rs => cases rs; obtain rfl := r1.int; exact call_int1 pins s σ H _ us Q I r (.inl ⟨_, rfl, P.here hp (.int _)⟩)
  · obtain ⟨v, e, P⟩ := P.lift
    obtain ⟨ns, e0, rfl⟩ := Option.map_eq_some_iff.mp e
    obtain ⟨ys, e1, e2⟩ := Option.bind_eq_some_iff.mp e0
    obtain rfl := intsOf_map e2
    cases rs with
    | cons r1 rs =>
      cases rs
      obtain ⟨a, ws, rfl, e3, rr⟩ := litems_sq hp r1 e1
      obtain rfl := rr.ints
      exact cr_sum hc pins s σ H _ us Q I r ⟨a, ns, rfl, .of e3, P.here hp (.int _)⟩
  · exact P.elim
/-! ### min, max with a default -/
def rBiD (X : Cx) (f : Bi) : List V → List V → Hp → VK → Prop := fun vs zs H Q => ∃ ρ ex ah x d v z, vs = [v] ∧ zs = [z] ∧ HRel X.K X.mg ρ ex ah H ∧ RepW X.K X.mg ρ ex H x v ∧ Rep X.K X.mg ρ ex H d z ∧ Post (opBiD f x d ah) (Kok X ρ ex H Q) noX
theorem depth_ints : ∀ ns : List Int, PyData.depthAll (ns.map .int) ≤ 1
  | [] => by simp [PyData.depthAll]
  | n :: ns => by
    have := depth_ints ns
    simp only [List.map_cons, PyData.depthAll, PyData.depth]
    omega
theorem reads_ints {h : Heap} : ∀ {us : List Value} {ns : List Int}, Vals (ns.map V.int) us → ReadsAll h us (ns.map .int) []
  | _, [], r => by cases r; exact .nil
  | _, n :: ns, r => by
    rw [List.map_cons] at r
    cases r with
    | cons r rs =>
      obtain ⟨t, rfl⟩ := r
      exact .cons (as := []) (bs := []) (.int n t) (reads_ints rs)
theorem op_BiD (X : Cx) (f : Bi) {id : String} (hf : biId f = .builtin id) (hc : X.calm = true) (hu : X.A.units + 64 < cLine) : CallRK X (.builtin id) [Str.ofString "default"] (rBiD X f) := by
  intro pins s σ H vs zs us ws Q I r r' h
  obtain ⟨ρ, ex, ah, x, d, v, z, rfl, rfl, hp, r1, r2, P⟩ := h
  obtain ⟨dv, rfl, rd⟩ := Vals.one' r'
  obtain ⟨u, rfl, ru⟩ := Vals.one' r
  have fin : ∀ {ns : List Int} {y : AV}, (litems ah x).bind intsOf = some ns → ∃ a its n, v = .ref a ∧ u = .ref a ∧ s.heap.IsList a its ∧ ReadsAll s.heap its.toList (ns.map .int) [] ∧ its.size = n := by
    intro ns y e
    obtain ⟨ys, e1, e2⟩ := Option.bind_eq_some_iff.mp e
    obtain rfl := intsOf_map e2
    obtain ⟨a, ws, rfl, e3, rr⟩ := litems_sq hp r1 e1
    obtain rfl := rr.ints
    cases ru
    obtain ⟨its, rv, hl, _⟩ := I.list (.of e3)
    exact ⟨a, its.toArray, _, rfl, rfl, hl.isList, by simpa using reads_ints rv, rfl⟩
  unfold opBiD at P
  split at P
  · rename_i e
    cases hf
    obtain ⟨a, its, n, rfl, rfl, hl, rr, _⟩ := fin (y := .non) e
    exact PySem.W.max_list_default (I.ok.hd hc) hl rr (alike_ints _) (by have := depth_ints []; omega) (fun _ h' tk hk => ⟨z, H, I.kept hk, rd, P.here hp r2⟩) (fun y ys i v' h' tk bs e => by cases e)
  · rename_i n ns e
    cases hf
    obtain ⟨a, its, _, rfl, rfl, hl, rr, _⟩ := fin (y := .non) e
    refine PySem.W.max_list_default (I.ok.hd hc) hl rr (alike_ints _) (by have := depth_ints (n :: ns); omega) (fun e => by cases e) (fun y ys i v' h' tk bs e _ hr hk => ?_)
    cases e
    rw [PySem.W.maxD_ints] at hr
    cases hr
    exact ⟨.int _, H, I.kept hk, ⟨_, rfl⟩, P.here hp (.int _)⟩
  · rename_i e
    cases hf
    obtain ⟨a, its, n, rfl, rfl, hl, rr, _⟩ := fin (y := .non) e
    exact PySem.W.min_list_default (I.ok.hd hc) hl rr (alike_ints _) (by have := depth_ints []; omega) (fun _ h' tk hk => ⟨z, H, I.kept hk, rd, P.here hp r2⟩) (fun y ys i v' h' tk bs e => by cases e)
  · rename_i n ns e
    cases hf
    obtain ⟨a, its, _, rfl, rfl, hl, rr, _⟩ := fin (y := .non) e
    refine PySem.W.min_list_default (I.ok.hd hc) hl rr (alike_ints _) (by have := depth_ints (n :: ns); omega) (fun e => by cases e) (fun y ys i v' h' tk bs e _ hr hk => ?_)
    cases e
    rw [PySem.W.minD_ints] at hr
    cases hr
    exact ⟨.int _, H, I.kept hk, ⟨_, rfl⟩, P.here hp (.int _)⟩
  · exact P.elim
end G

set_option Elab.async false
set_option linter.all false
set_option maxRecDepth 100000
set_option maxHeartbeats 4000000
/-! GF: the readings of the small language's expressions. -/
namespace G
open PySem PySem.Spec PyProof.Rows L2

/-- what a context must bear -/
structure Ok (X : Cx) : Prop where
  calm : X.calm = true
  nd : X.N.Nodup
  un : X.A.units + 64 < cLine
  gd : X.A.guards = some []
  sm : (X.K.lookup sysModules).isSome = true

def KokW (X : Cx) (ρ : List Addr) (ex : Addr → Prop) (H : Hp) (Q : VK) (v : AV) (ah' : AH) : Prop :=
  ∀ ρ' H' v', Ext ρ H ρ' H' → HRel X.K X.mg ρ' ex ah' H' → RepW X.K X.mg ρ' ex H' v v' → Q v' H'
def KoAs (X : Cx) (ρ : List Addr) (ex : Addr → Prop) (H : Hp) (Q : List V → Hp → Prop) (vs : List AV) (ah' : AH) : Prop :=
  ∀ ρ' H' vs', Ext ρ H ρ' H' → HRel X.K X.mg ρ' ex ah' H' → Reps X.K X.mg ρ' ex H' vs vs' → Q vs' H'
def KoWs (X : Cx) (ρ : List Addr) (ex : Addr → Prop) (H : Hp) (Q : List V → Hp → Prop) (vs : List AV) (ah' : AH) : Prop :=
  ∀ ρ' H' vs', Ext ρ H ρ' H' → HRel X.K X.mg ρ' ex ah' H' → RepWs X.K X.mg ρ' ex H' vs vs' → Q vs' H'
def KoB {α : Type} (X : Cx) (ρ : List Addr) (ex : Addr → Prop) (H : Hp) (Q : α → Hp → Prop) (b : α) (ah' : AH) : Prop :=
  ∀ ρ' H', Ext ρ H ρ' H' → HRel X.K X.mg ρ' ex ah' H' → Q b H'

def tE (X : Cx) (E : XK) (Φ : CallA) (e : Exp) : TE := fun σ H Q => ∃ ρ ex ws aσ ah, StRel X.K X.mg ρ ex ws aσ ah σ H ∧ Post (evE Φ e aσ ah) (Kok X ρ ex H Q) (ExC X E ρ ex H)
def tP (X : Cx) (E : XK) (Φ : CallA) (e : Exp) : TE := fun σ H Q => ∃ ρ ex ws aσ ah, StRel X.K X.mg ρ ex ws aσ ah σ H ∧ Post (peek e aσ ah (evE Φ e aσ ah)) (KokW X ρ ex H Q) (ExC X E ρ ex H)
def tEs (X : Cx) (E : XK) (Φ : CallA) (es : List Exp) : TA := fun σ H Q => ∃ ρ ex ws aσ ah, StRel X.K X.mg ρ ex ws aσ ah σ H ∧ Post (evEs Φ es aσ ah) (KoAs X ρ ex H Q) (ExC X E ρ ex H)
def tPs (X : Cx) (E : XK) (Φ : CallA) (es : List Exp) : TA := fun σ H Q => ∃ ρ ex ws aσ ah, StRel X.K X.mg ρ ex ws aσ ah σ H ∧ Post (evPs Φ es aσ ah) (KoWs X ρ ex H Q) (ExC X E ρ ex H)
def tT (X : Cx) (E : XK) (Φ : CallA) (t : Tst) : TT := fun σ H Q => ∃ ρ ex ws aσ ah, StRel X.K X.mg ρ ex ws aσ ah σ H ∧ Post (evT Φ t aσ ah) (KoB X ρ ex H Q) (ExC X E ρ ex H)
def tO (X : Cx) (E : XK) (Φ : CallA) (o : Option Exp) : TO := fun σ H Q => ∃ ρ ex ws aσ ah, StRel X.K X.mg ρ ex ws aσ ah σ H ∧ Post (evO Φ o aσ ah) (KoB X ρ ex H Q) (ExC X E ρ ex H)
def tF (X : Cx) (E : XK) (Φ : CallA) (ts : List Tst) : TT := fun σ H Q => ∃ ρ ex ws aσ ah, StRel X.K X.mg ρ ex ws aσ ah σ H ∧ Post (evF Φ ts aσ ah) (KoB X ρ ex H Q) (ExC X E ρ ex H)

section
variable {X : Cx} {E : XK} {Φ : CallA} {ρ : List Addr} {ex : Addr → Prop} {H : Hp} {ws : List (Option Addr)} {aσ : ASt} {ah ah' : AH} {σ : L2.St} {pos : Pos} {a b c : Expr} {a' b' c' : Exp} {es : List Expr} {es' : List Exp}
theorem KokW.of {Q : VK} {v : AV} (h : KokW X ρ ex H Q v ah') : Kok X ρ ex H Q v ah' := fun ρ' H' v' e hp r => h ρ' H' v' e hp (.inl r)
theorem StRel.slotAt (S : StRel X.K X.mg ρ ex ws aσ ah σ H) {i : Nat} {s : Sv} (e : aσ[i]? = some s) : ∃ v w, σ[i]? = some v ∧ ws[i]? = some w ∧ SlotRel X.K X.mg ρ ex H w v s := by
  have hi : i < aσ.length := (List.getElem?_eq_some_iff.mp e).1
  have h1 : i < σ.length := by rw [← S.len]; exact hi
  have h2 : i < ws.length := by rw [S.wlen]; exact h1
  exact ⟨_, _, List.getElem?_eq_getElem h1, List.getElem?_eq_getElem h2, S.slot i s _ _ e (List.getElem?_eq_getElem h1) (List.getElem?_eq_getElem h2)⟩

theorem snd_c {e : Expr} {v : AV} {v' : V} (h : PE X e (tC v')) (r : ∀ ρ ex H, Rep X.K X.mg ρ ex H v v') : PE X e (tE X E Φ (.c v)) := by
  refine ⟨fun pins s σ H Q I hq => h.run pins s σ H Q I ?_⟩
  obtain ⟨ρ, ex, ws, aσ, ah, S, P⟩ := hq
  exact (show Kok X ρ ex H Q v ah from P).here S.hp (r _ _ _)
theorem snd_var {i : Nat} {x : Str} (hN : X.N[i]? = some x) (hv : Vis X.env.scope x) (hd : (x == ("__debug__" : Str)) = false) (hcd : (x == ("__classdict__" : Str)) = false) : PE X (.Name x pos) (tE X E Φ (.var i)) := by
  refine ⟨fun pins s σ H Q I hq => (pe_var hN hv hd hcd).run pins s σ H Q I ?_⟩
  obtain ⟨ρ, ex, ws, aσ, ah, S, P⟩ := hq
  simp only [evE] at P
  split at P
  · rename_i v e
    obtain ⟨v', w, h1, _, u, e2, r⟩ := S.slotAt e
    exact ⟨u, by rw [h1, e2], (show Kok X ρ ex H Q v ah from P).here S.hp r⟩
  · exact P.elim
theorem snd_peek_var {i : Nat} {x : Str} (hN : X.N[i]? = some x) (hv : Vis X.env.scope x) (hd : (x == ("__debug__" : Str)) = false) (hcd : (x == ("__classdict__" : Str)) = false) : PE X (.Name x pos) (tP X E Φ (.var i)) := by
  refine ⟨fun pins s σ H Q I hq => (pe_var hN hv hd hcd).run pins s σ H Q I ?_⟩
  obtain ⟨ρ, ex, ws, aσ, ah, S, P⟩ := hq
  simp only [peek, evE] at P
  split at P
  · rename_i xs e
    obtain ⟨v', w, h1, h2, p, vs, e2, e3, e4, r⟩ := S.slotAt e
    exact ⟨.ref p, by rw [h1, e2], P ρ H _ .refl S.hp (.inr ⟨xs, p, vs, rfl, rfl, e4, fun m => S.hp.out p m (S.own i p (by rw [h2, e3])), r⟩)⟩
  · split at P
    · rename_i v e
      obtain ⟨v', w, h1, _, u, e2, r⟩ := S.slotAt e
      exact ⟨u, by rw [h1, e2], P ρ H _ .refl S.hp (.inl r)⟩
    · exact P.elim
/-- what is no name is looked into as it is -/
theorem snd_peek {e : Expr} {e' : Exp} (h : PE X e (tE X E Φ e')) (hn : ∀ i, e' ≠ .var i) : PE X e (tP X E Φ e') := by
  refine ⟨fun pins s σ H Q I hq => h.run pins s σ H Q I ?_⟩
  obtain ⟨ρ, ex, ws, aσ, ah, S, P⟩ := hq
  refine ⟨ρ, ex, ws, aσ, ah, S, ?_⟩
  have e : peek e' aσ ah (evE Φ e' aσ ah) = evE Φ e' aσ ah := by
    cases e' <;> first | rfl | exact absurd rfl (hn _)
  rw [e] at P
  exact P.imp (fun v h k => k.of) (fun _ _ k => k)

theorem snd_bin {o : BOp} (ha : PE X a (tE X E Φ a')) (hb : PE X b (tE X E Φ b')) : PE X (.BinOp a (pyB o) b pos) (tE X E Φ (.bin o a' b')) := by
  refine ⟨fun pins s σ H Q I hq => (pe_op (op_B X o) ha hb).run pins s σ H Q I ?_⟩
  obtain ⟨ρ, ex, ws, aσ, ah, S, P⟩ := hq
  simp only [evE, Post.bind] at P
  refine ⟨ρ, ex, ws, aσ, ah, S, P.imp (fun x h1 P ρ1 H1 v1 a1 hp1 r1 => ?_) (fun _ _ k => k)⟩
  refine ⟨ρ1, ex, ws, aσ, h1, S.ext a1 hp1, P.imp (fun y h2 P ρ2 H2 v2 a2 hp2 r2 => ?_) (fun _ _ k => k.ext a1)⟩
  refine ⟨ρ2, ex, h2, x, y, hp2, r1.step a2.step, r2, ?_⟩
  have : ∀ {r : Rs AV}, r = opB o x y h2 → Post r (Kok X ρ ex H Q) (ExC X E ρ ex H) → Post r (Kok X ρ2 ex H2 Q) noX := fun {r} er P => by
    cases r with
    | ok v h => exact Kok.ext P (a1.trans a2)
    | ex z h =>
      exfalso
      unfold opB at er
      split at er <;> first | cases er | (split at er <;> cases er)
    | no => exact P
  exact this rfl P
theorem snd_neg (ha : PE X a (tE X E Φ a')) : PE X (.UnaryOp .USub a pos) (tE X E Φ (.neg a')) := by
  refine ⟨fun pins s σ H Q I hq => (pe_un un_neg ha).run pins s σ H Q I ?_⟩
  obtain ⟨ρ, ex, ws, aσ, ah, S, P⟩ := hq
  simp only [evE, Post.bind] at P
  refine ⟨ρ, ex, ws, aσ, ah, S, P.imp (fun x h1 P ρ1 H1 v1 a1 hp1 r1 => ?_) (fun _ _ k => k)⟩
  cases x <;> simp only at P <;> try exact P.elim
  cases r1
  exact ⟨_, rfl, ((show Kok X ρ ex H Q _ h1 from P).ext a1).here hp1 (.int _)⟩
theorem snd_not (ha : PE X a (tE X E Φ a')) : PE X (.UnaryOp .Not a pos) (tE X E Φ (.not a')) := by
  refine ⟨fun pins s σ H Q I hq => (pe_not ha).run pins s σ H Q I ?_⟩
  obtain ⟨ρ, ex, ws, aσ, ah, S, P⟩ := hq
  simp only [evE, Post.bind] at P
  refine ⟨ρ, ex, ws, aσ, ah, S, P.imp (fun x h1 P ρ1 H1 v1 a1 hp1 r1 => ?_) (fun _ _ k => k)⟩
  cases x <;> simp only at P <;> try exact P.elim
  cases r1
  exact ⟨_, rfl, ((show Kok X ρ ex H Q _ h1 from P).ext a1).here hp1 (.bl _)⟩
theorem snd_and1 {op : BoolOp} (ha : PE X a (tE X E Φ a')) : PE X (.BoolOp op [a] pos) (tE X E Φ a') := pe_one ha
theorem snd_and {rest : List Expr} (ha : PE X a (tE X E Φ a')) (hb : PE X (.BoolOp .And (b :: rest) pos) (tE X E Φ b')) : PE X (.BoolOp .And (a :: b :: rest) pos) (tE X E Φ (.and a' b')) := by
  refine ⟨fun pins s σ H Q I hq => (pe_and ha hb).run pins s σ H Q I ?_⟩
  obtain ⟨ρ, ex, ws, aσ, ah, S, P⟩ := hq
  simp only [evE, Post.bind] at P
  refine ⟨ρ, ex, ws, aσ, ah, S, P.imp (fun x h1 P ρ1 H1 v1 a1 hp1 r1 => ?_) (fun _ _ k => k)⟩
  cases x <;> (try simp only at P) <;> (try exact P.elim)
  rename_i k
  cases r1
  refine ⟨k, rfl, ?_⟩
  cases k with
  | true =>
    rw [if_pos rfl]
    exact ⟨ρ1, ex, ws, aσ, h1, S.ext a1 hp1, P.imp (fun _ _ k => k.ext a1) (fun _ _ k => k.ext a1)⟩
  | false =>
    rw [if_neg (by decide)]
    exact ((show Kok X ρ ex H Q _ h1 from P).ext a1).here hp1 (.bl _)
theorem snd_or {rest : List Expr} (ha : PE X a (tE X E Φ a')) (hb : PE X (.BoolOp .Or (b :: rest) pos) (tE X E Φ b')) : PE X (.BoolOp .Or (a :: b :: rest) pos) (tE X E Φ (.or a' b')) := by
  refine ⟨fun pins s σ H Q I hq => (pe_or ha hb).run pins s σ H Q I ?_⟩
  obtain ⟨ρ, ex, ws, aσ, ah, S, P⟩ := hq
  simp only [evE, Post.bind] at P
  refine ⟨ρ, ex, ws, aσ, ah, S, P.imp (fun x h1 P ρ1 H1 v1 a1 hp1 r1 => ?_) (fun _ _ k => k)⟩
  cases x <;> (try simp only at P) <;> (try exact P.elim)
  rename_i k
  cases r1
  refine ⟨k, rfl, ?_⟩
  cases k with
  | false =>
    rw [if_neg (by decide)]
    exact ⟨ρ1, ex, ws, aσ, h1, S.ext a1 hp1, P.imp (fun _ _ k => k.ext a1) (fun _ _ k => k.ext a1)⟩
  | true =>
    rw [if_pos rfl]
    exact ((show Kok X ρ ex H Q _ h1 from P).ext a1).here hp1 (.bl _)
theorem behind_nomark {o : COp} (b : Expr) (h : behindInMarks (pyC o) b = false) : behindInMarks (pyC o) b = false := h
/-- the reading of a comparison, shared -/
theorem cmp_read {o : COp} {σ : L2.St} {H : Hp} {Q : VK} (hq : tE X E Φ (.cmp o a' b') σ H Q) : tOp (rC X o) (tP X E Φ a') (tP X E Φ b') σ H Q := by
  obtain ⟨ρ, ex, ws, aσ, ah, S, P⟩ := hq
  simp only [evE, Post.bind] at P
  refine ⟨ρ, ex, ws, aσ, ah, S, P.imp (fun x h1 P ρ1 H1 v1 a1 hp1 r1 => ?_) (fun _ _ k => k)⟩
  refine ⟨ρ1, ex, ws, aσ, h1, S.ext a1 hp1, P.imp (fun y h2 P ρ2 H2 v2 a2 hp2 r2 => ?_) (fun _ _ k => k.ext a1)⟩
  obtain ⟨v, e, P⟩ := P.lift
  obtain ⟨k, e, rfl⟩ := Option.map_eq_some_iff.mp e
  exact ⟨ρ2, ex, h2, x, y, k, hp2, r1.step a2, r2, by assumption, (P.ext (a1.trans a2)).here hp2 (.bl _)⟩
theorem snd_cmp {o : COp} (hk : Ok X) (ha : PE X a (tP X E Φ a')) (hb : PE X b (tP X E Φ b')) (hm : behindInMarks (pyC o) b = false) : PE X (.Compare a [pyC o] [b] pos) (tE X E Φ (.cmp o a' b')) :=
  ⟨fun pins s σ H Q I hq => (pe_cmpR (op_C X o hk.un) ha hb hm).run pins s σ H Q I (cmp_read hq)⟩
theorem snd_ife {t : Expr} {t' : Tst} (ht : PT X t (tT X E Φ t')) (ha : PE X a (tE X E Φ a')) (hb : PE X b (tE X E Φ b')) : PE X (.IfExp t a b pos) (tE X E Φ (.ife t' a' b')) := by
  refine ⟨fun pins s σ H Q I hq => (pe_ifExp ht ha hb).run pins s σ H Q I ?_⟩
  obtain ⟨ρ, ex, ws, aσ, ah, S, P⟩ := hq
  simp only [evE, Post.bind] at P
  refine ⟨ρ, ex, ws, aσ, ah, S, P.imp (fun k h1 P ρ1 H1 a1 hp1 => ?_) (fun _ _ k => k)⟩
  cases k with
  | true => rw [if_pos rfl]; exact ⟨ρ1, ex, ws, aσ, h1, S.ext a1 hp1, P.imp (fun _ _ k => k.ext a1) (fun _ _ k => k.ext a1)⟩
  | false => rw [if_neg (by decide)]; exact ⟨ρ1, ex, ws, aσ, h1, S.ext a1 hp1, P.imp (fun _ _ k => k.ext a1) (fun _ _ k => k.ext a1)⟩

/-! ### lists of expressions -/
theorem snd_nil : PA X [] (tEs X E Φ []) := by
  refine ⟨fun pos pins s σ H Q I hq => pa_nil.run pos pins s σ H Q I ?_⟩
  obtain ⟨ρ, ex, ws, aσ, ah, S, P⟩ := hq
  exact (show KoAs X ρ ex H Q [] ah from P) ρ H [] .refl S.hp .nil
theorem snd_cons (ha : PE X a (tE X E Φ a')) (hs : PA X es (tEs X E Φ es')) (hst : starEach (a :: es) X.env = (false, eval a X.env) :: starEach es X.env) : PA X (a :: es) (tEs X E Φ (a' :: es')) := by
  refine ⟨fun pos pins s σ H Q I hq => (pa_cons ha hs hst).run pos pins s σ H Q I ?_⟩
  obtain ⟨ρ, ex, ws, aσ, ah, S, P⟩ := hq
  simp only [evEs, Post.bind] at P
  refine ⟨ρ, ex, ws, aσ, ah, S, P.imp (fun x h1 P ρ1 H1 v1 a1 hp1 r1 => ?_) (fun _ _ k => k)⟩
  refine ⟨ρ1, ex, ws, aσ, h1, S.ext a1 hp1, P.imp (fun ys h2 P ρ2 H2 v2 a2 hp2 r2 => ?_) (fun _ _ k => k.ext a1)⟩
  exact (show KoAs X ρ ex H Q (x :: ys) h2 from P) ρ2 H2 _ (a1.trans a2) hp2 (.cons (r1.step a2.step) r2)
theorem snd_pnil : PA X [] (tPs X E Φ []) := by
  refine ⟨fun pos pins s σ H Q I hq => pa_nil.run pos pins s σ H Q I ?_⟩
  obtain ⟨ρ, ex, ws, aσ, ah, S, P⟩ := hq
  exact (show KoWs X ρ ex H Q [] ah from P) ρ H [] .refl S.hp .nil
theorem snd_pcons (ha : PE X a (tP X E Φ a')) (hs : PA X es (tPs X E Φ es')) (hst : starEach (a :: es) X.env = (false, eval a X.env) :: starEach es X.env) : PA X (a :: es) (tPs X E Φ (a' :: es')) := by
  refine ⟨fun pos pins s σ H Q I hq => (pa_cons ha hs hst).run pos pins s σ H Q I ?_⟩
  obtain ⟨ρ, ex, ws, aσ, ah, S, P⟩ := hq
  simp only [evPs, Post.bind] at P
  refine ⟨ρ, ex, ws, aσ, ah, S, P.imp (fun x h1 P ρ1 H1 v1 a1 hp1 r1 => ?_) (fun _ _ k => k)⟩
  refine ⟨ρ1, ex, ws, aσ, h1, S.ext a1 hp1, P.imp (fun ys h2 P ρ2 H2 v2 a2 hp2 r2 => ?_) (fun _ _ k => k.ext a1)⟩
  exact (show KoWs X ρ ex H Q (x :: ys) h2 from P) ρ2 H2 _ (a1.trans a2) hp2 (.cons (r1.step a2) r2)
theorem snd_tup {k : Nat} (h : PA X es (tEs X E Φ es')) : PE X (.Tuple es k pos) (tE X E Φ (.tup es')) := by
  refine ⟨fun pins s σ H Q I hq => (pe_tup h).run pins s σ H Q I ?_⟩
  obtain ⟨ρ, ex, ws, aσ, ah, S, P⟩ := hq
  simp only [evE, Post.bind] at P
  refine ⟨ρ, ex, ws, aσ, ah, S, P.imp (fun xs h1 P ρ1 H1 vs a1 hp1 r1 => ?_) (fun _ _ k => k)⟩
  obtain ⟨c, P⟩ := P.ite
  exact ⟨by rw [← r1.length]; exact c, fun p np => ((show Kok X ρ ex H Q (.tup xs) h1 from P).ext a1).tup hp1 r1 p np⟩

/-! ### subscripts, slices -/
theorem snd_sub (ha : PE X a (tP X E Φ a')) (hb : PE X b (tE X E Φ b')) (hs : PlainIx b) : PE X (.Subscript a b pos) (tE X E Φ (.sub a' b')) := by
  refine ⟨fun pins s σ H Q I hq => (pe_ix (op_Sub X) ha hb hs).run pins s σ H Q I ?_⟩
  obtain ⟨ρ, ex, ws, aσ, ah, S, P⟩ := hq
  simp only [evE, Post.bind] at P
  refine ⟨ρ, ex, ws, aσ, ah, S, P.imp (fun x h1 P ρ1 H1 v1 a1 hp1 r1 => ?_) (fun _ _ k => k)⟩
  refine ⟨ρ1, ex, ws, aσ, h1, S.ext a1 hp1, P.imp (fun y h2 P ρ2 H2 v2 a2 hp2 r2 => ?_) (fun _ _ k => k.ext a1)⟩
  obtain ⟨v, e, P⟩ := P.lift
  exact ⟨ρ2, ex, h2, x, y, v, hp2, r1.step a2, r2, e, fun v' r => (P.ext (a1.trans a2)).here hp2 r⟩
theorem snd_none : PO X none (tO X E Φ none) := by
  refine ⟨fun pins s σ H Q I hq => po_none.run pins s σ H Q I ?_⟩
  obtain ⟨ρ, ex, ws, aσ, ah, S, P⟩ := hq
  exact (show KoB X ρ ex H Q none ah from P) ρ H .refl S.hp
theorem snd_some (ha : PE X a (tE X E Φ a')) : PO X (some a) (tO X E Φ (some a')) := by
  refine ⟨fun pins s σ H Q I hq => (po_some ha).run pins s σ H Q I ?_⟩
  obtain ⟨ρ, ex, ws, aσ, ah, S, P⟩ := hq
  simp only [evO, Post.bind] at P
  refine ⟨ρ, ex, ws, aσ, ah, S, P.imp (fun x h1 P ρ1 H1 v1 a1 hp1 r1 => ?_) (fun _ _ k => k)⟩
  cases x <;> simp only at P <;> try exact P.elim
  cases r1
  exact ⟨_, rfl, (show KoB X ρ ex H Q (some _) h1 from P) ρ1 H1 a1 hp1⟩
theorem snd_slice {lo hi : Option Expr} {lo' hi' : Option Exp} {p2 : Pos} (ha : PE X a (tP X E Φ a')) (hl : PO X lo (tO X E Φ lo')) (hh : PO X hi (tO X E Φ hi')) : PE X (.Subscript a (.Slice lo hi none p2) pos) (tE X E Φ (.slice a' lo' hi')) := by
  refine ⟨fun pins s σ H Q I hq => (pe_slice (op_Sl X) ha hl hh).run pins s σ H Q I ?_⟩
  obtain ⟨ρ, ex, ws, aσ, ah, S, P⟩ := hq
  simp only [evE, Post.bind] at P
  refine ⟨ρ, ex, ws, aσ, ah, S, P.imp (fun x h1 P ρ1 H1 v1 a1 hp1 r1 => ?_) (fun _ _ k => k)⟩
  refine ⟨ρ1, ex, ws, aσ, h1, S.ext a1 hp1, P.imp (fun l h2 P ρ2 H2 a2 hp2 => ?_) (fun _ _ k => k.ext a1)⟩
  refine ⟨ρ2, ex, ws, aσ, h2, (S.ext a1 hp1).ext a2 hp2, P.imp (fun u h3 P ρ3 H3 a3 hp3 => ?_) (fun _ _ k => k.ext (a1.trans a2))⟩
  obtain ⟨v, e, P⟩ := P.lift
  exact ⟨ρ3, ex, h3, x, v, hp3, (r1.step a2).step a3, e, P.ext ((a1.trans a2).trans a3)⟩
/-- a[::-1] -/
theorem snd_rev {k : Nat} {p1 p2 p3 : Pos} (ha : PE X a (tP X E Φ a')) : PE X (.Subscript a (.Slice none none (some (.UnaryOp .USub (.Constant (.int 1) k p1) p2)) p3) pos) (tE X E Φ (.rev a')) := by
  refine ⟨fun pins s σ H Q I hq => ?_⟩
  have hr : tP X E Φ a' σ H fun x H1 => ∃ ρ ex ah v, HRel X.K X.mg ρ ex ah H1 ∧ RepW X.K X.mg ρ ex H1 v x ∧ Post (match v with | .tup xs => Rs.ok (AV.tup xs.reverse) ah | .lst xs => .ok (.lst xs.reverse) ah | _ => .no) (Kok X ρ ex H1 Q) noX := by
    obtain ⟨ρ, ex, ws, aσ, ah, S, P⟩ := hq
    simp only [evE, Post.bind] at P
    refine ⟨ρ, ex, ws, aσ, ah, S, P.imp (fun x h1 P ρ1 H1 v1 a1 hp1 r1 => ?_) (fun _ _ k => k)⟩
    refine ⟨ρ1, ex, h1, x, hp1, r1, ?_⟩
    cases x <;> simp only at P ⊢ <;> first | exact P.elim | exact Kok.ext P a1
  refine Subscript_ (thn (ha.run pins s σ H _ I hr) fun v s1 ⟨x, H1, I1, r1, q1⟩ => ?_)
  obtain ⟨ρ, ex, ah, av, hp, ra, P⟩ := q1
  have hst : PO X (some (.UnaryOp .USub (.Constant (.int 1) k p1) p2)) (tPart (tUn (rU fun i => .int (-i)) (tC (.int 1)))) := po_some (pe_un un_neg pe_int)
  refine wpAny_Slice (thn (po_none.run pins s1 σ H1 (fun o H2 => o = none ∧ H2 = H1) I1 ⟨rfl, rfl⟩) fun vl s2 ⟨l, H2, I2, pl, el, e2⟩ => ?_)
  subst el e2
  refine thn (po_none.run pins s2 σ H2 (fun o H3 => o = none ∧ H3 = H2) I2 ⟨rfl, rfl⟩) fun vu s3 ⟨u, H3, I3, pu, eu, e3⟩ => ?_
  subst eu e3
  refine thn (hst.run pins s3 σ H3 (fun o H4 => o = some (-1) ∧ H4 = H3) I3 ⟨1, rfl, -1, rfl, rfl, rfl⟩) fun vs s4 ⟨o, H4, I4, ps, eo, e4⟩ => ?_
  subst eo e4
  have I5 : Inv X pins σ H4 { s4 with heap := s4.heap.push { cls := .type "slice", data := .fields #[vl, vu, vs] } } := I4.kept (t' := s4.toks) fun b ob q => Heap.get?_push_of_some _ q
  cases av <;> simp only at P <;> try exact P.elim
  case tup xs =>
    cases ra.rep (fun _ q => by cases q) with
    | @tup p _ ws sq rs =>
      cases r1
      obtain ⟨its, r, ht, hz⟩ := I5.tuple sq
      have hlen := r.length
      show wpAny (model X.prog X.w) X.A (subscriptTail a (.Slice none none (some (.UnaryOp .USub (.Constant (.int 1) k p1) p2)) p3) (.ref p) (.ref s4.heap.objs.size)) (EP X pins σ Q) X.xe { s4 with heap := s4.heap.push { cls := .type "slice", data := .fields #[vl, vu, vs] } }
      refine tail_any (ops := [.ref p, .ref s4.heap.objs.size]) ht.typeIs (PyProof.Rows.slot_tuple_getitem.lookup) ?_ (by with_unfolding_all rfl)
      refine HTx.getItem_tuple_rev ht (Heap.IsSliceOf.new _ vl vu vs) pl pu ps ?_ (by omega)
      refine ⟨.ref _, _, I5.laid (t' := s4.toks) (o := .tup ws.reverse) (fun b ob q => Heap.get?_push_of_some _ q) (Nat.le_refl _) ?_, rfl, Kok.tup P hp rs.reverse _ (I5.hok.fresh (Nat.le_refl _))⟩
      exact ⟨by rw [List.length_reverse]; exact hz, _, r.reverse, IsTup.new _ _⟩
  case lst xs =>
    obtain ⟨p, ws, rfl, e2, _, rs⟩ := ra.lst
    cases r1
    obtain ⟨its, r, ht, hz⟩ := I5.list (.of e2)
    have hlen := r.length
    show wpAny (model X.prog X.w) X.A (subscriptTail a (.Slice none none (some (.UnaryOp .USub (.Constant (.int 1) k p1) p2)) p3) (.ref p) (.ref s4.heap.objs.size)) (EP X pins σ Q) X.xe { s4 with heap := s4.heap.push { cls := .type "slice", data := .fields #[vl, vu, vs] } }
    refine tail_any (ops := [.ref p, .ref s4.heap.objs.size]) ht.isList.typeIs (PySem.slot_list_getitem.lookup) ?_ (by with_unfolding_all rfl)
    refine wpAny_getItem_list_slice ht.isList (Heap.IsSliceOf.new _ vl vu vs) pl pu ps (by decide) ?_ (by rw [List.size_toArray]; omega)
    rw [PySem.W.krv_pick]
    refine ⟨.ref _, _, I5.laid (t' := s4.toks) (o := .lst ws.reverse) (fun b ob q => Heap.get?_push_of_some _ q) (Nat.le_refl _) ?_, rfl, Kok.lst P hp rs.reverse _ (I5.hok.fresh (Nat.le_refl _))⟩
    exact ⟨by rw [List.length_reverse]; exact hz, _, 0, r.reverse, Heap.get?_push_size _ rfl⟩
end
end G

set_option Elab.async false
set_option linter.all false
set_option maxRecDepth 100000
set_option maxHeartbeats 4000000
/-! GG: targets, iterations, comprehensions. -/
namespace G
open PySem PySem.Spec PyProof.Rows L2
def exP (ex : Addr → Prop) (p : Addr) : Addr → Prop := fun b => ex b ∨ b = p

section
variable {K : PySem.W.Frag} {mg : Str → Option Value} {ρ ρ' : List Addr} {ex ex' : Addr → Prop} {H H' : Hp} {ah ah' : AH} {ws : List (Option Addr)} {aσ : ASt} {σ : L2.St}
theorem Ext.stp (a : Ext ρ H ρ' H') (h : ∀ b, H b ≠ none → ¬ ex b → ¬ ex' b) : Stp ρ ex H ρ' ex' H' :=
  ⟨fun b u e n x => ⟨a.keep b u e n, fun q => (by rw [a.new b q n] at e; cases e), h b (by rw [e]; simp) x⟩, a.fix, fun n b e => by
    obtain ⟨t, e'⟩ := a.pre
    rw [e', List.getElem?_append_left (List.getElem?_eq_some_iff.mp e).1]; exact e⟩
theorem SlotRel.stp (a : Ext ρ H ρ' H') (st : Stp ρ ex H ρ' ex' H') {w : Option Addr} {v : Option V} (hw : ∀ b, w = some b → b ∉ ρ) : ∀ {s : Sv}, SlotRel K mg ρ ex H w v s → SlotRel K mg ρ' ex' H' w v s
  | .un, _ => trivial
  | .vl _, ⟨u, e, r⟩ => ⟨u, e, r.step st⟩
  | .ol _, ⟨b, vs, e1, e2, e3, r⟩ => ⟨b, vs, e1, e2, a.keep b _ e3 (hw b e2), r.step st⟩
theorem StRel.stp (h : StRel K mg ρ ex ws aσ ah σ H) (a : Ext ρ H ρ' H') (st : Stp ρ ex H ρ' ex' H') (hex : ∀ b, ex b → ex' b) (hp : HRel K mg ρ' ex' ah' H') : StRel K mg ρ' ex' ws aσ ah' σ H' :=
  ⟨hp, h.len, h.wlen, fun i s v w e1 e2 e3 => (h.slot i s v w e1 e2 e3).stp a st (fun b eb n => by subst eb; exact h.hp.out b n (h.own i b e3)), fun i a e => hex a (h.own i a e), h.inj⟩
/-- a slot is set to a value -/
theorem StRel.set (h : StRel K mg ρ ex ws aσ ah σ H) {i : Nat} {x : AV} {v : V} (r : Rep K mg ρ ex H x v) : StRel K mg ρ ex ws (aσ.set i (.vl x)) ah (σ.set i (some v)) H :=
  ⟨h.hp, by simp [h.len], by simp [h.wlen], fun j s u w e1 e2 e3 => by
    by_cases hj : i = j
    · subst hj
      have h1 : i < aσ.length := by have := (List.getElem?_eq_some_iff.mp e1).1; simpa using this
      have h2 : i < σ.length := by rw [← h.len]; exact h1
      rw [List.getElem?_set_self h1] at e1
      rw [List.getElem?_set_self h2] at e2
      cases e1; cases e2
      exact ⟨v, rfl, r⟩
    · rw [List.getElem?_set_ne hj] at e1 e2
      exact h.slot j s u w e1 e2 e3, h.own, h.inj⟩
theorem wipeA_length (aσ : ASt) : ∀ vs : List Nat, (wipeA aσ vs).length = aσ.length
  | [] => rfl
  | v :: vs => by unfold wipeA; rw [List.length_set, wipeA_length aσ vs]
theorem wipeA_in {aσ : ASt} {i : Nat} {s : Sv} : ∀ {vs : List Nat}, i ∈ vs → (wipeA aσ vs)[i]? = some s → s = .un
  | v :: vs, hm, h => by
    unfold wipeA at h
    by_cases hi : v = i
    · subst hi
      by_cases hv : v < (wipeA aσ vs).length
      · rw [List.getElem?_set_self hv] at h; cases h; rfl
      · rw [List.getElem?_eq_none (by simpa using hv)] at h; cases h
    · rw [List.getElem?_set_ne hi] at h
      refine wipeA_in (vs := vs) ?_ h
      rcases List.mem_cons.mp hm with e | e
      · exact absurd e.symm hi
      · exact e
theorem wipeA_out {aσ : ASt} {i : Nat} : ∀ {vs : List Nat}, i ∉ vs → (wipeA aσ vs)[i]? = aσ[i]?
  | [], _ => rfl
  | v :: vs, h => by
    have h1 : v ≠ i := fun e => h (by rw [e]; exact List.mem_cons_self)
    have h2 : i ∉ vs := fun m => h (List.mem_cons_of_mem _ m)
    unfold wipeA
    rw [List.getElem?_set_ne h1]
    exact wipeA_out h2
theorem StRel.wipe (h : StRel K mg ρ ex ws aσ ah σ H) (vs : List Nat) : StRel K mg ρ ex ws (wipeA aσ vs) ah (L2.wipe σ vs) H :=
  ⟨h.hp, by rw [wipeA_length, wipe_length, h.len], by rw [wipe_length, h.wlen], fun j s u w e1 e2 e3 => by
    by_cases hj : j ∈ vs
    · rw [wipeA_in hj e1]; trivial
    · rw [wipeA_out hj] at e1
      rw [wipe_out hj] at e2
      exact h.slot j s u w e1 e2 e3, h.own, h.inj⟩
theorem wipe_set {σ : L2.St} {i : Nat} {v : Option V} : ∀ {vs : List Nat}, i ∈ vs → L2.wipe (σ.set i v) vs = L2.wipe σ vs
  | w :: vs, hm => by
    unfold L2.wipe
    by_cases hi : i ∈ vs
    · rw [wipe_set hi]
    · have e : w = i := by
        rcases List.mem_cons.mp hm with e | e
        · exact e.symm
        · exact absurd e hi
      subst e
      have : ∀ us : List Nat, w ∉ us → L2.wipe (σ.set w v) us = (L2.wipe σ us).set w v := by
        intro us hu
        induction us with
        | nil => rfl
        | cons u us ih =>
          unfold L2.wipe
          rw [ih (fun m => hu (List.mem_cons_of_mem _ m)), List.set_comm _ _ (fun e => hu (by rw [e]; exact List.mem_cons_self))]
      rw [this vs hi, List.set_set]
end

/-! ### targets -/
def gT (X : Cx) (t : Tgt) : TG := fun v σ H Q => ∃ ρ ex ws aσ ah x aσ', StRel X.K X.mg ρ ex ws aσ ah σ H ∧ Rep X.K X.mg ρ ex H x v ∧ asgT t x aσ = some aσ' ∧
  ∀ σ', StRel X.K X.mg ρ ex ws aσ' ah σ' H → (∀ vs : List Nat, (∀ i ∈ tgSlots t, i ∈ vs) → L2.wipe σ' vs = L2.wipe σ vs) → Q σ' H
def gTs (X : Cx) (ts : List Tgt) : TGs := fun vs σ H Q => ∃ ρ ex ws aσ ah xs aσ', StRel X.K X.mg ρ ex ws aσ ah σ H ∧ Reps X.K X.mg ρ ex H xs vs ∧ asgTs ts xs aσ = some aσ' ∧
  ∀ σ', StRel X.K X.mg ρ ex ws aσ' ah σ' H → (∀ vs : List Nat, (∀ i ∈ tgsSlots ts, i ∈ vs) → L2.wipe σ' vs = L2.wipe σ vs) → Q σ' H
section
variable {X : Cx} {pos : Pos}
theorem sg_nm {i : Nat} {x : Str} (hN : X.N.Nodup) (hi : X.N[i]? = some x) (hx : Loc X.env.scope x) (hf : X.fn x = true ∨ X.env.scope.names.lookup x = some .local) : PG X (.Name x pos) (gT X (.nm i)) := by
  refine ⟨fun pins s σ H v u Q I r h => (pg_name hN hi hx hf).run pins s σ H v u Q I r ?_⟩
  obtain ⟨ρ, ex, ws, aσ, ah, y, aσ', S, ry, e, q⟩ := h
  simp only [asgT] at e
  split at e
  · cases e
    exact q _ (S.set ry) fun vs hv => wipe_set (hv i (by simp [tgSlots]))
  · cases e
def noStar : Expr → Bool
  | .Starred _ _ => false
  | _ => true
theorem assignEach_cons {e : Expr} {es : List Expr} {env : Env} (h : noStar e = true) : assignEach (e :: es) env = (false, assign e env) :: assignEach es env := by
  cases e <;> first | rfl | cases h
theorem assignEach_map {env : Env} : ∀ {es : List Expr}, es.all noStar = true → assignEach es env = es.map fun e => (false, assign e env)
  | [], _ => rfl
  | e :: es, h => by
    rw [List.all_cons, Bool.and_eq_true] at h
    rw [assignEach_cons h.1, assignEach_map h.2]; rfl
theorem sg_nil : PGs X [] (gTs X []) := by
  refine ⟨fun pins s σ H vs us Q I r h => ?_⟩
  obtain ⟨ρ, ex, ws, aσ, ah, xs, aσ', S, rs, e, q⟩ := h
  cases rs with
  | nil =>
    simp only [asgTs, Option.some.injEq] at e
    subst e
    exact pgs_nil.run pins s σ H [] us Q I r ⟨rfl, q σ S fun _ _ => rfl⟩
  | cons _ _ => simp [asgTs] at e
theorem sg_cons {e : Expr} {es : List Expr} {t : Tgt} {ts : List Tgt} (h1 : PG X e (gT X t)) (h2 : PGs X es (gTs X ts)) (hs : noStar e = true) : PGs X (e :: es) (gTs X (t :: ts)) := by
  refine ⟨fun pins s σ H vs us Q I r h => (pgs_cons h1 h2 (by rw [assignEach_cons hs]; rfl)).run pins s σ H vs us Q I r ?_⟩
  obtain ⟨ρ, ex, ws, aσ, ah, xs, aσ', S, rs, e, q⟩ := h
  cases rs with
  | nil => simp [asgTs] at e
  | cons r1 rs =>
    simp only [asgTs, Option.bind_eq_some_iff] at e
    obtain ⟨aσ1, e1, e2⟩ := e
    refine ⟨_, _, rfl, ρ, ex, ws, aσ, ah, _, aσ1, S, r1, e1, fun σ1 S1 w1 => ⟨ρ, ex, ws, aσ1, ah, _, aσ', S1, rs, e2, fun σ2 S2 w2 => q σ2 S2 fun vs hv => ?_⟩⟩
    rw [w2 vs (fun i hi => hv i (by simp [tgsSlots, hi])), w1 vs (fun i hi => hv i (by simp [tgsSlots, hi]))]
theorem asgTs_length : ∀ {ts : List Tgt} {xs : List AV} {aσ aσ' : ASt}, asgTs ts xs aσ = some aσ' → ts.length = xs.length
  | [], [], _, _, _ => rfl
  | [], _ :: _, _, _, e => by simp [asgTs] at e
  | _ :: _, [], _, _, e => by simp [asgTs] at e
  | t :: ts, x :: xs, _, _, e => by
    simp only [asgTs, Option.bind_eq_some_iff] at e
    obtain ⟨_, _, e2⟩ := e
    simp [asgTs_length e2]
/-- (a, b, ..) = a tuple, a list of that length -/
def gSeq (K : PySem.W.Frag) (n : Nat) (t : TGs) : TG := fun v σ H Q => ∃ a xs, v = .ref a ∧ (SqT K H a xs ∨ SqL K H a xs) ∧ xs.length = n ∧ t xs σ H Q
theorem pg_seq {es : List Expr} {k : Nat} {t : TGs} {n : Nat} (hc : X.calm = true) (h : PGs X es t)
    (hn : (assignEach es X.env).length = n) (hst : (assignEach es X.env).findIdx? (·.1) = none) : PG X (.Tuple es k pos) (gSeq X.K n t) := by
  refine ⟨fun pins s σ H v u Q I r hw => ?_⟩
  obtain ⟨a, xs, e1, hq, hl, hw⟩ := hw
  subst e1
  cases r
  rcases hq with hq | hq
  · exact (pg_tup hc h hn hst).run pins s σ H (.ref a) _ Q I rfl ⟨a, xs, rfl, hq, hl, hw⟩
  · obtain ⟨its, rv, ht, hz⟩ := I.list hq
    rw [assign_Tuple]
    refine wpAny_bind (wpAny_standAt ?_)
    unfold unpack
    have e0 : (assignEach es X.env).length = its.toArray.size := by simp [hn, ← hl, rv.length]
    rw [e0, hst]
    refine wpAny_bind (wpAny_holding (PySem.W.kun_itemsOf (I.ok.hd hc) ht.isList fun h' hx => ?_))
    have I1 : Inv X pins σ H { s with heap := h' } := I.kept (t' := s.toks) fun b o e => hx b o (Nat.ne_of_lt (Heap.lt_size e)) e
    exact h.run pins _ σ H xs _ Q I1 (by simpa using rv) hw
theorem sg_tp {es : List Expr} {ts : List Tgt} {k : Nat} (hc : X.calm = true) (h : PGs X es (gTs X ts)) (hs : es.all noStar = true) (hl : es.length = ts.length) : PG X (.Tuple es k pos) (gT X (.tp ts)) := by
  refine ⟨fun pins s σ H v u Q I r hq => (pg_seq (n := es.length) hc h (by rw [assignEach_map hs, List.length_map]) (by
    rw [assignEach_map hs]
    generalize es = l
    induction l with
    | nil => rfl
    | cons a l ih => rw [List.map_cons, List.findIdx?_cons]; simpa using ih)).run pins s σ H v u Q I r ?_⟩
  obtain ⟨ρ, ex, ws, aσ, ah, x, aσ', S, rx, e, q⟩ := hq
  cases x <;> simp only [asgT, reduceCtorEq] at e
  · cases rx with
    | tup sq rs => exact ⟨_, _, rfl, .inl sq, by rw [← rs.length, ← asgTs_length e, hl], ρ, ex, ws, aσ, ah, _, aσ', S, rs, e, fun σ' S' w' => q σ' S' fun vs hv => w' vs (fun i hi => hv i (by simpa [tgSlots] using hi))⟩
  · cases rx with
    | lst sq _ _ rs => exact ⟨_, _, rfl, .inr (.of sq), by rw [← rs.length, ← asgTs_length e, hl], ρ, ex, ws, aσ, ah, _, aσ', S, rs, e, fun σ' S' w' => q σ' S' fun vs hv => w' vs (fun i hi => hv i (by simpa [tgSlots] using hi))⟩
end

/-! ### what is walked -/
def Sta (pk : Bool) (ρ : List Addr) (ex : Addr → Prop) (H : Hp) (ρ' : List Addr) (ex' : Addr → Prop) (H' : Hp) : Prop := Stp ρ ex H ρ' ex' H' ∧ (pk = true → Ext ρ H ρ' H')
structure WalkA (K : PySem.W.Frag) (mg : Str → Option Value) (pk : Bool) (ρ : List Addr) (ex : Addr → Prop) (H : Hp) (xs : List AV) (J : It) (G : Hp → Prop) (Y : Nat → Hp → V → Hp → Prop) : Prop where
  w : Walk J xs.length G Y
  g : ∀ ρ' ex' H', Sta pk ρ ex H ρ' ex' H' → G H'
  y : ∀ i x ρ' ex' ah' H' v H'', xs[i]? = some x → Sta pk ρ ex H ρ' ex' H' → HRel K mg ρ' ex' ah' H' → Y i H' v H'' → Ext ρ' H' ρ' H'' ∧ HRel K mg ρ' ex' ah' H'' ∧ Rep K mg ρ' ex' H'' x v
def KoI (X : Cx) (pk : Bool) (ρ : List Addr) (ex : Addr → Prop) (H : Hp) (R : It → Hp → Prop) (xs : List AV) (ah' : AH) : Prop :=
  ∀ ρ' H' J G Y, Ext ρ H ρ' H' → HRel X.K X.mg ρ' ex ah' H' → WalkA X.K X.mg pk ρ' ex H' xs J G Y → R J H'
def tI (X : Cx) (E : XK) (Φ : CallA) (pk : Bool) (it : Itr) : TI := fun σ H R => ∃ ρ ex ws aσ ah, StRel X.K X.mg ρ ex ws aσ ah σ H ∧ Post (evI Φ it pk aσ ah) (KoI X pk ρ ex H R) (ExC X E ρ ex H)
def tK (X : Cx) (E : XK) (Φ : CallA) (pk : Bool) (e : Exp) : TE := fun σ H Q => ∃ ρ ex ws aσ ah, StRel X.K X.mg ρ ex ws aσ ah σ H ∧ Post (if pk then peek e aσ ah (evE Φ e aσ ah) else evE Φ e aσ ah) (fun v ah' => ∀ ρ' H' v', Ext ρ H ρ' H' → HRel X.K X.mg ρ' ex ah' H' → (pk = false → Rep X.K X.mg ρ' ex H' v v') → RepW X.K X.mg ρ' ex H' v v' → Q v' H') (ExC X E ρ ex H)
section
variable {X : Cx} {E : XK} {Φ : CallA} {pos : Pos} {a b e : Expr} {a' b' e' : Exp} {pk : Bool} {tg : Expr}
theorem snd_pk (h1 : PE X e (tE X E Φ e')) (h2 : PE X e (tP X E Φ e')) : PE X e (tK X E Φ pk e') := by
  cases pk with
  | false =>
    refine ⟨fun pins s σ H Q I hq => h1.run pins s σ H Q I ?_⟩
    obtain ⟨ρ, ex, ws, aσ, ah, S, P⟩ := hq
    refine ⟨ρ, ex, ws, aσ, ah, S, ?_⟩
    simp only [Bool.false_eq_true, if_false] at P
    exact P.imp (fun v h k ρ' H' v' a hp r => k ρ' H' v' a hp (fun _ => r) (.inl r)) (fun _ _ k => k)
  | true =>
    refine ⟨fun pins s σ H Q I hq => h2.run pins s σ H Q I ?_⟩
    obtain ⟨ρ, ex, ws, aσ, ah, S, P⟩ := hq
    refine ⟨ρ, ex, ws, aσ, ah, S, ?_⟩
    simp only [if_true] at P
    exact P.imp (fun v h k ρ' H' v' a hp r => k ρ' H' v' a hp (fun q => by cases q) r) (fun _ _ k => k)
theorem vitems_items {h : AH} {x : AV} {xs : List AV} (e : vitems x = some xs) : items h x = some xs := by
  cases x <;> first | exact e | cases e
/-- a sequence that is walked -/
theorem walk_seq {ρ : List Addr} {ex : Addr → Prop} {H : Hp} {ah : AH} {x : AV} {v : V} {xs : List AV} (hp : HRel X.K X.mg ρ ex ah H) (h1 : pk = false → Rep X.K X.mg ρ ex H x v) (h2 : RepW X.K X.mg ρ ex H x v) (e : vitems x = some xs) :
    ∃ a vs, v = .ref a ∧ xs.length = vs.length ∧ Reps X.K X.mg ρ ex H xs vs ∧ ((SqL X.K H a vs ∧ WalkA X.K X.mg pk ρ ex H xs (Itl X.K a) (fun H => SqL X.K H a vs) (YAt vs)) ∨ (SqT X.K H a vs ∧ WalkA X.K X.mg pk ρ ex H xs (Itt X.K a) (fun H => SqT X.K H a vs) (YAt vs))) := by
  have yy : ∀ {vs : List V} (rs : Reps X.K X.mg ρ ex H xs vs), ∀ i x ρ' ex' ah' H' v H'', xs[i]? = some x → Sta pk ρ ex H ρ' ex' H' → HRel X.K X.mg ρ' ex' ah' H' → YAt vs i H' v H'' → Ext ρ' H' ρ' H'' ∧ HRel X.K X.mg ρ' ex' ah' H'' ∧ Rep X.K X.mg ρ' ex' H'' x v := fun {vs} rs i x ρ' ex' ah' H' v H'' ex st hp' ⟨e1, e2⟩ => by
    subst e1
    obtain ⟨v', e3, r⟩ := rs.get ex
    rw [e3] at e2; cases e2
    exact ⟨.refl, hp', r.step st.1⟩
  cases x with
  | tup ys =>
    cases e
    cases h2.rep (fun _ q => by cases q) with
    | @tup a _ vs q rs => exact ⟨a, vs, rfl, rs.length, rs, .inr ⟨q, ⟨rs.length ▸ walk_tup, fun _ _ _ st => st.1.sqT q, yy rs⟩⟩⟩
  | lst ys =>
    cases e
    by_cases hr : Rep X.K X.mg ρ ex H (.lst xs) v
    · cases hr with
      | @lst a _ vs e1 n1 x1 rs => exact ⟨a, vs, rfl, rs.length, rs, .inl ⟨.of e1, ⟨rs.length ▸ walk_list, fun _ _ _ st => .of (st.1.val _ _ e1 n1 x1).1, yy rs⟩⟩⟩
    · cases pk with
      | false => exact absurd (h1 rfl) hr
      | true =>
        obtain ⟨a, vs, e1, e2, n, rs⟩ := h2.lst
        exact ⟨a, vs, e1, rs.length, rs, .inl ⟨.of e2, ⟨rs.length ▸ walk_list, fun _ _ _ st => .of ((st.2 rfl).keep _ _ e2 n), yy rs⟩⟩⟩
  | non => cases e
  | bl _ => cases e
  | int _ => cases e
  | str _ => cases e
  | dct _ _ => cases e
  | ref _ => cases e
  | fn _ => cases e
  | scr _ => cases e
theorem rangeA_length (a b : Int) : (rangeA a b).length = (b - a).toNat := by simp [rangeA]
theorem rangeA_get {a b : Int} {i : Nat} {x : AV} (e : (rangeA a b)[i]? = some x) : x = .int (a + (i : Int)) := by
  unfold rangeA at e
  rw [List.getElem?_map] at e
  obtain ⟨j, e1, e2⟩ := Option.map_eq_some_iff.mp e
  obtain ⟨h, e3⟩ := List.getElem?_eq_some_iff.mp e1
  simp at e3
  subst e3
  exact e2.symm
theorem walkA_range {K : PySem.W.Frag} {mg : Str → Option Value} {ρ : List Addr} {ex : Addr → Prop} {H : Hp} {lo hi : Int} : WalkA K mg pk ρ ex H (rangeA lo hi) (L2.Itr lo (hi - lo).toNat) (fun _ => True) (YFn fun i => .int (lo + i)) :=
  ⟨by rw [rangeA_length]; exact walk_range, fun _ _ _ _ => trivial, fun i x ρ' ex' ah' H' v H'' e st hp y => by
    obtain ⟨rfl, rfl⟩ := y
    rw [rangeA_get e]
    exact ⟨.refl, hp, .int _⟩⟩
theorem si_rg2 {p : Pos} (hg : Gl X "range") (hm : X.mg "range" = none) (ha : PE X a (tE X E Φ a')) (hb : PE X b (tE X E Φ b')) (hs : starEach [a, b] X.env = [(false, eval a X.env), (false, eval b X.env)]) (hs2 : starEach [b] X.env = [(false, eval b X.env)]) :
    PI X tg (.Call (.Name "range" p) [a, b] [] pos) (tI X E Φ pk (.rg a' b')) := by
  refine ⟨fun pins s σ H R I hq => (pi_range2 hg hm (snd_cons ha (snd_cons hb snd_nil (by rw [hs2]; rfl)) (by rw [hs, hs2])) hs hs2).run pins s σ H R I ?_⟩
  obtain ⟨ρ, ex, ws, aσ, ah, S, P⟩ := hq
  refine ⟨ρ, ex, ws, aσ, ah, S, ?_⟩
  simp only [evI, evEs, Post.bind] at P ⊢
  refine P.imp (fun x h1 P => P.imp (fun y h2 P => ?_) (fun _ _ k => k)) (fun _ _ k => k)
  cases x <;> (try simp only at P) <;> (try exact P.elim)
  cases y <;> (try simp only at P) <;> (try exact P.elim)
  obtain ⟨c, P⟩ := P.ite
  intro ρ1 H1 vs a1 hp1 r1
  cases r1 with
  | cons r1 r2 =>
    cases r2 with
    | cons r2 r3 =>
      cases r1; cases r2; cases r3
      exact ⟨_, _, rfl, c, (show KoI X pk ρ ex H R _ h2 from P) ρ1 H1 _ _ _ a1 hp1 walkA_range⟩
theorem si_rg1 {p : Pos} (hg : Gl X "range") (hm : X.mg "range" = none) (hb : PE X b (tE X E Φ b')) (hs2 : starEach [b] X.env = [(false, eval b X.env)]) :
    PI X tg (.Call (.Name "range" p) [b] [] pos) (tI X E Φ pk (.rg (.c (.int 0)) b')) := by
  refine ⟨fun pins s σ H R I hq => (pi_range1 hg hm (snd_cons hb snd_nil (by rw [hs2]; rfl)) hs2).run pins s σ H R I ?_⟩
  obtain ⟨ρ, ex, ws, aσ, ah, S, P⟩ := hq
  refine ⟨ρ, ex, ws, aσ, ah, S, ?_⟩
  simp only [evI, evE, evEs, Rs.bind_ok, Post.bind] at P ⊢
  refine P.imp (fun y h2 P => ?_) (fun _ _ k => k)
  cases y <;> (try simp only at P) <;> (try exact P.elim)
  rename_i j
  obtain ⟨c, P⟩ := P.ite
  intro ρ1 H1 vs a1 hp1 r1
  cases r1 with
  | cons r1 r2 =>
    cases r2
    cases r1
    have w := walkA_range (K := X.K) (mg := X.mg) (pk := pk) (ρ := ρ1) (ex := ex) (H := H1) (lo := 0) (hi := j)
    rw [Int.sub_zero] at w
    exact ⟨_, rfl, c.2.2.1, c.2.2.2, (show KoI X pk ρ ex H R _ h2 from P) ρ1 H1 _ _ _ a1 hp1 w⟩
end
end G

set_option Elab.async false
set_option linter.all false
set_option maxRecDepth 100000
set_option maxHeartbeats 4000000
/-! GH: lists that are made: displays, comprehensions, list(e); as values, as cells. -/
namespace G
open PySem PySem.Spec PyProof.Rows L2
def noE : XK := fun _ _ _ => False
theorem Rs.bind_inv {α β : Type} {r : Rs α} {f : α → AH → Rs β} {b : β} {h' : AH} (e : r.bind f = .ok b h') : ∃ a h, r = .ok a h ∧ f a h = .ok b h' := by
  cases r with
  | ok a h => exact ⟨a, h, rfl, e⟩
  | ex x h => cases e
  | no => cases e
theorem noEx_inv {α : Type} {r : Rs α} {b : α} {h' : AH} (e : noEx r = .ok b h') : r = .ok b h' := by
  cases r <;> first | exact e | cases e
theorem lift_inv {α : Type} {o : Option α} {h h' : AH} {b : α} (e : lift o h = .ok b h') : o = some b ∧ h = h' := by
  cases o with
  | none => cases e
  | some a => cases e; exact ⟨rfl, rfl⟩
theorem ite_inv {α : Type} {c : Prop} [Decidable c] {r : Rs α} {b : α} {h' : AH} (e : (if c then r else .no) = Rs.ok b h') : c ∧ r = .ok b h' := by
  by_cases h : c
  · rw [if_pos h] at e; exact ⟨h, e⟩
  · rw [if_neg h] at e; cases e
theorem Post.noEx {α : Type} {r : Rs α} {k : α → AH → Prop} {e : Exn → AH → Prop} (p : Post (noEx r) k e) : ∃ a h, r = .ok a h ∧ k a h := by
  cases r with
  | ok a h => exact ⟨a, h, rfl, p⟩
  | ex x h => exact p.elim
  | no => exact p.elim
theorem Post.ok {α : Type} {r : Rs α} {a : α} {h : AH} {k : α → AH → Prop} {e : Exn → AH → Prop} (p : r = .ok a h) (q : k a h) : Post r k e := by rw [p]; exact q

/-- the end of an expression that makes a list: it is one's own -/
def KoL (X : Cx) (ρ : List Addr) (ex : Addr → Prop) (H : Hp) (Q : VK) (v : AV) (ah' : AH) : Prop :=
  ∀ xs, v = .lst xs → ∀ ρ' H' p vs, Ext ρ H ρ' H' → H p = none → HRel X.K X.mg ρ' (exP ex p) ah' H' → H' p = some (.lst vs) → Reps X.K X.mg ρ' (exP ex p) H' xs vs → Q (.ref p) H'
def tL (X : Cx) (E : XK) (Φ : CallA) (e : Exp) : TE := fun σ H Q => ∃ ρ ex ws aσ ah, StRel X.K X.mg ρ ex ws aσ ah σ H ∧ Post (evE Φ e aσ ah) (KoL X ρ ex H Q) (ExC X E ρ ex H)

section
variable {K : PySem.W.Frag} {mg : Str → Option Value} {ρ ρ' : List Addr} {ex ex' : Addr → Prop} {H H' : Hp} {ah ah' : AH} {p : Addr}
theorem Stp.less (h : ∀ b, ex' b → ex b) : Stp ρ ex H ρ ex' H := ⟨fun _ _ e n x => ⟨e, n, fun y => x (h _ y)⟩, fun _ _ e _ => e, fun _ _ e => e⟩
theorem Stp.unP : Stp ρ (exP ex p) H ρ ex H := .less fun _ h => .inl h
theorem HRel.less (h : HRel K mg ρ ex ah H) (hl : ∀ b, ex' b → ex b) : HRel K mg ρ ex' ah H :=
  ⟨h.len, h.nd, fun a m x => h.out a m (hl a x), fun a x => h.exOk a (hl a x), fun n c a e1 e2 => (h.cell n c a e1 e2).step (.less hl) rfl⟩
theorem HRel.unP (h : HRel K mg ρ (exP ex p) ah H) : HRel K mg ρ ex ah H := h.less fun _ x => .inl x
theorem HRel.notP (h : HRel K mg ρ (exP ex p) ah H) : p ∉ ρ := fun m => h.out p m (.inr rfl)
/-- one's own list becomes a cell -/
theorem Stp.toCell : Stp ρ (exP ex p) H (ρ ++ [p]) ex H :=
  ⟨fun a u e n x => ⟨e, fun m => by
    rcases List.mem_append.mp m with m | m
    · exact n m
    · exact x (.inr (by simpa using m)), fun y => x (.inl y)⟩, fun _ _ e _ => e, fun n a e => by rw [List.getElem?_append_left (List.getElem?_eq_some_iff.mp e).1]; exact e⟩
theorem HRel.toCell (h : HRel K mg ρ (exP ex p) ah H) (np : ¬ ex p) {xs : List AV} {vs : List V} (e : H p = some (.lst vs)) (r : Reps K mg ρ (exP ex p) H xs vs) : HRel K mg (ρ ++ [p]) ex (ah ++ [.lst xs]) H := by
  refine ⟨by simp [h.len], ?_, fun a m x => ?_, fun a x => h.exOk a (.inl x), fun n c a e1 e2 => ?_⟩
  · rw [List.nodup_append]
    exact ⟨h.nd, by simp, fun a ha b hb => by
      have : b = p := by simpa using hb
      subst this
      rintro rfl
      exact h.notP ha⟩
  · rcases List.mem_append.mp m with m | m
    · exact h.out a m (.inl x)
    · have : a = p := by simpa using m
      subst this; exact np x
  · by_cases hn : n < ah.length
    · rw [List.getElem?_append_left hn] at e1
      rw [List.getElem?_append_left (by rw [h.len]; exact hn)] at e2
      exact (h.cell n c a e1 e2).step .toCell rfl
    · have h1 : n < (ah ++ [Cell.lst xs]).length := (List.getElem?_eq_some_iff.mp e1).1
      have : n = ah.length := by simp at h1; omega
      subst this
      have : c = .lst xs := by simpa using e1.symm
      subst this
      have : a = p := by
        rw [List.getElem?_append_right (by rw [h.len]; exact Nat.le_refl _)] at e2
        simpa [h.len] using e2.symm
      subst this
      exact ⟨vs, e, r.step .toCell⟩
theorem Ext.toCell (a : Ext ρ H ρ' H') (np : H p = none) : Ext ρ H (ρ' ++ [p]) H' := by
  refine ⟨?_, fun b m n => ?_, a.fix, a.keep⟩
  · obtain ⟨t, e⟩ := a.pre
    exact ⟨t ++ [p], by rw [e, List.append_assoc]⟩
  · rcases List.mem_append.mp m with m | m
    · exact a.new b m n
    · have : b = p := by simpa using m
      subst this; exact np
/-- an excluded thing is written -/
theorem Stp.atEx {o : HO} {vs : List V} (x : ex p) (e : H p = some (.lst vs)) : Stp ρ ex H ρ ex (upd H p o) :=
  ⟨fun a u e' n y => ⟨by rw [upd_ne (fun q => y (by rw [q]; exact x))]; exact e', n, y⟩, fun a u e' m => by
    rw [upd_ne (fun q => by subst q; rw [e] at e'; cases e'; exact m trivial)]; exact e', fun _ _ e => e⟩
theorem HRel.atEx {o : HO} {vs : List V} (h : HRel K mg ρ ex ah H) (x : ex p) (e : H p = some (.lst vs)) : HRel K mg ρ ex ah (upd H p o) :=
  ⟨h.len, h.nd, h.out, fun a y => by
    by_cases q : a = p
    · subst q; rw [upd_same]; simp
    · rw [upd_ne q]; exact h.exOk a y, fun n c a e1 e2 => (h.cell n c a e1 e2).step (.atEx x e) (upd_ne (fun q => h.out a (List.mem_of_getElem? e2) (by rw [q]; exact x)))⟩
end

section
variable {X : Cx} {E : XK} {Φ : CallA} {pos : Pos} {a b e : Expr} {a' b' e' : Exp} {es : List Expr} {es' : List Exp}
/-- made as a value -/
theorem snd_ofL (h : PE X e (tL X E Φ e')) : PE X e (tE X E Φ e') := by
  refine ⟨fun pins s σ H Q I hq => h.run pins s σ H Q I ?_⟩
  obtain ⟨ρ, ex, ws, aσ, ah, S, P⟩ := hq
  refine ⟨ρ, ex, ws, aσ, ah, S, P.imp (fun v h k xs ev ρ' H' p vs a np hp e r => ?_) (fun _ _ k => k)⟩
  subst ev
  exact k ρ' H' _ a hp.unP (.lst e hp.notP (fun x => S.hp.exOk p x np) (r.step .unP))
/-- made as a cell -/
theorem snd_cell (h : PE X e (tL X E Φ e')) : PE X e (tE X E Φ (.cell e')) := by
  refine ⟨fun pins s σ H Q I hq => h.run pins s σ H Q I ?_⟩
  obtain ⟨ρ, ex, ws, aσ, ah, S, P⟩ := hq
  simp only [evE, Post.bind] at P
  refine ⟨ρ, ex, ws, aσ, ah, S, P.imp (fun v h k xs ev ρ' H' p vs a np hp e r => ?_) (fun _ _ k => k)⟩
  subst ev
  have nx : ¬ ex p := fun x => S.hp.exOk p x np
  exact (show Kok X ρ ex H Q (.ref h.length) (h ++ [.lst xs]) from k) _ H' _ (a.toCell np) (hp.toCell nx e r) (.ref (by rw [List.getElem?_append_right (by rw [hp.len]; exact Nat.le_refl _)]; simp [hp.len]))
theorem hrel_newP {p : Addr} {o : HO} {ρ : List Addr} {ex : Addr → Prop} {H : Hp} {ah : AH} (hp : HRel X.K X.mg ρ ex ah H) (np : H p = none) : HRel X.K X.mg ρ (exP ex p) ah (upd H p o) :=
  ⟨hp.len, hp.nd, fun a m x => x.elim (hp.out a m) fun e => by subst e; exact hp.ne m np, fun a x => by
    by_cases e : a = p
    · subst e; rw [upd_same]; simp
    · rw [upd_ne e]; exact hp.exOk a (x.resolve_right e), fun n c a e1 e2 => by
    refine (hp.cell n c a e1 e2).step ((ext_new hp np).stp fun b h1 h2 h3 => h3.elim h2 fun e => by subst e; exact h1 np) ?_
    rw [upd_ne (fun e => by subst e; exact hp.ne (List.mem_of_getElem? e2) np)]⟩
theorem KoL.new {ρ ρ0 : List Addr} {ex : Addr → Prop} {H H0 : Hp} {ah : AH} {Q : VK} {xs : List AV} {vs : List V} (h : KoL X ρ0 ex H0 Q (.lst xs) ah) (a : Ext ρ0 H0 ρ H) (hp : HRel X.K X.mg ρ ex ah H) (hp0 : ∀ b ∈ ρ0, H0 b ≠ none) (r : Reps X.K X.mg ρ ex H xs vs) (p : Addr) (np : H p = none) : Q (.ref p) (upd H p (.lst vs)) := by
  have np0 : H0 p = none := by
    cases z : H0 p with
    | none => rfl
    | some u =>
      by_cases m : p ∈ ρ0
      · exact absurd np (hp.ne (a.sub m))
      · rw [a.keep p u z m] at np; cases np
  exact h xs rfl ρ _ p vs (a.trans (ext_new hp np)) np0 (hrel_newP hp np) upd_same (r.step ((ext_new hp np).stp fun b h1 h2 h3 => h3.elim h2 fun e => by subst e; exact h1 np))
theorem sl_lst (h : PA X es (tEs X E Φ es')) : PE X (.List es pos) (tL X E Φ (.lst es')) := by
  refine ⟨fun pins s σ H Q I hq => (pe_lst h).run pins s σ H Q I ?_⟩
  obtain ⟨ρ, ex, ws, aσ, ah, S, P⟩ := hq
  simp only [evE, Post.bind] at P
  refine ⟨ρ, ex, ws, aσ, ah, S, P.imp (fun xs h1 P ρ1 H1 vs a1 hp1 r1 => ?_) (fun _ _ k => k)⟩
  obtain ⟨c, P⟩ := P.ite
  exact ⟨by rw [← r1.length]; exact c, fun p np => (show KoL X ρ ex H Q (.lst xs) h1 from P).new a1 hp1 (fun b m => S.hp.ne m) r1 p np⟩

/-! ### comprehensions -/
/-- within the loop: what the new list at D holds -/
structure LcI (X : Cx) (ρ1 : List Addr) (ex : Addr → Prop) (H1 : Hp) (D : Addr) (ρ' : List Addr) (ah' : AH) (H' : Hp) (ys : List AV) (vs : List V) : Prop where
  ext : Ext ρ1 H1 ρ' H'
  hp : HRel X.K X.mg ρ' (exP ex D) ah' H'
  at_ : H' D = some (.lst vs)
  rs : Reps X.K X.mg ρ' (exP ex D) H' ys vs
theorem LcI.go {ρ1 ρ' ρ'' : List Addr} {ex : Addr → Prop} {H1 H' H'' : Hp} {D : Addr} {ah' ah'' : AH} {ys : List AV} {vs : List V} (L : LcI X ρ1 ex H1 D ρ' ah' H' ys vs) (a : Ext ρ' H' ρ'' H'') (hp : HRel X.K X.mg ρ'' (exP ex D) ah'' H'') : LcI X ρ1 ex H1 D ρ'' ah'' H'' ys vs :=
  ⟨L.ext.trans a, hp, a.keep _ _ L.at_ L.hp.notP, L.rs.step a.step⟩
theorem LcI.put {ρ1 ρ' : List Addr} {ex : Addr → Prop} {H1 H' : Hp} {D : Addr} {ah' : AH} {ys : List AV} {vs : List V} {y : AV} {v : V} (L : LcI X ρ1 ex H1 D ρ' ah' H' ys vs) (nD : H1 D = none) (r : Rep X.K X.mg ρ' (exP ex D) H' y v) :
    LcI X ρ1 ex H1 D ρ' ah' (upd H' D (.lst (vs ++ [v]))) (ys ++ [y]) (vs ++ [v]) :=
  ⟨⟨L.ext.pre, L.ext.new, fun a u e m => by
      rw [upd_ne (fun q => by subst q; rw [nD] at e; cases e)]; exact L.ext.fix a u e m, fun a u e n => by
      rw [upd_ne (fun q => by subst q; rw [nD] at e; cases e)]; exact L.ext.keep a u e n⟩, L.hp.atEx (.inr rfl) L.at_, upd_same, (L.rs.step (.atEx (.inr rfl) L.at_)).append (.cons (r.step (.atEx (.inr rfl) L.at_)) .nil)⟩
theorem walk_W {J : It} {n : Nat} {G : Hp → Prop} {Y : Nat → Hp → V → Hp → Prop} (w : Walk J n G Y) {Step : (Hp → Prop) → V → Hp → Prop} {H0 : Hp} {Qd : Hp → Prop} (Pv : Nat → Hp → Prop) (h0 : Pv 0 H0) (hG : ∀ i H, i ≤ n → Pv i H → G H)
    (hs : ∀ i x H H', i < n → Pv i H → Y i H x H' → Step (Pv (i + 1)) x H') (hd : ∀ H, Pv n H → Qd H) :
    ∃ W : Nat → Nat → Hp → Prop, (∃ m, W 0 m H0) ∧ ∀ i m H, W i m H → (J.stop i H ∧ Qd H) ∨ (J.go i H ∧ ∃ Nx : Hp → Prop, (∀ H', Nx H' → ∃ m', m' < m ∧ W (i + 1) m' H') ∧ ∀ x H', J.yld i H x H' → Step Nx x H') := by
  refine ⟨fun i m H => m = n - i ∧ i ≤ n ∧ Pv i H, ⟨n, by simp, Nat.zero_le _, h0⟩, ?_⟩
  rintro i m H ⟨rfl, hi, p⟩
  have q := hG i H hi p
  by_cases hlt : i < n
  · exact .inr ⟨w.goes i H hlt q, Pv (i + 1), fun H' p' => ⟨n - (i + 1), by omega, rfl, hlt, p'⟩, fun x H' y => hs i x H H' hlt p (w.yields i H x H' hlt q y)⟩
  · have e : i = n := by omega
    subst e
    exact .inl ⟨w.stops H q, hd H p⟩
theorem compL_cons {tg : Tgt} {body : ASt → AH → Rs (List AV)} {x : AV} {xs : List AV} {σ : ASt} {h hz : AH} {zs : List AV} (e : compL tg body (x :: xs) σ h = .ok zs hz) :
    ∃ σ' ys h1 zs', asgT tg x σ = some σ' ∧ body σ' h = .ok ys h1 ∧ compL tg body xs σ h1 = .ok zs' hz ∧ zs = ys ++ zs' := by
  unfold compL at e
  obtain ⟨σ', h1, e1, e⟩ := Rs.bind_inv e
  obtain ⟨e0, rfl⟩ := lift_inv e1
  obtain ⟨ys, h2, e2, e⟩ := Rs.bind_inv e
  obtain ⟨zs', h3, e3, e⟩ := Rs.bind_inv e
  cases e
  exact ⟨σ', ys, h2, zs', e0, e2, e3, rfl⟩
/-- between two moments of a comprehension's loop -/
structure LStp (D : Addr) (ρ : List Addr) (ex : Addr → Prop) (H : Hp) (ρ' : List Addr) (H' : Hp) : Prop where
  stp : Stp ρ ex H ρ' ex H'
  keep : ∀ a u, H a = some u → a ∉ ρ → a ≠ D → H' a = some u ∧ a ∉ ρ'
section
variable {D : Addr} {ρ ρ' ρ'' : List Addr} {ex : Addr → Prop} {H H' H'' : Hp}
theorem LStp.refl : LStp D ρ ex H ρ H := ⟨.refl, fun _ _ e n _ => ⟨e, n⟩⟩
theorem LStp.trans (a : LStp D ρ ex H ρ' H') (b : LStp D ρ' ex H' ρ'' H'') : LStp D ρ ex H ρ'' H'' :=
  ⟨a.stp.trans b.stp, fun c u e n d => let ⟨e1, n1⟩ := a.keep c u e n d; b.keep c u e1 n1 d⟩
theorem LStp.of (a : Ext ρ H ρ' H') : LStp D ρ ex H ρ' H' := ⟨a.step, fun b u e n _ => ⟨a.keep b u e n, fun q => (by rw [a.new b q n] at e; cases e)⟩⟩
theorem LStp.put {o : HO} {vs : List V} (x : ex D) (e : H D = some (.lst vs)) : LStp D ρ ex H ρ (upd H D o) := ⟨.atEx x e, fun b u e n d => ⟨by rw [upd_ne d]; exact e, n⟩⟩
theorem StRel.lstp {K : PySem.W.Frag} {mg : Str → Option Value} {ah ah' : AH} {ws : List (Option Addr)} {aσ : ASt} {σ : L2.St} (S : StRel K mg ρ ex ws aσ ah σ H) (a : LStp D ρ ex H ρ' H') (hD : ∀ (i : Nat) (b : Addr), ws[i]? = some (some b) → b ≠ D) (hp : HRel K mg ρ' ex ah' H') : StRel K mg ρ' ex ws aσ ah' σ H' :=
  ⟨hp, S.len, S.wlen, fun i s v w e1 e2 e3 => by
    have q := S.slot i s v w e1 e2 e3
    cases s with
    | un => trivial
    | vl x =>
      obtain ⟨u, e, r⟩ := q
      exact ⟨u, e, r.step a.stp⟩
    | ol xs =>
      obtain ⟨b, vs, f1, f2, f3, r⟩ := q
      subst f2
      exact ⟨b, vs, f1, rfl, (a.keep b _ f3 (fun m => S.hp.out b m (S.own i b e3)) (hD i b e3)).1, r.step a.stp⟩, S.own, S.inj⟩
end
theorem wipe_wipe {σ : L2.St} {vs : List Nat} : ∀ {us : List Nat}, (∀ i ∈ us, i ∈ vs) → L2.wipe (L2.wipe σ us) vs = L2.wipe σ vs
  | [], _ => rfl
  | u :: us, h => by
    show L2.wipe ((L2.wipe σ us).set u none) vs = _
    rw [wipe_set (h u List.mem_cons_self)]
    exact wipe_wipe fun i m => h i (List.mem_cons_of_mem _ m)
/-- one loop of a comprehension; what a turn adds is told by B -/
theorem lc_loop {pk : Bool} {ρ1 ρa ρs : List Addr} {ex exs : Addr → Prop} {H1 Ha Hs : Hp} {D : Addr} {aha hz : AH} {ys : List AV} {ws : List (Option Addr)} {aσ : ASt} {σ : L2.St} {xs zs : List AV} {J : It} {G : Hp → Prop} {Y : Nat → Hp → V → Hp → Prop} {tg' : Tgt} {body : ASt → AH → Rs (List AV)} {vs : List Nat} {Nx : Hp → Prop}
    (B : (Hp → Prop) → L2.St → Hp → Prop) {ua : List V}
    (L0 : LcI X ρ1 ex H1 D ρa aha Ha ys ua) (hD : ∀ (i : Nat) (b : Addr), ws[i]? = some (some b) → b ≠ D) (S : StRel X.K X.mg ρa (exP ex D) ws aσ aha σ Ha) (WA : WalkA X.K X.mg pk ρs exs Hs xs J G Y)
    (hst : ∀ ρ' H' ys uv ah', LcI X ρ1 ex H1 D ρ' ah' H' ys uv → LStp D ρa (exP ex D) Ha ρ' H' → Sta pk ρs exs Hs ρ' (exP ex D) H')
    (hc : compL tg' body xs (wipeA aσ vs) aha = .ok zs hz) (hvs : ∀ i ∈ tgSlots tg', i ∈ vs) (hlen : (ys ++ zs).length ≤ sizeLine)
    (hB : ∀ (N : Hp → Prop) (ρ' : List Addr) (ah' : AH) (H' : Hp) (ys' us' : List AV) (uv : List V) (aσ' : ASt) (σ' : L2.St) (h2 : AH), LcI X ρ1 ex H1 D ρ' ah' H' ys' uv → StRel X.K X.mg ρ' (exP ex D) ws aσ' ah' σ' H' → body aσ' ah' = .ok us' h2 → (ys' ++ us').length ≤ sizeLine →
      (∀ ρ'' H'' uv', LStp D ρ' (exP ex D) H' ρ'' H'' → LcI X ρ1 ex H1 D ρ'' h2 H'' (ys' ++ us') uv' → N H'') → B N σ' H')
    (hfin : ∀ ρ' H' uv, LcI X ρ1 ex H1 D ρ' hz H' (ys ++ zs) uv → LStp D ρa (exP ex D) Ha ρ' H' → Nx H') :
    ∃ W : Nat → Nat → Hp → Prop, (∃ m, W 0 m Ha) ∧ ∀ i m H, W i m H → (J.stop i H ∧ Nx H) ∨ (J.go i H ∧ ∃ N : Hp → Prop, (∀ H', N H' → ∃ m', m' < m ∧ W (i + 1) m' H') ∧ ∀ x H', J.yld i H x H' →
      gT X tg' x (L2.wipe σ vs) H' fun σ2 H2 => L2.wipe σ2 vs = L2.wipe σ vs ∧ B N σ2 H2) := by
  refine walk_W WA.w (Step := fun N x H' => gT X tg' x (L2.wipe σ vs) H' fun σ2 H2 => L2.wipe σ2 vs = L2.wipe σ vs ∧ B N σ2 H2)
    (fun i H => ∃ ρ' ah' ys' zs' uv, LcI X ρ1 ex H1 D ρ' ah' H ys' uv ∧ LStp D ρa (exP ex D) Ha ρ' H ∧ compL tg' body (xs.drop i) (wipeA aσ vs) ah' = .ok zs' hz ∧ ys' ++ zs' = ys ++ zs)
    ⟨ρa, aha, ys, zs, ua, L0, .refl, by rw [List.drop_zero]; exact hc, rfl⟩ ?_ ?_ ?_
  · rintro i H hi ⟨ρ', ah', ys', zs', uv, L, st, _, _⟩
    exact WA.g ρ' _ H (hst ρ' H ys' uv ah' L st)
  · rintro i x H H' hi ⟨ρ', ah', ys', zs', uv, L, st, hcc, hyz⟩ hy
    have hx : xs[i]? = some xs[i] := List.getElem?_eq_getElem hi
    rw [List.drop_eq_getElem_cons hi] at hcc
    obtain ⟨aσ2, us, h1, zs2, e1, e2, e3, rfl⟩ := compL_cons hcc
    obtain ⟨a1, hp1, r1⟩ := WA.y i _ ρ' _ ah' H x H' hx (hst ρ' H ys' uv ah' L st) L.hp hy
    have L1 := L.go a1 hp1
    have st1 := st.trans (LStp.of a1)
    have S1 := (S.lstp st1 hD hp1).wipe vs
    refine ⟨ρ', exP ex D, ws, _, ah', _, aσ2, S1, r1, e1, fun σ2 S2 hw => ⟨(hw vs hvs).trans (wipe_wipe fun _ m => m), ?_⟩⟩
    have hl2 : (ys' ++ us).length ≤ sizeLine := by
      have := congrArg List.length hyz
      simp only [List.length_append] at this hlen ⊢
      omega
    refine hB _ ρ' ah' H' ys' us uv aσ2 σ2 h1 L1 S2 e2 hl2 fun ρ'' H'' uv' st2 L2 => ⟨ρ'', h1, _, zs2, uv', L2, st1.trans st2, e3, ?_⟩
    rw [← hyz, List.append_assoc]
  · rintro H ⟨ρ', ah', ys', zs', uv, L, st, hcc, hyz⟩
    rw [List.drop_length] at hcc
    cases hcc
    rw [List.append_nil] at hyz
    subst hyz
    exact hfin ρ' H uv L st
theorem tT_of {E : XK} {t : Tst} {ρ : List Addr} {ex : Addr → Prop} {ws : List (Option Addr)} {aσ : ASt} {ah : AH} {σ : L2.St} {H : Hp} {Q : Bool → Hp → Prop} (S : StRel X.K X.mg ρ ex ws aσ ah σ H) (P : Post (evT Φ t aσ ah) (KoB X ρ ex H Q) (ExC X E ρ ex H)) : tT X E Φ t σ H Q := ⟨ρ, ex, ws, aσ, ah, S, P⟩
/-- the tests, the element: what a turn of the last clause does -/
theorem lc_elt {ifs' : List Tst} {elt' : Exp} {ρ1 ρ' : List Addr} {ex : Addr → Prop} {H1 H' : Hp} {D : Addr} {ah' h2 : AH} {ys' us' : List AV} {uv : List V} {ws : List (Option Addr)} {aσ' : ASt} {σ' : L2.St} {N : Hp → Prop} (nD : H1 D = none)
    (L : LcI X ρ1 ex H1 D ρ' ah' H' ys' uv) (S : StRel X.K X.mg ρ' (exP ex D) ws aσ' ah' σ' H')
    (hb : ((evF Φ ifs' aσ' ah').bind fun k h => match k with | true => (evE Φ elt' aσ' h).bind fun x h => .ok [x] h | false => .ok [] h) = Rs.ok us' h2) (hlen : (ys' ++ us').length ≤ sizeLine)
    (hN : ∀ ρ'' H'' uv', LStp D ρ' (exP ex D) H' ρ'' H'' → LcI X ρ1 ex H1 D ρ'' h2 H'' (ys' ++ us') uv' → N H'') :
    tF X noE Φ ifs' σ' H' fun b H3 => if b = true then tE X noE Φ elt' σ' H3 fun y H4 => ∃ acc, H4 D = some (.lst acc) ∧ acc.length < sizeLine ∧ N (upd H4 D (.lst (acc ++ [y]))) else N H3 := by
  obtain ⟨k, h3, e1, e2⟩ := Rs.bind_inv hb
  refine ⟨ρ', exP ex D, ws, aσ', ah', S, Post.ok e1 fun ρ3 H3 a3 hp3 => ?_⟩
  have L3 := L.go a3 hp3
  cases k with
  | false =>
    cases e2
    show N H3
    exact hN ρ3 H3 uv (.of a3) (by rw [List.append_nil]; exact L3)
  | true =>
    dsimp only [if_true]; rw [if_pos rfl]
    obtain ⟨x, h4, e3, e4⟩ := Rs.bind_inv e2
    cases e4
    refine ⟨ρ3, exP ex D, ws, aσ', h3, S.ext a3 hp3, Post.ok e3 fun ρ4 H4 y a4 hp4 r4 => ?_⟩
    have L4 := L3.go a4 hp4
    refine ⟨uv, L4.at_, ?_, hN ρ4 _ _ (((LStp.of a3).trans (LStp.of a4)).trans (.put (.inr rfl) L4.at_)) (L4.put nD r4)⟩
    rw [← L4.rs.length]
    simp only [List.length_append, List.length_singleton] at hlen
    omega
theorem LcI.start {ρ1 : List Addr} {ex : Addr → Prop} {H1 : Hp} {D : Addr} {ah : AH} (hp : HRel X.K X.mg ρ1 ex ah H1) (nD : H1 D = none) : LcI X ρ1 ex H1 D ρ1 ah (upd H1 D (.lst [])) [] [] :=
  ⟨ext_new hp nD, hrel_newP hp nD, upd_same, .nil⟩
theorem LcI.done {ρ0 ρ1 ρ' : List Addr} {ex : Addr → Prop} {H0 H1 H' : Hp} {D : Addr} {ah hz : AH} {zs : List AV} {uv : List V} {Q : VK} (k : KoL X ρ0 ex H0 Q (.lst zs) hz) (a : Ext ρ0 H0 ρ1 H1) (hp0 : HRel X.K X.mg ρ0 ex ah H0) (nD : H1 D = none) (n1 : D ∉ ρ1) (L : LcI X ρ1 ex H1 D ρ' hz H' zs uv) : Q (.ref D) H' := by
  have np0 : H0 D = none := by
    cases z : H0 D with
    | none => rfl
    | some u =>
      by_cases m : D ∈ ρ0
      · exact absurd (a.sub m) n1
      · rw [a.keep D u z m] at nD; cases nD
  exact k zs rfl ρ' H' D uv (a.trans L.ext) np0 L.hp L.at_ L.rs
section
variable {elt tg iter tg1 iter1 : Expr} {ifs ifs1 : List Expr} {scope : Scope} {own : List (Str × Nat)} {tg' tg1' : Tgt} {it' it1' : Itr} {ifs' ifs1' : List Tst} {elt' : Exp}
theorem lc_read (hown : own.map (·.2) = tgSlots tg') {σ : L2.St} {H : Hp} {Q : VK} (hq : tL X E Φ (.comp (.cl tg' it' ifs' (.elt elt'))) σ H Q) : tLc (tI X E Φ true it') (gT X tg') (tF X noE Φ ifs') (tE X noE Φ elt') (own.map (·.2)) σ H Q := by
  obtain ⟨ρ, ex, ws, aσ, ah, S, P⟩ := hq
  simp only [evE, Post.bind] at P
  obtain ⟨zs, hz, e0, P⟩ := P.noEx
  obtain ⟨hl, P⟩ := P.ite
  unfold evC at e0
  obtain ⟨xs, h1, e1, e2⟩ := Rs.bind_inv e0
  refine ⟨ρ, ex, ws, aσ, ah, S, Post.ok e1 fun ρ1 H1 J G Y a1 hp1 WA D nD => ?_⟩
  have L0 := LcI.start hp1 nD
  have hex : ∀ b, H1 b ≠ none → ¬ ex b → ¬ exP ex D b := fun b h1 h2 h3 => h3.elim h2 fun e => by subst e; exact h1 nD
  have S1 := S.ext a1 hp1
  have S0 : StRel X.K X.mg ρ1 (exP ex D) ws aσ h1 σ (upd H1 D (.lst [])) := S1.stp L0.ext (L0.ext.stp hex) (fun b x => .inl x) L0.hp
  have hD : ∀ (i : Nat) (b : Addr), ws[i]? = some (some b) → b ≠ D := fun i b e q => by
    subst q
    exact S1.hp.exOk b (S1.own i b e) nD
  rw [hown]
  rw [show tgSlots tg' ++ cmpSlots (.elt elt') = tgSlots tg' by simp [cmpSlots]] at e2
  exact lc_loop (fun N σ2 H2 => tF X noE Φ ifs' σ2 H2 fun b H3 => if b = true then tE X noE Φ elt' σ2 H3 fun y H4 => ∃ acc, H4 D = some (.lst acc) ∧ acc.length < sizeLine ∧ N (upd H4 D (.lst (acc ++ [y]))) else N H3)
    L0 hD S0 WA (fun ρ' H' ys uv ah' L _ => ⟨L.ext.stp hex, fun _ => L.ext⟩) e2 (fun i hi => hi) (by simpa using hl)
    (fun N ρ' ah' H' ys' us' uv aσ' σ' h2 L S hb hlen hN => lc_elt nD L S (by unfold evC at hb; exact hb) hlen hN)
    (fun ρ' H' uv L st => LcI.done (show KoL X ρ ex H Q (.lst zs) hz from P) a1 S.hp nD (fun m => hp1.ne m nD) (by simpa using L))
theorem sl_lc (hk : Ok X) (hi : PI X tg iter (tI X E Φ true it')) (ok : BlkOk X.N X.env.scope scope own) (hown : own.map (·.2) = tgSlots tg')
    (hg : ∀ (s : Shared) (H : Hp) (C : Addr) (cl : List (Str × Addr)) (fp : List Addr), PG (X.blk s H scope (compEnvC scope cl C X.env) fp) tg (gT X tg')) (ht : ∀ (s : Shared) (H : Hp) (C : Addr) (cl : List (Str × Addr)) (fp : List Addr), PTs (X.blk s H scope (compEnvC scope cl C X.env) fp) ifs (tF X noE Φ ifs'))
    (he : ∀ (s : Shared) (H : Hp) (C : Addr) (cl : List (Str × Addr)) (fp : List Addr), PE (X.blk s H scope (compEnvC scope cl C X.env) fp) elt (tE X noE Φ elt')) (hs : ∀ x, foldedSetIterable iter X.env x = pure x) :
    PE X (.ListComp elt [⟨tg, iter, ifs, 0⟩] scope pos) (tL X E Φ (.comp (.cl tg' it' ifs' (.elt elt')))) :=
  ⟨fun pins s σ H Q I hq => (pe_lc hk.calm hk.nd hi ok hg ht he hs).run pins s σ H Q I (lc_read hown hq)⟩
theorem lc2_read (hown : own.map (·.2) = tgSlots tg' ++ tgSlots tg1') {σ : L2.St} {H : Hp} {Q : VK} (hq : tL X E Φ (.comp (.cl tg' it' ifs' (.cl tg1' it1' ifs1' (.elt elt')))) σ H Q) :
    tLc2 (tI X E Φ true it') (gT X tg') (tF X noE Φ ifs') (tI X noE Φ false it1') (gT X tg1') (tF X noE Φ ifs1') (tE X noE Φ elt') (own.map (·.2)) (tgSlots tg1') σ H Q := by
  obtain ⟨ρ, ex, ws, aσ, ah, S, P⟩ := hq
  simp only [evE, Post.bind] at P
  obtain ⟨zs, hz, e0, P⟩ := P.noEx
  obtain ⟨hl, P⟩ := P.ite
  unfold evC at e0
  obtain ⟨xs, h1, e1, e2⟩ := Rs.bind_inv e0
  refine ⟨ρ, ex, ws, aσ, ah, S, Post.ok e1 fun ρ1 H1 J G Y a1 hp1 WA D nD => ?_⟩
  have L0 := LcI.start hp1 nD
  have hex : ∀ b, H1 b ≠ none → ¬ ex b → ¬ exP ex D b := fun b h1 h2 h3 => h3.elim h2 fun e => by subst e; exact h1 nD
  have S1 := S.ext a1 hp1
  have S0 : StRel X.K X.mg ρ1 (exP ex D) ws aσ h1 σ (upd H1 D (.lst [])) := S1.stp L0.ext (L0.ext.stp hex) (fun b x => .inl x) L0.hp
  have hD : ∀ (i : Nat) (b : Addr), ws[i]? = some (some b) → b ≠ D := fun i b e q => by
    subst q
    exact S1.hp.exOk b (S1.own i b e) nD
  rw [hown]
  rw [show tgSlots tg' ++ cmpSlots (.cl tg1' it1' ifs1' (.elt elt')) = tgSlots tg' ++ tgSlots tg1' by simp [cmpSlots]] at e2
  refine lc_loop (fun N σ2 H2 => tF X noE Φ ifs' σ2 H2 fun b H3 => if b = true then tI X noE Φ false it1' σ2 H3 fun J1 H4 => ∃ W1 : Nat → Nat → Hp → Prop, (∃ m, W1 0 m H4) ∧ ∀ j k H, W1 j k H →
      (J1.stop j H ∧ N H) ∨ (J1.go j H ∧ ∃ Nx1 : Hp → Prop, (∀ H', Nx1 H' → ∃ k', k' < k ∧ W1 (j + 1) k' H') ∧ ∀ x H', J1.yld j H x H' → gT X tg1' x (L2.wipe σ2 (tgSlots tg1')) H' fun σ3 H5 => L2.wipe σ3 (tgSlots tg1') = L2.wipe σ2 (tgSlots tg1') ∧ tF X noE Φ ifs1' σ3 H5 fun b H6 =>
        if b = true then tE X noE Φ elt' σ3 H6 fun y H7 => ∃ acc, H7 D = some (.lst acc) ∧ acc.length < sizeLine ∧ Nx1 (upd H7 D (.lst (acc ++ [y]))) else Nx1 H6)
    else N H3)
    L0 hD S0 WA (fun ρ' H' ys uv ah' L _ => ⟨L.ext.stp hex, fun _ => L.ext⟩) e2 (fun i hi => List.mem_append_left _ hi) (by simpa using hl)
    (fun N ρ' ah' H' ys' us' uv aσ' σ' h2 L S hb hlen hN => ?_)
    (fun ρ' H' uv L st => LcI.done (show KoL X ρ ex H Q (.lst zs) hz from P) a1 S.hp nD (fun m => hp1.ne m nD) (by simpa using L))
  obtain ⟨k, h3, e3, e4⟩ := Rs.bind_inv hb
  refine ⟨ρ', exP ex D, ws, aσ', ah', S, Post.ok e3 fun ρ3 H3 a3 hp3 => ?_⟩
  have L3 := L.go a3 hp3
  have S3 := S.ext a3 hp3
  cases k with
  | false =>
    cases e4
    show N H3
    exact hN ρ3 H3 uv (.of a3) (by rw [List.append_nil]; exact L3)
  | true =>
    dsimp only [if_true]; rw [if_pos rfl]
    simp only at e4
    unfold evC at e4
    obtain ⟨xs1, h4, e5, e6⟩ := Rs.bind_inv e4
    refine ⟨ρ3, exP ex D, ws, aσ', h3, S3, Post.ok e5 fun ρ4 H4 J1 G1 Y1 a4 hp4 WA1 => ?_⟩
    have L4 := L3.go a4 hp4
    have S4 := S3.ext a4 hp4
    rw [show tgSlots tg1' ++ cmpSlots (.elt elt') = tgSlots tg1' by simp [cmpSlots]] at e6
    exact lc_loop (fun N σ2 H2 => tF X noE Φ ifs1' σ2 H2 fun b H3 => if b = true then tE X noE Φ elt' σ2 H3 fun y H4 => ∃ acc, H4 D = some (.lst acc) ∧ acc.length < sizeLine ∧ N (upd H4 D (.lst (acc ++ [y]))) else N H3)
      L4 hD S4 WA1 (fun ρ' H' ys uv ah' L st => ⟨st.stp, fun q => by cases q⟩) e6 (fun i hi => hi) hlen
      (fun N ρ' ah' H' ys' us' uv aσ' σ' h2 L S hb hlen hN => lc_elt nD L S (by unfold evC at hb; exact hb) hlen hN)
      (fun ρ' H' uv L st => hN ρ' H' uv (((LStp.of a3).trans (LStp.of a4)).trans st) L)
theorem sl_lc2 (hk : Ok X) (hi : PI X tg iter (tI X E Φ true it')) (ok : BlkOk X.N X.env.scope scope own) (hown : own.map (·.2) = tgSlots tg' ++ tgSlots tg1')
    (hg : ∀ (s : Shared) (H : Hp) (C : Addr) (cl : List (Str × Addr)) (fp : List Addr), PG (X.blk s H scope (compEnvC scope cl C X.env) fp) tg (gT X tg')) (ht : ∀ (s : Shared) (H : Hp) (C : Addr) (cl : List (Str × Addr)) (fp : List Addr), PTs (X.blk s H scope (compEnvC scope cl C X.env) fp) ifs (tF X noE Φ ifs'))
    (hi1 : ∀ (s : Shared) (H : Hp) (C : Addr) (cl : List (Str × Addr)) (fp : List Addr), PI (X.blk s H scope (compEnvC scope cl C X.env) fp) tg1 iter1 (tI X noE Φ false it1'))
    (hg1 : ∀ (s : Shared) (H : Hp) (C : Addr) (cl : List (Str × Addr)) (fp : List Addr), PG (X.blk s H scope (compEnvC scope cl C X.env) fp) tg1 (gT X tg1')) (ht1 : ∀ (s : Shared) (H : Hp) (C : Addr) (cl : List (Str × Addr)) (fp : List Addr), PTs (X.blk s H scope (compEnvC scope cl C X.env) fp) ifs1 (tF X noE Φ ifs1'))
    (he : ∀ (s : Shared) (H : Hp) (C : Addr) (cl : List (Str × Addr)) (fp : List Addr), PE (X.blk s H scope (compEnvC scope cl C X.env) fp) elt (tE X noE Φ elt')) (hs : ∀ x, foldedSetIterable iter X.env x = pure x) (hs1 : ∀ env x, foldedSetIterable iter1 env x = pure x) :
    PE X (.ListComp elt [⟨tg, iter, ifs, 0⟩, ⟨tg1, iter1, ifs1, 0⟩] scope pos) (tL X E Φ (.comp (.cl tg' it' ifs' (.cl tg1' it1' ifs1' (.elt elt'))))) :=
  ⟨fun pins s σ H Q I hq => (pe_lc2 (vs1 := tgSlots tg1') hk.calm hk.nd hi ok (fun i hi => by rw [hown]; exact List.mem_append_right _ hi) hg ht hi1 hg1 ht1 he hs hs1).run pins s σ H Q I (lc2_read hown hq)⟩
end
end
end G

set_option autoImplicit false
set_option Elab.async false
set_option linter.all false
set_option maxRecDepth 100000
set_option maxHeartbeats 4000000
/-! GFn: a def's promise where no repr is under way (so that repr may be told), its calls, a law's end over it. -/
namespace G
open PySem PySem.Spec PyProof.Rows L2
/-- a def's promise, no repr under way -/
structure FnG (P : Program) (w : World) (K : PySem.W.Frag) (mg : Str → Option Value) (base : Heap) (CX : CXT) (k : Nat) (f : Addr) (fd : FuncData) (ps : List Str) (sp : Sp) : Prop where
  len : ∀ vs H Q E, sp vs H Q E → vs.length = ps.length
  run : ∀ (A : Around) (outer : List Env) (s : Shared) (H : Hp) (args : Args) (us : List Value) (vs : List V) (Q : VK) (E : XK), Room k A → A.guards = some [] → Env0 P w K mg base A outer s H → BindsTo s fd args (ps.zip us) → Vals vs us → sp vs H Q E →
    codeAny (model P w) A (.call (.ref f) args) (CR CX outer P w H s Q E) s
section
variable {P : Program} {w : World} {K : PySem.W.Frag} {mg : Str → Option Value} {base : Heap} {CX : CXT} {k : Nat} {f : Addr} {fd : FuncData} {ps : List Str} {sp : Sp}
theorem FnG.mono {j : Nat} (F : FnG P w K mg base CX j f fd ps sp) (h : j ≤ k) : FnG P w K mg base CX k f fd ps sp := ⟨F.len, fun A outer s H args us vs Q E hr => F.run A outer s H args us vs Q E (hr.mono h)⟩
/-- from its body -/
theorem FnG.of {x qual : Str} {params : Arguments} {body : List Stmt} {scope : Scope} {dvs : List V} {kws : List (Str × V)} {N : List Str} (F : FunD K x qual params body scope dvs kws f fd) (S : FnScope N ps scope) (len : ∀ vs H Q E, sp vs H Q E → vs.length = ps.length)
    (hbody : ∀ (cdv : Value) (A : Around) (outer : List Env) (s : Shared) (H : Hp) (vs : List V) (Q : VK) (E : XK), Room k (A.deeper (envOfC qual scope s.heap.objs.size f cdv)) → A.guards = some [] → sp vs H Q E →
      ∃ t, PSs (cxOf CX P w K mg base N qual scope f cdv A outer s H E) body t ∧ t { nx := fun _ H' => Q .non H', rt := Q } (L2.start N vs) H) : FnG P w K mg base CX (k + 1) f fd ps sp := by
  obtain ⟨oc, od, dV, kV, doc, pm, an, cdv, ct, osl, rfl, lk, hcd, _, _⟩ := F.ex
  constructor
  · exact len
  intro A outer s H args us vs Q E room gd en bi rv hsp
  have kin : K.In s.heap := e_kin en
  have nolim : s.heap.NoLimit := en.mod.nolimit.keeps fun b o e => (en.bs b o e).1
  refine codeAny_call_function room.depth (kin _ _ lk) rfl S.co S.gen rfl (PySem.W.codeRec_of kin hcd) (bi _ _ _ _ ?_)
  refine wpAny_newFunctionEnv_cells S.kind (fun y hy => ?_) fun env he s1 x => ?_
  · obtain ⟨n, v⟩ := y
    rcases S.par n (List.of_mem_zip hy).1 with q | q
    · exact .inl q
    · exact .inr ⟨q, PySem.W.cellsFrom_some _ _ _ (.inl q)⟩
  · subst he
    refine ⟨nolim.keeps x.toInCall.keep, codeAny_func ?_⟩
    obtain ⟨t, pt, q⟩ := hbody cdv A outer s H vs Q E (room.deeper _) gd hsp
    have J := inv_start (CX := CX) (E := E) S room.hd en (len _ _ _ _ hsp) rv x
    refine wpAny_mono (pt.run [] s1 (L2.start N vs) H _ J q) (fun fl s' r => ?_) fun _ _ r => r
    cases fl with
    | ret u => obtain ⟨v, _, H', I, r1, r2⟩ := r; exact ⟨v, H', I.os, I.bare, I.base, I.hok, r1, r2⟩
    | next => obtain ⟨_, H', I, r2⟩ := r; exact ⟨.non, H', I.os, I.bare, I.base, I.hok, rfl, r2⟩
    | brk => obtain ⟨_, _, _, r2⟩ := r; exact r2.elim
    | cont => obtain ⟨_, _, _, r2⟩ := r; exact r2.elim
where e_kin {A : Around} {outer : List Env} {s : Shared} {H : Hp} (en : Env0 P w K mg base A outer s H) : K.In s.heap := en.mod.kin.keeps fun b o e => (en.bs b o e).1
end
section
variable {X : Cx} {CX : CXT} {k : Nat} {f : Addr} {fd : FuncData} {ps ks : List Str} {sp : Sp} {dvs : List V} {ds : List Value} {E : XK} {x : Str} {p pos : Pos} {e : Expr} {es : List Expr} {t tk : TA} {kws : List Keyword}
/-- the callee runs: args binds us -/
theorem run_fnG {pins : List (Addr × Obj)} {σ : L2.St} {H : Hp} {s : Shared} {Q : VK} {pa us : List Value} {kw : List (Str × Value)} {vs : List V} (F : FnG X.prog X.w X.K X.mg X.base CX k f fd ps sp) (hr : Room k X.A) (gd : X.A.guards = some []) (hb : BindsTo s fd ⟨pa, kw⟩ (ps.zip us)) (hx : Passes CX X E)
    (I : Inv X pins σ H s) (r : Vals vs us) (h : sp vs H Q E) : wpAny (model X.prog X.w) X.A (call (.ref f) pa kw) (EP X pins σ Q) X.xe s := by
  refine wpAny_call (codeAny_mono (F.run X.A X.stack s H ⟨pa, kw⟩ us vs Q E hr gd I.env0 hb r h) fun res s' hq => ?_)
  match res, hq with
  | .error e, hq => exact hx pins σ H s e s' I hq
  | .ok (.ret u), hq => exact I.after hq
theorem pe_callG (F : FnG X.prog X.w X.K X.mg X.base CX k f fd ps sp) (hr : Room k X.A) (gd : X.A.guards = some []) (hg : Gl X x) (hm : X.mg x = some (.ref f)) (hk : PySem.W.keepIn X.K (.ref f) = true) (hb : Binds X.K fd ps ds) (hd : Vals dvs ds) (hx : Passes CX X E)
    (ha : PA X (e :: es) t) (hdb : (x == ("__debug__" : Str)) = false) (he : starEach (e :: es) X.env = (false, eval e X.env) :: starEach es X.env) (hpl : (backTo pos (starEach es X.env)).any (·.1) = false) :
    PE X (.Call (.Name x p) (e :: es) [] pos) (tCall sp dvs E t) := by
  refine ⟨fun pins s σ H Q I h => wpAny_Call_Name_kw (ld_glob I hg hm ?_ hdb)⟩
  refine PySem.W.callWith_K (h₀ := X.base) I.ok.mod.kin hk (thn (ha.run pos pins s σ H _ I h) fun us s1 ⟨vs, H1, I1, r, q⟩ => ⟨I1.kIn, ?_⟩) he hpl
  have r2 := r.append hd
  exact run_fnG F hr gd (hb s1 us I1.kIn (r2.length.symm.trans (F.len _ _ _ _ q))) hx I1 r2 q
/-- without arguments by place, with or without keywords -/
theorem pe_callG0 (F : FnG X.prog X.w X.K X.mg X.base CX k f fd ps sp) (hr : Room k X.A) (gd : X.A.guards = some []) (hg : Gl X x) (hm : X.mg x = some (.ref f)) (hk : PySem.W.keepIn X.K (.ref f) = true) (hb : Binds X.K fd ps ds) (hd : Vals dvs ds) (hx : Passes CX X E)
    (hdb : (x == ("__debug__" : Str)) = false) : PE X (.Call (.Name x p) [] [] pos) (tCall sp dvs E tNil) := by
  refine ⟨fun pins s σ H Q I h => wpAny_Call_Name_kw (ld_glob I hg hm ?_ hdb)⟩
  have q : sp ([] ++ dvs) H Q E := h
  exact PySem.W.callWith_K0 I.kIn hk (run_fnG F hr gd (hb s [] I.kIn ((Vals.append .nil hd).length.symm.trans (F.len _ _ _ _ q))) hx I (Vals.append .nil hd) q)
variable {n : Nat} {g : List Value → List Value → List Value} {gV : List V → List V → List V}
theorem pe_callGK (F : FnG X.prog X.w X.K X.mg X.base CX k f fd ps sp) (hr : Room k X.A) (gd : X.A.guards = some []) (hg : Gl X x) (hm : X.mg x = some (.ref f)) (hk : PySem.W.keepIn X.K (.ref f) = true) (hb : KBn X.K fd ps n ks g gV) (hx : Passes CX X E)
    (ha : PA X (e :: es) t) (hkw : PK X kws tk) (hall : (backToKw pos (keywordEach kws X.env)).all (·.1.isSome) = true) (hks : (backToKw pos (keywordEach kws X.env)).filterMap (·.1) = ks)
    (hdb : (x == ("__debug__" : Str)) = false) (he : starEach (e :: es) X.env = (false, eval e X.env) :: starEach es X.env)
    (hpl : ((backTo pos (starEach (e :: es) X.env)).any (·.1) || (backToKw pos (keywordEach kws X.env)).any (·.1.isNone)) = false) :
    PE X (.Call (.Name x p) (e :: es) kws pos) (tCallN n ks.length sp gV E t tk) := by
  refine ⟨fun pins s σ H Q I h => wpAny_Call_Name_kw (ld_glob I hg hm ?_ hdb)⟩
  refine PySem.W.callWith_KW (h₀ := X.base) I.ok.mod.kin hk hall (thn (ha.run pos pins s σ H _ I h) fun us s1 ⟨vs, H1, I1, r, q⟩ => ?_) hpl he
  refine thn (hkw.run pos pins s1 σ H1 _ I1 q) fun ws s2 ⟨zs, H2, I2, rz, l1, l2, q2⟩ => ⟨I2.kIn, ?_⟩
  rw [hks]
  exact run_fnG F hr gd (hb.to s2 us ws I2.kIn (r.length.symm.trans l1) (rz.length.symm.trans l2)) hx I2 (hb.rel r rz) q2
theorem pe_callGK0 (F : FnG X.prog X.w X.K X.mg X.base CX k f fd ps sp) (hr : Room k X.A) (gd : X.A.guards = some []) (hg : Gl X x) (hm : X.mg x = some (.ref f)) (hk : PySem.W.keepIn X.K (.ref f) = true) (hb : KBn X.K fd ps 0 ks g gV) (hx : Passes CX X E)
    (hkw : PK X kws tk) (hne : kws ≠ []) (hall : (backToKw pos (keywordEach kws X.env)).all (·.1.isSome) = true) (hks : (backToKw pos (keywordEach kws X.env)).filterMap (·.1) = ks)
    (hdb : (x == ("__debug__" : Str)) = false) (hpl : (backToKw pos (keywordEach kws X.env)).any (·.1.isNone) = false) :
    PE X (.Call (.Name x p) [] kws pos) (tCallN 0 ks.length sp gV E tNil tk) := by
  refine ⟨fun pins s σ H Q I h => wpAny_Call_Name_kw (ld_glob I hg hm ?_ hdb)⟩
  have h' : tk σ H fun zs H2 => ([] : List V).length = 0 ∧ zs.length = ks.length ∧ sp (gV [] zs) H2 Q E := h
  refine PySem.W.callWith_KW0 (h₀ := X.base) I.ok.mod.kin hk hall (thn (hkw.run pos pins s σ H _ I h') fun ws s2 ⟨zs, H2, I2, rz, l1, l2, q2⟩ => ⟨I2.kIn, ?_⟩) (by rw [hpl]; rfl)
  rw [hks]
  exact run_fnG F hr gd (hb.to s2 [] ws I2.kIn rfl (rz.length.symm.trans l2)) hx I2 (hb.rel .nil rz) q2
end
/-- a law's promise at the heap behind the top -/
theorem law_callG {P : Program} {w : World} {K : PySem.W.Frag} {mg mb : Str → Option Value} {k : Nat} {fa a : Addr} {fd : FuncData} {x : Str} {sp : Sp} {s₁ : Shared} {vs : List Value} {ns : List Int}
    (KX : K.In s₁.heap) (hns : s₁.heap.Ns mainGlobals mg) (hb : s₁.heap.Ns builtinsNs mb) (hbb : ∀ x : Str, x ≠ "__name__" → mb x = bootBuiltins x) (hlim : s₁.heap.NoLimit) (hg : s₁.gens = #[])
    (ha : s₁.heap.get? a = some { cls := .type "list", data := .seq vs.toArray }) (hi : IntsAre vs ns) (hl : ns.length ≤ sizeLine) (hr : Room k callerA)
    (F : ∀ base : Heap, K.In base → base.Ns mainGlobals mg → FnG P w K mg base CX0 k fa fd [x] sp) (hbind : ∀ (s : Shared) (u : Value), BindsTo s fd ⟨[u], []⟩ [(x, u)])
    (hsp : ∀ H : Hp, Only H → SqL K H a (ns.map V.int) → sp [.ref a] H (fun v _ => v = .bl true) fun _ _ _ => False) :
    codeAny (model P w) callerA (.call (.ref fa) ⟨[.ref a], []⟩) (fun r s' => r = .ok (.ret (.bool true)) ∧ OldK s₁.heap s'.heap ∧ s'.os = s₁.os ∧ AllBare s'.gens) s₁ := by
  have rv := vals_ints hi
  have main : ∀ H : Hp, Only H → SqL K H a (ns.map V.int) → HOk P w H s₁.heap → (∀ b, H b ≠ none → b = a ∧ K.lookup a = none) →
      codeAny (model P w) callerA (.call (.ref fa) ⟨[.ref a], []⟩) (fun r s' => r = .ok (.ret (.bool true)) ∧ OldK s₁.heap s'.heap ∧ s'.os = s₁.os ∧ AllBare s'.gens) s₁ := by
    intro H only sq hok one
    have untr : ∀ {b : Addr} {o : Obj}, s₁.heap.get? b = some o → (∀ c, o.data ≠ .seq vs.toArray c) ∨ K.lookup b = some o → H b = none := fun {b o} e why => by
      cases q : H b with
      | none => rfl
      | some u =>
        obtain ⟨rfl, no⟩ := one b (by rw [q]; simp)
        rcases why with why | why
        · rw [ha] at e; cases e; exact absurd rfl (why _)
        · rw [no] at why; cases why
    have nsH : ∀ {b : Addr} {m : Str → Option Value}, s₁.heap.Ns b m → (hidT s₁.heap H).Ns b m := fun {b m} ⟨o, es, ep, e, d, r⟩ => ⟨o, es, ep, hidT_get e (untr e (.inl fun c z => by rw [d] at z; cases z)), d, r⟩
    have kinH : K.In (hidT s₁.heap H) := fun b o e => hidT_get (KX b o e) (untr (KX b o e) (.inr e))
    have md : Mod K mg (hidT s₁.heap H) := ⟨kinH, nsH hns, ⟨mb, nsH hb, hbb⟩, let ⟨mc, h1, h2⟩ := hlim; ⟨mc, nsH h1, h2⟩⟩
    have en : Env0 P w K mg (hidT s₁.heap H) callerA [] s₁ H := ⟨rfl, md, fun b o e => of_hidT e, Nat.le_of_eq (hidT_size _ _), trivial, fun b hb => absurd (show b ∈ ([] : List Addr) from hb) (by simp), hok, .of_eq hg⟩
    refine codeAny_mono ((F _ kinH (nsH hns)).run callerA [] s₁ H ⟨[.ref a], []⟩ [.ref a] [.ref a] _ _ hr rfl en (hbind s₁ (.ref a)) (.cons rfl .nil) (hsp H only sq)) fun r s' h => ?_
    match r, h with
    | .error e, h => exact False.elim h
    | .ok (.ret u), ⟨v, H', os, bare, un, hok', r1, q⟩ =>
      obtain rfl : v = .bl true := q
      obtain rfl : u = Value.bool true := r1
      refine ⟨rfl, OldK.of_keep fun b o e => ?_, os, bare⟩
      cases q : H b with
      | none => exact un.keep b o e q (by intro z; exact absurd (show b ∈ ([] : List Addr) from z) (by simp)) (by simp)
      | some u =>
        rcases only b with z | ⟨ob, xs, z⟩
        · rw [q] at z; cases z
        · obtain ⟨e2, _⟩ := hok' b _ (un.frzs b ob _ z)
          obtain ⟨e1, _⟩ := hok b _ z
          rw [e] at e1; cases e1
          exact e2
  cases hk : K.lookup a with
  | some o =>
    have e := KX a o hk
    rw [ha] at e
    cases e
    exact main (fun _ => none) (fun _ => .inl rfl) (.inr ⟨_, vs.toArray, _, hk, rfl, rfl, rfl, by rw [List.size_toArray, hi.length]; exact hl, by simpa using rv⟩) (fun b u z => nomatch z) fun b z => absurd rfl z
  | none =>
    have hH : ∀ b u, (if b = a then some (HO.frz { cls := .type "list", data := .seq vs.toArray } (.lst (ns.map V.int))) else none) = some u → b = a ∧ u = .frz { cls := .type "list", data := .seq vs.toArray } (.lst (ns.map V.int)) := fun b u z => by
      split at z
      · cases z; exact ⟨‹_›, rfl⟩
      · cases z
    refine main (fun b => if b = a then some (.frz { cls := .type "list", data := .seq vs.toArray } (.lst (ns.map V.int))) else none) (fun b => ?_) (.inl (.inr ⟨{ cls := .type "list", data := .seq vs.toArray }, if_pos rfl⟩)) (fun b u z => ?_) fun b z => ?_
    · by_cases q : b = a
      · exact .inr ⟨_, _, if_pos q⟩
      · exact .inl (if_neg q)
    · obtain ⟨rfl, rfl⟩ := hH b u z
      exact ⟨ha, by rw [List.length_map]; exact hl, vs, _, rv, ha⟩
    · refine ⟨?_, hk⟩
      by_cases q : b = a
      · exact q
      · exact absurd (if_neg q) z
/-- a law's end -/
theorem walk_G {l : PySem.W.OpenLaw} {n k : Nat} {q : Program} {loose : List Str} {XP : (Str → Option Value) → Heap → Prop} {YP : World → Heap → Prop} {d : DefRec} {x : Str}
    (hn : l.most = some n) (hn2 : n ≤ sizeLine) (hdf : d.params.defaults = []) (hr : Room k callerA)
    (F : ∀ (w : World) (mg : Str → Option Value) (fa : Addr) (h : Heap), YP w h → h.Ns mainGlobals mg → mg d.name = some (.ref fa) →
      ∃ (K : PySem.W.Frag) (fd : FuncData) (sp : Sp), K.In h ∧ (∀ (s : Shared) (u : Value), BindsTo s fd ⟨[u], []⟩ [(x, u)]) ∧
        (∀ (H : Hp) (a : Addr) (ns : List Int), ns.length ≤ n → Only H → SqL K H a (ns.map V.int) → sp [.ref a] H (fun v _ => v = .bl true) fun _ _ _ => False) ∧
        ∀ base : Heap, K.In base → base.Ns mainGlobals mg → FnG l.prog w K mg base CX0 k fa fd [x] sp) :
    PySem.W.WalkO q loose XP YP l.row.toRowW d [] (fun f vs => PySem.call f vs) := by
  refine Att.attach_call hn hdf fun w s₀ s₁ mg mb fa o pm cd doc a vs ns G Y ho hd hcd hmg hobj hints hlen hg => ?_
  obtain ⟨K, fd, sp, KX, hb, hsp, hF⟩ := F w mg fa _ Y G.T.g hmg
  exact law_callG KX G.T.g G.T.b G.T.builtins G.T.nolimit hg hobj hints (Nat.le_trans hlen hn2) hr hF hb fun H hO hS => hsp H a ns hlen hO hS
end G

set_option Elab.async false
set_option linter.all false
set_option maxRecDepth 100000
set_option maxHeartbeats 4000000
/-! GI: tests, calls. -/
namespace G
open PySem PySem.Spec PyProof.Rows L2
section
variable {X : Cx} {E : XK} {Φ : CallA} {pos : Pos} {a b c e : Expr} {a' b' c' e' : Exp} {es : List Expr} {es' : List Exp} {t t1 t2 : Tst}
/-! ### tests -/
theorem st_val (h : PE X a (tP X E Φ a')) (he : ∀ whole, isTrue a X.env whole = (do let v ← whole; standAt a.pos; holding [v] (truthy v))) : PT X a (tT X E Φ (.e a')) := by
  refine ⟨fun pins s σ H Q I hq => ?_⟩
  have hr : tP X E Φ a' σ H fun x H1 => rTru X x H1 Q := by
    obtain ⟨ρ, ex, ws, aσ, ah, S, P⟩ := hq
    simp only [evT, Post.bind] at P
    refine ⟨ρ, ex, ws, aσ, ah, S, P.imp (fun v h1 P ρ1 H1 v1 a1 hp1 r1 => ?_) (fun _ _ k => k)⟩
    obtain ⟨k, e1, P⟩ := P.lift
    exact ⟨ρ1, ex, h1, v, k, hp1, r1, e1, P ρ1 H1 a1 hp1⟩
  exact isTrue_plain (thn (h.run pins s σ H _ I hr) fun v s1 ⟨x, H1, I1, r1, q1⟩ => op_T X pins s1 σ H1 x v Q I1 r1 q1) (he _)
theorem st_cmp {o : COp} (hk : Ok X) (ha : PE X a (tP X E Φ a')) (hb : PE X b (tP X E Φ b')) (hm : behindInMarks (pyC o) b = false) : PT X (.Compare a [pyC o] [b] pos) (tT X E Φ (.e (.cmp o a' b'))) := by
  refine ⟨fun pins s σ H Q I hq => (pt_cmpR (op_C X o hk.un) ha hb hm).run pins s σ H Q I ?_⟩
  refine cmp_read ?_
  obtain ⟨ρ, ex, ws, aσ, ah, S, P⟩ := hq
  simp only [evT, peek, evE, Post.bind] at P
  refine ⟨ρ, ex, ws, aσ, ah, S, ?_⟩
  simp only [evE, Post.bind]
  refine P.imp (fun x h1 P => P.imp (fun y h2 P => ?_) (fun _ _ k => k)) (fun _ _ k => k)
  obtain ⟨v, e, P⟩ := P.lift
  obtain ⟨k, e', rfl⟩ := Option.map_eq_some_iff.mp e
  rw [e]
  obtain ⟨k', e', P⟩ := P.lift
  cases e'
  intro ρ1 H1 v1 a1 hp1 r1
  cases r1
  exact ⟨k, rfl, P ρ1 H1 a1 hp1⟩
/-- a op b op c: the reading -/
theorem chain_read {o p : COp} {σ : L2.St} {H : Hp} {Q : VK} (hq : tE X E Φ (.chain o p a' b' c') σ H Q) : tChain (rC X o) (rC X p) (tE X E Φ a') (tE X E Φ b') (tE X E Φ c') σ H Q := by
  obtain ⟨ρ, ex, ws, aσ, ah, S, P⟩ := hq
  simp only [evE, Post.bind] at P
  refine ⟨ρ, ex, ws, aσ, ah, S, P.imp (fun x h1 P ρ1 H1 v1 a1 hp1 r1 => ?_) (fun _ _ k => k)⟩
  refine ⟨ρ1, ex, ws, aσ, h1, S.ext a1 hp1, P.imp (fun y h2 P ρ2 H2 v2 a2 hp2 r2 => ?_) (fun _ _ k => k.ext a1)⟩
  obtain ⟨k, e, P⟩ := P.lift
  have S2 := (S.ext a1 hp1).ext a2 hp2
  refine ⟨ρ2, ex, h2, x, y, k, hp2, .inl (r1.step a2.step), .inl r2, e, k, rfl, ?_⟩
  cases k with
  | false =>
    rw [if_neg (by decide)]
    exact ((show Kok X ρ ex H Q _ h2 from P).ext (a1.trans a2)).here hp2 (.bl _)
  | true =>
    rw [if_pos rfl]
    simp only [Post.bind] at P
    refine ⟨ρ2, ex, ws, aσ, h2, S2, P.imp (fun z h3 P ρ3 H3 v3 a3 hp3 r3 => ?_) (fun _ _ k => k.ext (a1.trans a2))⟩
    obtain ⟨v, e, P⟩ := P.lift
    obtain ⟨k, e', rfl⟩ := Option.map_eq_some_iff.mp e
    exact ⟨ρ3, ex, h3, y, z, k, hp3, .inl (r2.step a3.step), .inl r3, e', ((show Kok X ρ ex H Q _ h3 from P).ext ((a1.trans a2).trans a3)).here hp3 (.bl _)⟩
theorem snd_chain {o p : COp} (hk : Ok X) (ha : PE X a (tE X E Φ a')) (hb : PE X b (tE X E Φ b')) (hc : PE X c (tE X E Φ c')) (hm : lastMarks [pyC o, pyC p] [b, c] = false) : PE X (.Compare a [pyC o, pyC p] [b, c] pos) (tE X E Φ (.chain o p a' b' c')) :=
  ⟨fun pins s σ H Q I hq => (pe_chain (op_C X o hk.un) (op_C X p hk.un) ha hb hc hm).run pins s σ H Q I (chain_read hq)⟩
theorem opC_bl {o : COp} {x y v : AV} {h : AH} (e : (opC o x y h).map AV.bl = some v) : ∃ k, v = .bl k := by
  obtain ⟨k, _, rfl⟩ := Option.map_eq_some_iff.mp e
  exact ⟨k, rfl⟩
theorem st_chain {o p : COp} (hk : Ok X) (ha : PE X a (tE X E Φ a')) (hb : PE X b (tE X E Φ b')) (hc : PE X c (tE X E Φ c')) (hm : lastMarks [pyC o, pyC p] [b, c] = false) : PT X (.Compare a [pyC o, pyC p] [b, c] pos) (tT X E Φ (.e (.chain o p a' b' c'))) := by
  refine ⟨fun pins s σ H Q I hq => (pt_chain (op_C X o hk.un) (op_C X p hk.un) ha hb hc hm).run pins s σ H Q I ?_⟩
  refine chain_read ?_
  obtain ⟨ρ, ex, ws, aσ, ah, S, P⟩ := hq
  simp only [evT, peek, evE, Post.bind] at P
  refine ⟨ρ, ex, ws, aσ, ah, S, ?_⟩
  simp only [evE, Post.bind]
  have key : ∀ {k : Bool} {h' : AH}, Post (lift (truth h' (.bl k)) h') (KoB X ρ ex H Q) (ExC X E ρ ex H) → Kok X ρ ex H (fun z H' => ∃ k, z = .bl k ∧ Q k H') (.bl k) h' := fun {k h'} P ρ1 H1 v1 a1 hp1 r1 => by
    cases r1
    exact ⟨k, rfl, P ρ1 H1 a1 hp1⟩
  refine P.imp (fun x h1 P => P.imp (fun y h2 P => P.imp (fun k h3 P => ?_) (fun _ _ k => k)) (fun _ _ k => k)) (fun _ _ k => k)
  cases k with
  | false => exact key P
  | true =>
    simp only [Post.bind] at P ⊢
    refine P.imp (fun z h4 P => ?_) (fun _ _ k => k)
    obtain ⟨v, e, P⟩ := P.lift
    obtain ⟨k, rfl⟩ := opC_bl e
    rw [e]
    exact key P
theorem st_not (h : PT X a (tT X E Φ t)) : PT X (.UnaryOp .Not a pos) (tT X E Φ (.not t)) := by
  refine ⟨fun pins s σ H Q I hq => (pt_not h).run pins s σ H Q I ?_⟩
  obtain ⟨ρ, ex, ws, aσ, ah, S, P⟩ := hq
  simp only [evT, Post.bind] at P
  exact ⟨ρ, ex, ws, aσ, ah, S, P.imp (fun k h1 P ρ1 H1 a1 hp1 => (show KoB X ρ ex H Q (!k) h1 from P) ρ1 H1 a1 hp1) (fun _ _ k => k)⟩
theorem sw_and {rest : List Expr} (ha : PT X a (tT X E Φ t1)) (hb : PW X (.BoolOp .And (b :: rest) pos) (tT X E Φ t2)) : PW X (.BoolOp .And (a :: b :: rest) pos) (tT X E Φ (.and t1 t2)) := by
  refine ⟨fun wh pins s σ H Q I hq => (pw_and ha hb).run wh pins s σ H Q I ?_⟩
  obtain ⟨ρ, ex, ws, aσ, ah, S, P⟩ := hq
  simp only [evT, Post.bind] at P
  refine ⟨ρ, ex, ws, aσ, ah, S, P.imp (fun k h1 P ρ1 H1 a1 hp1 => ?_) (fun _ _ k => k)⟩
  cases k with
  | true => rw [if_pos rfl]; exact ⟨ρ1, ex, ws, aσ, h1, S.ext a1 hp1, P.imp (fun _ _ k ρ2 H2 a2 hp2 => k ρ2 H2 (a1.trans a2) hp2) (fun _ _ k => k.ext a1)⟩
  | false => rw [if_neg (by decide)]; exact (show KoB X ρ ex H Q false h1 from P) ρ1 H1 a1 hp1
theorem sw_or {rest : List Expr} (ha : PT X a (tT X E Φ t1)) (hb : PW X (.BoolOp .Or (b :: rest) pos) (tT X E Φ t2)) : PW X (.BoolOp .Or (a :: b :: rest) pos) (tT X E Φ (.or t1 t2)) := by
  refine ⟨fun wh pins s σ H Q I hq => (pw_or ha hb).run wh pins s σ H Q I ?_⟩
  obtain ⟨ρ, ex, ws, aσ, ah, S, P⟩ := hq
  simp only [evT, Post.bind] at P
  refine ⟨ρ, ex, ws, aσ, ah, S, P.imp (fun k h1 P ρ1 H1 a1 hp1 => ?_) (fun _ _ k => k)⟩
  cases k with
  | false => rw [if_neg (by decide)]; exact ⟨ρ1, ex, ws, aσ, h1, S.ext a1 hp1, P.imp (fun _ _ k ρ2 H2 a2 hp2 => k ρ2 H2 (a1.trans a2) hp2) (fun _ _ k => k.ext a1)⟩
  | true => rw [if_pos rfl]; exact (show KoB X ρ ex H Q true h1 from P) ρ1 H1 a1 hp1
/-- a clause's tests -/
theorem sts_nil : PTs X [] (tF X E Φ []) := by
  refine ⟨fun pins s σ H Q I hq => pts_nil.run pins s σ H Q I ?_⟩
  obtain ⟨ρ, ex, ws, aσ, ah, S, P⟩ := hq
  exact (show KoB X ρ ex H Q true ah from P) ρ H .refl S.hp
theorem sts_one (h : PT X a (tT X E Φ t)) : PTs X [a] (tF X E Φ [t]) := by
  refine ⟨fun pins s σ H Q I hq => (pts_one h).run pins s σ H Q I ?_⟩
  obtain ⟨ρ, ex, ws, aσ, ah, S, P⟩ := hq
  simp only [evF, Post.bind] at P
  refine ⟨ρ, ex, ws, aσ, ah, S, P.imp (fun k h1 P => ?_) (fun _ _ k => k)⟩
  cases k <;> exact P

/-! ### isinstance -/
theorem kitAny_one {K : PySem.W.Frag} {t u : Value} {b : Bool} (h : PySem.W.kitAny K t [u] = some b) : PySem.W.kitOne K t u = some b := by
  unfold PySem.W.kitAny at h
  cases e : PySem.W.kitOne K t u with
  | none => rw [e] at h; cases h
  | some k =>
    rw [e] at h
    cases k with
    | true => exact h
    | false => exact h
theorem pe_tyn {t : Ty} {x : Str} {p : Pos} (hg : Gl X x) (hm : X.mg x = none) (hv : bootBuiltins x = some (.type (tyN t))) (hn : x ≠ "__name__") (hd : (x == ("__debug__" : Str)) = false) : PE X (.Name x p) (tC (.ty (tyN t))) := pe_bltn hg hm hv rfl hn hd
theorem isi_read {ts : List Ty} {σ : L2.St} {H : Hp} {Q : VK} (hn : ts ≠ []) (hq : tE X E Φ (.isi a' ts) σ H Q) {R : V → Hp → Prop} (hR : ∀ x H1 n b, TyX X.K H1 x (.type n) → PySem.W.kitAny X.K (.type n) (ts.map fun t => Value.type (tyN t)) = some b → Q (.bl b) H1 → R x H1) : tE X E Φ a' σ H R := by
  obtain ⟨ρ, ex, ws, aσ, ah, S, P⟩ := hq
  simp only [evE, Post.bind] at P
  refine ⟨ρ, ex, ws, aσ, ah, S, P.imp (fun x h1 P ρ1 H1 v1 a1 hp1 r1 => ?_) (fun _ _ k => k)⟩
  obtain ⟨v, e, P⟩ := P.lift
  obtain ⟨k, e', rfl⟩ := Option.map_eq_some_iff.mp e
  obtain ⟨n, en⟩ := hasTys_avN hn e'
  exact hR v1 H1 n k (r1.ty en) (hasTys_kit en e') (((show Kok X ρ ex H Q _ h1 from P).ext a1).here hp1 (.bl _))
theorem snd_isi1 {t : Ty} {x : Str} {p p2 : Pos} (hgi : Gl X "isinstance") (hmi : X.mg "isinstance" = none) (ht : PE X (.Name x p2) (tC (.ty (tyN t)))) (ha : PE X a (tE X E Φ a')) (hst : starEach [a, .Name x p2] X.env = (false, eval a X.env) :: starEach [.Name x p2] X.env) :
    PE X (.Call (.Name "isinstance" p) [a, .Name x p2] [] pos) (tE X E Φ (.isi a' [t])) := by
  refine ⟨fun pins s σ H Q I hq => (pe_callB call_isi hgi hmi PyProof.Rows.boot_isinstance (pa_cons ha (pa_cons ht pa_nil) hst) (by decide) (by decide) hst).run pins s σ H Q I ?_⟩
  exact isi_read (by simp) hq fun x H1 n b ty k q => ⟨x, _, _, _, b, rfl, .ty _, ty, kitAny_one k, q⟩
theorem paired_tys : ∀ ts : List Ty, Paired ClsV (ts.map fun t => V.ty (tyN t)) (ts.map fun t => Value.type (tyN t))
  | [] => .nil
  | _ :: ts => .cons (.ty _) (paired_tys ts)
theorem snd_isiT {ts : List Ty} {p p2 : Pos} {k : Nat} (hgi : Gl X "isinstance") (hmi : X.mg "isinstance" = none) (hz : ts.length ≤ sizeLine) (hn : ts ≠ []) (ht : PA X es (fun _ H Q => Q (ts.map fun t => V.ty (tyN t)) H)) (ha : PE X a (tE X E Φ a')) (hst : starEach [a, .Tuple es k p2] X.env = (false, eval a X.env) :: starEach [.Tuple es k p2] X.env) :
    PE X (.Call (.Name "isinstance" p) [a, .Tuple es k p2] [] pos) (tE X E Φ (.isi a' ts)) := by
  refine ⟨fun pins s σ H Q I hq => (pe_callB call_isiT hgi hmi PyProof.Rows.boot_isinstance (pa_cons ha (pa_cons (pe_tup ht) pa_nil) hst) (by decide) (by decide) hst).run pins s σ H Q I ?_⟩
  obtain ⟨ρ, ex, ws, aσ, ah, S, P⟩ := hq
  simp only [evE, Post.bind] at P
  refine ⟨ρ, ex, ws, aσ, ah, S, P.imp (fun x h1 P ρ1 H1 v1 a1 hp1 r1 => ?_) (fun _ _ k => k)⟩
  obtain ⟨v, e, P⟩ := P.lift
  obtain ⟨k, e', rfl⟩ := Option.map_eq_some_iff.mp e
  obtain ⟨n, en⟩ := hasTys_avN hn e'
  refine ⟨by rw [List.length_map]; exact hz, fun p np => ?_⟩
  have a2 := ext_new (X := X) (o := .tup (ts.map fun t => V.ty (tyN t))) hp1 np
  exact ⟨v1, p, _, _, _, k, rfl, upd_same, paired_tys ts, (r1.step a2.step).ty en, hasTys_kit en e', ((show Kok X ρ ex H Q _ h1 from P).ext (a1.trans a2)).here (hrel_new hp1 np) (.bl _)⟩
end
section
variable {X : Cx} {E : XK} {Φ : CallA} {pos : Pos} {a b c e : Expr} {a' b' c' e' : Exp} {es : List Expr} {es' : List Exp} {t t1 t2 : Tst}
/-! ### built-ins -/
theorem opBi_noex {f : Bi} {vs : List AV} {h h' : AH} {x : Exn} : opBi f vs h ≠ .ex x h' := by
  intro e
  unfold opBi at e
  split at e
  all_goals first
    | cases e
    | (split at e <;> cases e)
    | (simp only [lift] at e; split at e <;> first | cases e | (simp at e; done) | skip)
theorem bi_post {f : Bi} {vs : List AV} {h : AH} {ρ ρ' : List Addr} {ex : Addr → Prop} {H H' : Hp} {Q : VK} (P : Post (opBi f vs h) (Kok X ρ ex H Q) (ExC X E ρ ex H)) (a : Ext ρ H ρ' H') : Post (opBi f vs h) (Kok X ρ' ex H' Q) noX := by
  cases e : opBi f vs h with
  | ok v h1 => rw [e] at P; exact Kok.ext P a
  | ex x h1 => exact absurd e opBi_noex
  | no => rw [e] at P; exact P
theorem snd_biB {f : Bi} {id : String} {x : Str} {p : Pos} (hk : Ok X) (hf : biId f = .builtin id) (hg : Gl X x) (hm : X.mg x = none) (hv : bootBuiltins x = some (.builtin id)) (hn : x ≠ "__name__") (hdb : (x == ("__debug__" : Str)) = false) (ha : PA X (a :: es) (tPs X E Φ es'))
    (he : starEach (a :: es) X.env = (false, eval a X.env) :: starEach es X.env) (hpl : (backTo pos (starEach es X.env)).any (·.1) = false) : PE X (.Call (.Name x p) (a :: es) [] pos) (tE X E Φ (.bi f es')) := by
  have hc := op_Bi X f hk.calm hk.un hk.gd hk.sm
  rw [hf] at hc
  refine ⟨fun pins s σ H Q I hq => (pe_callB hc hg hm hv ha hn hdb he hpl).run pins s σ H Q I ?_⟩
  obtain ⟨ρ, ex, ws, aσ, ah, S, P⟩ := hq
  simp only [evE, Post.bind] at P
  refine ⟨ρ, ex, ws, aσ, ah, S, P.imp (fun xs h1 P ρ1 H1 vs a1 hp1 r1 => ?_) (fun _ _ k => k)⟩
  refine ⟨ρ1, ex, h1, xs, hp1, r1, ?_⟩
  exact bi_post P a1
theorem snd_biT {f : Bi} {id : String} {x : Str} {p : Pos} (hk : Ok X) (hf : biId f = .type id) (hg : Gl X x) (hm : X.mg x = none) (hv : bootBuiltins x = some (.type id)) (hn : x ≠ "__name__") (hdb : (x == ("__debug__" : Str)) = false) (ha : PA X (a :: es) (tPs X E Φ es'))
    (he : starEach (a :: es) X.env = (false, eval a X.env) :: starEach es X.env) (hpl : (backTo pos (starEach es X.env)).any (·.1) = false) : PE X (.Call (.Name x p) (a :: es) [] pos) (tE X E Φ (.bi f es')) := by
  have hc := op_Bi X f hk.calm hk.un hk.gd hk.sm
  rw [hf] at hc
  refine ⟨fun pins s σ H Q I hq => (pe_callTy hc hg hm hv ha hn hdb he hpl).run pins s σ H Q I ?_⟩
  obtain ⟨ρ, ex, ws, aσ, ah, S, P⟩ := hq
  simp only [evE, Post.bind] at P
  refine ⟨ρ, ex, ws, aσ, ah, S, P.imp (fun xs h1 P ρ1 H1 vs a1 hp1 r1 => ?_) (fun _ _ k => k)⟩
  refine ⟨ρ1, ex, h1, xs, hp1, r1, ?_⟩
  exact bi_post P a1

theorem opBiD_noex {f : Bi} {x d : AV} {h h' : AH} {y : Exn} : opBiD f x d h ≠ .ex y h' := by
  intro e
  unfold opBiD at e
  split at e <;> cases e
theorem snd_biD {f : Bi} {id : String} {x : Str} {p : Pos} {kw : Keyword} {d' : Exp} (hk : Ok X) (hf : biId f = .builtin id) (hg : Gl X x) (hm : X.mg x = none) (hv : bootBuiltins x = some (.builtin id)) (hn : x ≠ "__name__") (hdb : (x == ("__debug__" : Str)) = false) (ha : PE X a (tP X E Φ a')) (hd : PE X kw.value (tE X E Φ d')) (hka : kw.arg = some "default")
    (he : starEach [a] X.env = (false, eval a X.env) :: starEach [] X.env) : PE X (.Call (.Name x p) [a] [kw] pos) (tE X E Φ (.biD f a' d')) := by
  obtain ⟨nm, ke, kp⟩ := kw
  cases hka
  refine ⟨fun pins s σ H Q I hq => (pe_callBK (op_BiD X f hf hk.calm hk.un) hg hm hv (pa_cons ha pa_nil he) (pk_cons hd pk_nil) hn hdb (by rw [he]; rfl) (by rw [he]; rfl) rfl rfl rfl).run pins s σ H Q I ?_⟩
  obtain ⟨ρ, ex, ws, aσ, ah, S, P⟩ := hq
  simp only [evE, Post.bind] at P
  refine ⟨ρ, ex, ws, aσ, ah, S, P.imp (fun x h1 P ρ1 H1 v1 a1 hp1 r1 => ?_) (fun _ _ k => k)⟩
  refine ⟨ρ1, ex, ws, aσ, h1, S.ext a1 hp1, P.imp (fun y h2 P ρ2 H2 v2 a2 hp2 r2 => ?_) (fun _ _ k => k.ext a1)⟩
  refine ⟨ρ2, ex, h2, x, y, v1, v2, rfl, rfl, hp2, r1.step a2, r2, ?_⟩
  cases e : opBiD f x y h2 with
  | ok v h1 => rw [e] at P; exact Kok.ext P (a1.trans a2)
  | ex x h1 => exact absurd e opBiD_noex
  | no => rw [e] at P; exact P
theorem evEs_len' {σ : ASt} : ∀ {es : List Exp} {h h' : AH} {xs : List AV}, evEs Φ es σ h = .ok xs h' → xs.length = es.length
  | [], _, _, _, e => by simp only [evEs] at e; cases e; rfl
  | e0 :: es, _, _, _, e => by
    simp only [evEs] at e
    obtain ⟨x, h1, e1, e⟩ := Rs.bind_inv e
    obtain ⟨ys, h2, e2, e⟩ := Rs.bind_inv e
    cases e
    simp [evEs_len' e2]
theorem evEs_len {σ : ASt} {es : List Exp} {h : AH} {k : List AV → AH → Prop} {x : Exn → AH → Prop} (P : Post (evEs Φ es σ h) k x) : Post (evEs Φ es σ h) (fun xs h => xs.length = es.length ∧ k xs h) x := by
  cases e : evEs Φ es σ h with
  | ok xs h1 => rw [e] at P; exact ⟨evEs_len' e, P⟩
  | ex _ _ => rw [e] at P; exact P
  | no => rw [e] at P; exact P
theorem opBi_list {v : AV} {h : AH} : opBi .list [v] h = lift ((items h v).map .lst) h := by cases v <;> rfl
theorem opBi_listP : ∀ {xs : List AV} {h : AH} {k : AV → AH → Prop} {x : Exn → AH → Prop}, Post (opBi .list xs h) k x → ∃ v ys, xs = [v] ∧ items h v = some ys ∧ k (.lst ys) h
  | [], _, _, _, P => P.elim
  | [v], h, _, _, P => by
    rw [opBi_list] at P
    obtain ⟨w, e, P⟩ := P.lift
    obtain ⟨ys, e0, rfl⟩ := Option.map_eq_some_iff.mp e
    exact ⟨v, ys, rfl, e0, P⟩
  | _ :: _ :: _, _, _, _, P => by
    unfold opBi at P
    split at P <;> first | exact P.elim | (rename_i h; cases h; done) | (exfalso; simp_all; done)
/-! ### list(e): a list of one's own -/
theorem sl_list {x : Str} {p : Pos} (hx : x = "list") (hk : Ok X) (hg : Gl X x) (hm : X.mg x = none) (hv : bootBuiltins x = some (.type "list")) (hn : x ≠ "__name__") (hdb : (x == ("__debug__" : Str)) = false) (ha : PA X [a] (tPs X E Φ [a']))
    (he : starEach [a] X.env = (false, eval a X.env) :: starEach [] X.env) : PE X (.Call (.Name x p) [a] [] pos) (tL X E Φ (.bi .list [a'])) := by
  refine ⟨fun pins s σ H Q I hq => (pe_callTy call_list_of hg hm hv ha hn hdb he rfl).run pins s σ H Q I ?_⟩
  obtain ⟨ρ, ex, ws, aσ, ah, S, P⟩ := hq
  simp only [evE, Post.bind] at P
  refine ⟨ρ, ex, ws, aσ, ah, S, P.imp (fun xs h1 P ρ1 H1 vs a1 hp1 r1 => ?_) (fun _ _ k => k)⟩
  obtain ⟨v, ys, rfl, e0, P⟩ := opBi_listP P
  cases r1 with
  | cons r1 rs =>
    cases rs
    obtain ⟨q, ws', rfl, sq, rr⟩ := items_sq hp1 r1 e0
    exact ⟨q, ws', rfl, sq, fun p np => (show KoL X ρ ex H Q (.lst ys) _ from P).new a1 hp1 (fun b m => S.hp.ne m) rr p np⟩

/-! ### calls of the module's own defs -/
/-- the promise of a def: what the small language's def comes to -/
def spG (K : PySem.W.Frag) (mg : Str → Option Value) (Wr : XK → Prop) (Φ : CallA) (f : Str) (n : Nat) : Sp := fun vs H Q E => vs.length = n ∧ Wr E ∧ ∃ ρ ex ah avs, HRel K mg ρ ex ah H ∧ Reps K mg ρ ex H avs vs ∧
  Post (Φ f avs ah) (fun v ah' => ∀ ρ' H' v', Ext ρ H ρ' H' → HRel K mg ρ' ex ah' H' → Rep K mg ρ' ex H' v v' → Q v' H') (fun x ah' => ∀ ρ' H' c d, Ext ρ H ρ' H' → HRel K mg ρ' ex ah' H' → XRel K mg ρ' ex H' x c d → E c d H')
theorem evEs_consts {σ : ASt} {h : AH} : ∀ cs : List AV, evEs Φ (cs.map .c) σ h = .ok cs h
  | [] => rfl
  | c :: cs => by
    simp only [List.map_cons, evEs, evE, Rs.bind_ok, evEs_consts cs]
theorem evEs_append' {σ : ASt} : ∀ {as bs : List Exp} {h : AH}, evEs Φ (as ++ bs) σ h = (evEs Φ as σ h).bind fun xs h => (evEs Φ bs σ h).bind fun ys h => .ok (xs ++ ys) h
  | [], bs, h => by
    simp only [evEs, List.nil_append, Rs.bind_ok]
    cases evEs Φ bs σ h <;> rfl
  | a :: as, bs, h => by
    simp only [evEs, List.cons_append]
    cases evE Φ a σ h with
    | ok x h1 =>
      simp only [Rs.bind_ok]
      rw [evEs_append']
      cases evEs Φ as σ h1 with
      | ok xs h2 =>
        simp only [Rs.bind_ok]
        cases evEs Φ bs σ h2 <;> rfl
      | ex _ _ => rfl
      | no => rfl
    | ex _ _ => rfl
    | no => rfl
theorem snd_call {CX : CXT} {k : Nat} {f : Addr} {fd : FuncData} {ps : List Str} {x key : Str} {p : Pos} {n : Nat} {Wr : XK → Prop} {cs : List AV} {dvs : List V} {dls : List Value} (ok : Ok X) (F : FnG X.prog X.w X.K X.mg X.base CX k f fd ps (spG X.K X.mg Wr Φ key n)) (hw : Wr E) (hr : Room k X.A) (hg : Gl X x) (hm : X.mg x = some (.ref f)) (hk : PySem.W.keepIn X.K (.ref f) = true) (hb : Binds X.K fd ps dls) (hdv : Vals dvs dls) (hcs : ∀ ρ ex H, Reps X.K X.mg ρ ex H cs dvs) (hx : Passes CX X E)
    (ha : PA X (a :: es) (tEs X E Φ es')) (hl : (a :: es).length + cs.length = n) (hl' : es'.length = (a :: es).length) (hdb : (x == ("__debug__" : Str)) = false) (he : starEach (a :: es) X.env = (false, eval a X.env) :: starEach es X.env) (hpl : (backTo pos (starEach es X.env)).any (·.1) = false) :
    PE X (.Call (.Name x p) (a :: es) [] pos) (tE X E Φ (.call key (es' ++ cs.map .c))) := by
  refine ⟨fun pins s σ H Q I hq => (pe_callG F hr ok.gd hg hm hk hb hdv hx ha hdb he hpl).run pins s σ H Q I ?_⟩
  obtain ⟨ρ, ex, ws, aσ, ah, S, P⟩ := hq
  simp only [evE, evEs_append', evEs_consts, Post.bind] at P
  refine ⟨ρ, ex, ws, aσ, ah, S, (evEs_len P).imp (fun xs h1 ⟨el, P⟩ ρ1 H1 vs a1 hp1 r1 => ?_) (fun _ _ k => k)⟩
  have P : Post (Φ key (xs ++ cs) h1) (Kok X ρ ex H Q) (ExC X E ρ ex H) := P
  refine ⟨by rw [List.length_append, ← r1.length, ← (hcs ρ1 ex H1).length, el, hl', hl], hw, ρ1, ex, h1, xs ++ cs, hp1, r1.append (hcs _ _ _), P.imp (fun v h2 k ρ2 H2 v2 a2 hp2 r2 => k ρ2 H2 v2 (a1.trans a2) hp2 r2) (fun x h2 k ρ2 H2 c d a2 hp2 r2 => k ρ2 H2 c d (a1.trans a2) hp2 r2)⟩
theorem snd_call0 {CX : CXT} {k : Nat} {f : Addr} {fd : FuncData} {ps : List Str} {x key : Str} {p : Pos} {Wr : XK → Prop} {cs : List AV} {dvs : List V} {dls : List Value} (ok : Ok X) (F : FnG X.prog X.w X.K X.mg X.base CX k f fd ps (spG X.K X.mg Wr Φ key cs.length)) (hw : Wr E) (hr : Room k X.A) (hg : Gl X x) (hm : X.mg x = some (.ref f)) (hk : PySem.W.keepIn X.K (.ref f) = true) (hb : Binds X.K fd ps dls) (hdv : Vals dvs dls) (hcs : ∀ ρ ex H, Reps X.K X.mg ρ ex H cs dvs) (hx : Passes CX X E)
    (hdb : (x == ("__debug__" : Str)) = false) : PE X (.Call (.Name x p) [] [] pos) (tE X E Φ (.call key (cs.map .c))) := by
  refine ⟨fun pins s σ H Q I hq => (pe_callG0 F hr ok.gd hg hm hk hb hdv hx hdb).run pins s σ H Q I ?_⟩
  obtain ⟨ρ, ex, ws, aσ, ah, S, P⟩ := hq
  simp only [evE, evEs_consts, Rs.bind_ok] at P
  exact ⟨((hcs ρ ex H).length).symm, hw, ρ, ex, ah, cs, S.hp, hcs _ _ _, P.imp (fun v h2 k ρ2 H2 v2 a2 hp2 r2 => k ρ2 H2 v2 a2 hp2 r2) (fun x h2 k ρ2 H2 c d a2 hp2 r2 => k ρ2 H2 c d a2 hp2 r2)⟩
/-! ### by keywords -/
structure Sh where
  n : Nat
  ks : List Str
  ix : List Nat
def shG (sh : Sh) (us ws : List Value) : List Value := sh.ix.map fun i => (us ++ ws).getD i .none
def shV (sh : Sh) (vs zs : List V) : List V := sh.ix.map fun i => (vs ++ zs).getD i .non
theorem Vals.getD : ∀ {vs : List V} {us : List Value} (i : Nat), Vals vs us → RelV (vs.getD i .non) (us.getD i .none)
  | _, _, _, .nil => by simp only [List.getD_nil]; rfl
  | _, _, 0, .cons r _ => by simpa using r
  | _, _, i + 1, .cons _ rs => by simpa using Vals.getD i rs
theorem shV_rel (sh : Sh) {vs : List V} {us : List Value} {zs : List V} {ws : List Value} (r : Vals vs us) (r' : Vals zs ws) : Vals (shV sh vs zs) (shG sh us ws) := by
  unfold shV shG
  induction sh.ix with
  | nil => exact .nil
  | cons i is ih => exact .cons (Vals.getD i (r.append r')) ih
theorem Reps.getD {K : PySem.W.Frag} {mg : Str → Option Value} {ρ : List Addr} {ex : Addr → Prop} {H : Hp} : ∀ {xs : List AV} {vs : List V} (i : Nat), Reps K mg ρ ex H xs vs → Rep K mg ρ ex H (xs.getD i .non) (vs.getD i .non)
  | _, _, _, .nil => by simp only [List.getD_nil]; exact .non
  | _, _, 0, .cons r _ => by simpa using r
  | _, _, i + 1, .cons _ rs => by simpa using Reps.getD i rs
theorem Reps.pick {K : PySem.W.Frag} {mg : Str → Option Value} {ρ : List Addr} {ex : Addr → Prop} {H : Hp} {xs : List AV} {vs : List V} (r : Reps K mg ρ ex H xs vs) : ∀ ix : List Nat, Reps K mg ρ ex H (ix.map fun i => xs.getD i .non) (ix.map fun i => vs.getD i .non)
  | [] => .nil
  | i :: ix => .cons (r.getD i) (Reps.pick r ix)
/-- the keywords' values, one by one -/
inductive KwsOk (X : Cx) (E : XK) (Φ : CallA) : List Exp → List Keyword → Prop
  | nil : KwsOk X E Φ [] []
  | cons {a' : Exp} {as : List Exp} {nm : Option Str} {e : Expr} {p : Pos} {kws : List Keyword} : PE X e (tE X E Φ a') → KwsOk X E Φ as kws → KwsOk X E Φ (a' :: as) (⟨nm, e, p⟩ :: kws)
theorem pk_kws {as : List Exp} {kws : List Keyword} (h : KwsOk X E Φ as kws) : PK X kws (tEs X E Φ as) := by
  induction h with
  | nil =>
    refine ⟨fun pos pins s σ H Q I hq => pk_nil.run pos pins s σ H Q I ?_⟩
    obtain ⟨ρ, ex, ws, aσ, ah, S, P⟩ := hq
    exact (show KoAs X ρ ex H Q [] ah from P) ρ H [] .refl S.hp .nil
  | cons ha _ ih =>
    refine ⟨fun pos pins s σ H Q I hq => (pk_cons ha ih).run pos pins s σ H Q I ?_⟩
    obtain ⟨ρ, ex, ws, aσ, ah, S, P⟩ := hq
    simp only [evEs, Post.bind] at P
    refine ⟨ρ, ex, ws, aσ, ah, S, P.imp (fun x h1 P ρ1 H1 v1 a1 hp1 r1 => ?_) (fun _ _ k => k)⟩
    refine ⟨ρ1, ex, ws, aσ, h1, S.ext a1 hp1, P.imp (fun ys h2 P ρ2 H2 v2 a2 hp2 r2 => ?_) (fun _ _ k => k.ext a1)⟩
    exact (show KoAs X ρ ex H Q (x :: ys) h2 from P) ρ2 H2 _ (a1.trans a2) hp2 (.cons (r1.step a2.step) r2)
theorem evEs_append {σ : ASt} : ∀ {as bs : List Exp} {h : AH}, evEs Φ (as ++ bs) σ h = (evEs Φ as σ h).bind fun xs h => (evEs Φ bs σ h).bind fun ys h => .ok (xs ++ ys) h
  | [], bs, h => by
    simp only [evEs, List.nil_append, Rs.bind_ok]
    cases evEs Φ bs σ h <;> rfl
  | a :: as, bs, h => by
    simp only [evEs, List.cons_append]
    cases evE Φ a σ h with
    | ok x h1 =>
      simp only [Rs.bind_ok]
      rw [evEs_append]
      cases evEs Φ as σ h1 with
      | ok xs h2 =>
        simp only [Rs.bind_ok]
        cases evEs Φ bs σ h2 <;> rfl
      | ex _ _ => rfl
      | no => rfl
    | ex _ _ => rfl
    | no => rfl
theorem kws_all {pos : Pos} {env : Env} : ∀ {kws : List Keyword}, kws.all (fun k => k.arg.isSome) = true → (backToKw pos (keywordEach kws env)).all (·.1.isSome) = true ∧ (backToKw pos (keywordEach kws env)).any (·.1.isNone) = false
  | [], _ => ⟨rfl, rfl⟩
  | ⟨nm, e, p⟩ :: kws, h => by
    rw [List.all_cons, Bool.and_eq_true] at h
    obtain ⟨h1, h2⟩ := kws_all (pos := pos) (env := env) h.2
    have h3 : nm.isSome = true := h.1
    constructor
    · show (nm.isSome && (backToKw pos (keywordEach kws env)).all (·.1.isSome)) = true
      rw [h3, h1]; rfl
    · show (nm.isNone || (backToKw pos (keywordEach kws env)).any (·.1.isNone)) = false
      rw [h2]
      cases nm with
      | none => cases h3
      | some _ => rfl
theorem kws_names {pos : Pos} {env : Env} : ∀ {kws : List Keyword}, (backToKw pos (keywordEach kws env)).filterMap (·.1) = kws.filterMap (·.arg)
  | [] => rfl
  | ⟨nm, e, p⟩ :: kws => by
    have ih := kws_names (pos := pos) (env := env) (kws := kws)
    cases nm with
    | none => exact ih
    | some n =>
      show n :: (backToKw pos (keywordEach kws env)).filterMap (·.1) = n :: kws.filterMap (·.arg)
      rw [ih]
variable {kws : List Keyword} {as bs : List Exp}
theorem callK_read {CX : CXT} {key : Str} {n : Nat} {Wr : XK → Prop} {sh : Sh} (hw : Wr E) (hn : as.length = sh.n) (hb : bs.length = sh.ks.length) (hix : sh.ix.length = n) {σ : L2.St} {H : Hp} {Q : VK} (hq : tE X E Φ (.callK key (as ++ bs) sh.ix) σ H Q) :
    tCallN sh.n sh.ks.length (spG X.K X.mg Wr Φ key n) (shV sh) E (tEs X E Φ as) (tEs X E Φ bs) σ H Q := by
  obtain ⟨ρ, ex, ws, aσ, ah, S, P⟩ := hq
  simp only [evE, Post.bind, evEs_append] at P
  refine ⟨ρ, ex, ws, aσ, ah, S, (evEs_len P).imp (fun xs h1 ⟨el, P⟩ ρ1 H1 vs a1 hp1 r1 => ?_) (fun _ _ k => k)⟩
  refine ⟨ρ1, ex, ws, aσ, h1, S.ext a1 hp1, (evEs_len P).imp (fun ys h2 ⟨el2, P⟩ ρ2 H2 zs a2 hp2 r2 => ?_) (fun _ _ k => k.ext a1)⟩
  have rr := (r1.step a2.step).append r2
  refine ⟨by rw [← r1.length, el, hn], by rw [← r2.length, el2, hb], by unfold shV; rw [List.length_map, hix], hw, ρ2, ex, h2, _, hp2, rr.pick sh.ix, ?_⟩
  have P' : Post (Φ key (sh.ix.map fun i => (xs ++ ys).getD i .non) h2) (Kok X ρ ex H Q) (ExC X E ρ ex H) := P
  exact P'.imp (fun v h3 k ρ3 H3 v3 a3 hp3 r3 => k ρ3 H3 v3 ((a1.trans a2).trans a3) hp3 r3) (fun x h3 k ρ3 H3 c d a3 hp3 r3 => k ρ3 H3 c d ((a1.trans a2).trans a3) hp3 r3)
theorem snd_callK {CX : CXT} {k : Nat} {f : Addr} {fd : FuncData} {ps : List Str} {x key : Str} {p : Pos} {n : Nat} {Wr : XK → Prop} {sh : Sh} (ok : Ok X) (F : FnG X.prog X.w X.K X.mg X.base CX k f fd ps (spG X.K X.mg Wr Φ key n)) (hw : Wr E) (hr : Room k X.A) (hg : Gl X x) (hm : X.mg x = some (.ref f)) (hk : PySem.W.keepIn X.K (.ref f) = true)
    (hb : KBn X.K fd ps sh.n sh.ks (shG sh) (shV sh)) (hx : Passes CX X E) (ha : PA X (a :: es) (tEs X E Φ as)) (hkw : KwsOk X E Φ bs kws) (hall : kws.all (fun k => k.arg.isSome) = true) (hks : kws.filterMap (·.arg) = sh.ks) (hn : as.length = sh.n) (hbl : bs.length = sh.ks.length) (hix : sh.ix.length = n)
    (hdb : (x == ("__debug__" : Str)) = false) (he : starEach (a :: es) X.env = (false, eval a X.env) :: starEach es X.env) (hpl : (backTo pos (starEach (a :: es) X.env)).any (·.1) = false) :
    PE X (.Call (.Name x p) (a :: es) kws pos) (tE X E Φ (.callK key (as ++ bs) sh.ix)) :=
  ⟨fun pins s σ H Q I hq => (pe_callGK F hr ok.gd hg hm hk hb hx ha (pk_kws hkw) (kws_all hall).1 (kws_names.trans hks) hdb he (by rw [hpl, (kws_all hall).2]; rfl)).run pins s σ H Q I (callK_read (CX := CX) hw hn hbl hix hq)⟩
theorem snd_callK0 {CX : CXT} {k : Nat} {f : Addr} {fd : FuncData} {ps : List Str} {x key : Str} {p : Pos} {n : Nat} {Wr : XK → Prop} {sh : Sh} (ok : Ok X) (F : FnG X.prog X.w X.K X.mg X.base CX k f fd ps (spG X.K X.mg Wr Φ key n)) (hw : Wr E) (hr : Room k X.A) (hg : Gl X x) (hm : X.mg x = some (.ref f)) (hk : PySem.W.keepIn X.K (.ref f) = true)
    (hb : KBn X.K fd ps sh.n sh.ks (shG sh) (shV sh)) (h0 : sh.n = 0) (hx : Passes CX X E) (hkw : KwsOk X E Φ bs kws) (hne : kws ≠ []) (hall : kws.all (fun k => k.arg.isSome) = true) (hks : kws.filterMap (·.arg) = sh.ks) (hbl : bs.length = sh.ks.length) (hix : sh.ix.length = n) (hdb : (x == ("__debug__" : Str)) = false) :
    PE X (.Call (.Name x p) [] kws pos) (tE X E Φ (.callK key bs sh.ix)) := by
  refine ⟨fun pins s σ H Q I hq => ?_⟩
  have hb' := hb
  rw [h0] at hb'
  refine (pe_callGK0 F hr ok.gd hg hm hk hb' hx (pk_kws hkw) hne (kws_all hall).1 (kws_names.trans hks) hdb (kws_all hall).2).run pins s σ H Q I ?_
  have hq' : tE X E Φ (.callK key ([] ++ bs) sh.ix) σ H Q := hq
  obtain ⟨ρ, ex, ws, aσ, ah, S, P⟩ := hq'
  simp only [evE, Post.bind, List.nil_append] at P
  refine ⟨ρ, ex, ws, aσ, ah, S, (evEs_len P).imp (fun ys h2 ⟨el2, P⟩ ρ2 H2 zs a2 hp2 r2 => ?_) (fun _ _ k => k)⟩
  refine ⟨rfl, by rw [← r2.length, el2, hbl], by unfold shV; rw [List.length_map, hix], hw, ρ2, ex, h2, _, hp2, r2.pick sh.ix, ?_⟩
  have P' : Post (Φ key (sh.ix.map fun i => ys.getD i .non) h2) (Kok X ρ ex H Q) (ExC X E ρ ex H) := P
  exact P'.imp (fun v h3 k ρ3 H3 v3 a3 hp3 r3 => k ρ3 H3 v3 (a2.trans a3) hp3 r3) (fun x h3 k ρ3 H3 c d a3 hp3 r3 => k ρ3 H3 c d (a2.trans a3) hp3 r3)
end
end G

set_option Elab.async false
set_option linter.all false
set_option maxRecDepth 100000
set_option maxHeartbeats 4000000
/-! GJ: statements. -/
namespace G
open PySem PySem.Spec PyProof.Rows L2

/-- within a def's body, against its entry -/
structure SR (X : Cx) (ρ0 : List Addr) (ex0 : Addr → Prop) (H0 : Hp) (ρ : List Addr) (ex : Addr → Prop) (ws : List (Option Addr)) (aσ : ASt) (ah : AH) (σ : L2.St) (H : Hp) : Prop where
  st : StRel X.K X.mg ρ ex ws aσ ah σ H
  ext : Ext ρ0 H0 ρ H
  exL : ∀ a, ex0 a → ex a
  own0 : ∀ (i : Nat) (a : Addr), ws[i]? = some (some a) → H0 a = none
  in0 : ∀ a ∈ ρ0, H0 a ≠ none
  ex00 : ∀ a, ex0 a → H0 a ≠ none
def FlC (X : Cx) (ρ0 : List Addr) (ex0 : Addr → Prop) (H0 : Hp) (ρ : List Addr) (ex : Addr → Prop) (H : Hp) (D : Ends) (f : Fl) (ah' : AH) : Prop := match f with
  | .nx aσ' => ∀ ρ' ex' ws' σ' H', SR X ρ0 ex0 H0 ρ' ex' ws' aσ' ah' σ' H' → Stp ρ ex H ρ' ex' H' → D.nx σ' H'
  | .bk aσ' => ∀ ρ' ex' ws' σ' H', SR X ρ0 ex0 H0 ρ' ex' ws' aσ' ah' σ' H' → Stp ρ ex H ρ' ex' H' → D.bk σ' H'
  | .ct aσ' => ∀ ρ' ex' ws' σ' H', SR X ρ0 ex0 H0 ρ' ex' ws' aσ' ah' σ' H' → Stp ρ ex H ρ' ex' H' → D.ct σ' H'
  | .rt v => ∀ ρ' H' v', Ext ρ0 H0 ρ' H' → HRel X.K X.mg ρ' ex0 ah' H' → Rep X.K X.mg ρ' ex0 H' v v' → D.rt v' H'
def tS (X : Cx) (E : XK) (Φ : CallA) (s : Stm) : TS := fun D σ H => ∃ ρ0 ex0 H0 ρ ex ws aσ ah, SR X ρ0 ex0 H0 ρ ex ws aσ ah σ H ∧ Post (evS Φ s aσ ah) (FlC X ρ0 ex0 H0 ρ ex H D) (ExC X E ρ0 ex0 H0)
def tSs (X : Cx) (E : XK) (Φ : CallA) (s : List Stm) : TS := fun D σ H => ∃ ρ0 ex0 H0 ρ ex ws aσ ah, SR X ρ0 ex0 H0 ρ ex ws aσ ah σ H ∧ Post (evSs Φ s aσ ah) (FlC X ρ0 ex0 H0 ρ ex H D) (ExC X E ρ0 ex0 H0)

section
variable {X : Cx} {E : XK} {Φ : CallA} {ρ0 ρ ρ' : List Addr} {ex0 ex ex' : Addr → Prop} {H0 H H' : Hp} {ws : List (Option Addr)} {aσ : ASt} {ah ah' : AH} {σ : L2.St} {pos : Pos} {st : Stmt} {rest : List Stmt} {e : Expr} {e' : Exp} {i : Nat}
theorem SR.go (R : SR X ρ0 ex0 H0 ρ ex ws aσ ah σ H) (a : Ext ρ H ρ' H') (hp : HRel X.K X.mg ρ' ex ah' H') : SR X ρ0 ex0 H0 ρ' ex ws aσ ah' σ H' :=
  ⟨R.st.ext a hp, R.ext.trans a, R.exL, R.own0, R.in0, R.ex00⟩
theorem XRel.less {x : Exn} {c : Value} {d : Option Addr} (h : XRel X.K X.mg ρ ex H x c d) (hl : ∀ b, ex' b → ex b) : XRel X.K X.mg ρ ex' H x c d := by
  obtain ⟨C, h1, h2, h3⟩ := h
  refine ⟨C, h1, h2, ?_⟩
  rcases h3 with h3 | ⟨dx, gs, h3, h4, h5, h6⟩
  · exact .inl h3
  · exact .inr ⟨dx, gs, h3, h4, h5, h6.step (.less hl)⟩
theorem SR.exc (R : SR X ρ0 ex0 H0 ρ ex ws aσ ah σ H) {x : Exn} (k : ExC X E ρ0 ex0 H0 x ah') : ExC X E ρ ex H x ah' := fun ρ' H' c d a hp r => k ρ' H' c d (R.ext.trans a) (hp.less R.exL) (r.less R.exL)
theorem SR.none0 (R : SR X ρ0 ex0 H0 ρ ex ws aσ ah σ H) {p : Addr} (np : H p = none) : H0 p = none := by
  cases z : H0 p with
  | none => rfl
  | some u =>
    by_cases m : p ∈ ρ0
    · exact absurd np (R.st.hp.ne (R.ext.sub m))
    · rw [R.ext.keep p u z m] at np; cases np
theorem SR.set (R : SR X ρ0 ex0 H0 ρ ex ws aσ ah σ H) {x : AV} {v : V} (r : Rep X.K X.mg ρ ex H x v) : SR X ρ0 ex0 H0 ρ ex ws (aσ.set i (.vl x)) ah (σ.set i (some v)) H :=
  ⟨R.st.set r, R.ext, R.exL, R.own0, R.in0, R.ex00⟩

/-! ### suites -/
theorem ss_nil : PSs X [] (tSs X E Φ []) := by
  refine ⟨fun pins s σ H D I hq => pss_nil.run pins s σ H D I ?_⟩
  obtain ⟨ρ0, ex0, H0, ρ, ex, ws, aσ, ah, R, P⟩ := hq
  exact (show FlC X ρ0 ex0 H0 ρ ex H D (.nx aσ) ah from P) ρ ex ws σ H R .refl
theorem FlC.start {f : Fl} {D : Ends} (h : FlC X ρ0 ex0 H0 ρ ex H D f ah') (a : Stp ρ ex H ρ' ex' H') : FlC X ρ0 ex0 H0 ρ' ex' H' D f ah' := by
  cases f with
  | nx σ => exact fun ρ2 ex2 ws2 σ2 H2 R b => h ρ2 ex2 ws2 σ2 H2 R (a.trans b)
  | bk σ => exact fun ρ2 ex2 ws2 σ2 H2 R b => h ρ2 ex2 ws2 σ2 H2 R (a.trans b)
  | ct σ => exact fun ρ2 ex2 ws2 σ2 H2 R b => h ρ2 ex2 ws2 σ2 H2 R (a.trans b)
  | rt v => exact h
theorem ss_cons {s' : Stm} {ss' : List Stm} (h1 : PS X st (tS X E Φ s')) (h2 : PSs X rest (tSs X E Φ ss')) : PSs X (st :: rest) (tSs X E Φ (s' :: ss')) := by
  refine ⟨fun pins s σ H D I hq => (pss_cons h1 h2).run pins s σ H D I ?_⟩
  obtain ⟨ρ0, ex0, H0, ρ, ex, ws, aσ, ah, R, P⟩ := hq
  simp only [evSs, Post.bind] at P
  refine ⟨ρ0, ex0, H0, ρ, ex, ws, aσ, ah, R, P.imp (fun f h1 P => ?_) (fun _ _ k => k)⟩
  cases f with
  | nx aσ1 => exact fun ρ1 ex1 ws1 σ1 H1 R1 a1 => ⟨ρ0, ex0, H0, ρ1, ex1, ws1, aσ1, h1, R1, P.imp (fun f h2 k => k.start a1) (fun _ _ k => k)⟩
  | bk aσ1 => exact P
  | ct aσ1 => exact P
  | rt v => exact P

/-! ### small ones -/
theorem s_pass (h : PS X st tNext) : PS X st (tS X E Φ .pass) := by
  refine ⟨fun pins s σ H D I hq => h.run pins s σ H D I ?_⟩
  obtain ⟨ρ0, ex0, H0, ρ, ex, ws, aσ, ah, R, P⟩ := hq
  exact (show FlC X ρ0 ex0 H0 ρ ex H D (.nx aσ) ah from P) ρ ex ws σ H R .refl
theorem s_brk : PS X (.Break pos) (tS X E Φ .brk) := by
  refine ⟨fun pins s σ H D I hq => ps_break.run pins s σ H D I ?_⟩
  obtain ⟨ρ0, ex0, H0, ρ, ex, ws, aσ, ah, R, P⟩ := hq
  exact (show FlC X ρ0 ex0 H0 ρ ex H D (.bk aσ) ah from P) ρ ex ws σ H R .refl
theorem s_cnt : PS X (.Continue pos) (tS X E Φ .cnt) := by
  refine ⟨fun pins s σ H D I hq => ps_continue.run pins s σ H D I ?_⟩
  obtain ⟨ρ0, ex0, H0, ρ, ex, ws, aσ, ah, R, P⟩ := hq
  exact (show FlC X ρ0 ex0 H0 ρ ex H D (.ct aσ) ah from P) ρ ex ws σ H R .refl
theorem s_never : PS X st (tS X E Φ .never) := by
  refine ⟨fun pins s σ H D I hq => ?_⟩
  obtain ⟨ρ0, ex0, H0, ρ, ex, ws, aσ, ah, R, P⟩ := hq
  exact P.elim
theorem s_expr (he : PE X e (tE X E Φ e')) (hs : swapsWith e none pos.line X.env = pure false) : PS X (.Expr e pos) (tS X E Φ (.expr e')) := by
  refine ⟨fun pins s σ H D I hq => (ps_expr he hs).run pins s σ H D I ?_⟩
  obtain ⟨ρ0, ex0, H0, ρ, ex, ws, aσ, ah, R, P⟩ := hq
  simp only [evS, Post.bind] at P
  exact ⟨ρ, ex, ws, aσ, ah, R.st, P.imp (fun v h1 P ρ1 H1 v1 a1 hp1 r1 => (show FlC X ρ0 ex0 H0 ρ ex H D (.nx aσ) h1 from P) ρ1 ex ws σ H1 (R.go a1 hp1) a1.step) (fun _ _ k => R.exc k)⟩
theorem tL_of_tE {σ : L2.St} {H : Hp} {Q : VK} (hq : tE X E Φ e' σ H Q) : tL X E Φ e' σ H Q := by
  obtain ⟨ρ, ex, ws, aσ, ah, S, P⟩ := hq
  refine ⟨ρ, ex, ws, aσ, ah, S, P.imp (fun v h k xs ev ρ' H' p vs a np hp e r => ?_) (fun _ _ k => k)⟩
  subst ev
  exact k ρ' H' _ a hp.unP (.lst e hp.notP (fun x => S.hp.exOk p x np) (r.step .unP))
theorem tL_of_cell {σ : L2.St} {H : Hp} {Q : VK} (hq : tE X E Φ (.cell e') σ H Q) : tL X E Φ e' σ H Q := by
  obtain ⟨ρ, ex, ws, aσ, ah, S, P⟩ := hq
  simp only [evE, Post.bind] at P
  refine ⟨ρ, ex, ws, aσ, ah, S, P.imp (fun v h k xs ev ρ' H' p vs a np hp e r => ?_) (fun _ _ k => k)⟩
  subst ev
  have nx : ¬ ex p := fun x => S.hp.exOk p x np
  exact (show Kok X ρ ex H Q (.ref h.length) (h ++ [.lst xs]) from k) _ H' _ (a.toCell np) (hp.toCell nx e r) (.ref (by rw [List.getElem?_append_right (by rw [hp.len]; exact Nat.le_refl _)]; simp [hp.len]))
theorem asg_ofL {g : TG} (h : PS X st (tAsg (tL X E Φ e') g)) : PS X st (tAsg (tE X E Φ e') g) := ⟨fun pins s σ H D I hq => h.run pins s σ H D I (tL_of_tE (show tE X E Φ e' σ H _ from hq))⟩
theorem asg_cell {g : TG} (h : PS X st (tAsg (tL X E Φ e') g)) : PS X st (tAsg (tE X E Φ (.cell e')) g) := ⟨fun pins s σ H D I hq => h.run pins s σ H D I (tL_of_cell (show tE X E Φ (.cell e') σ H _ from hq))⟩
theorem s_set (h : PS X st (tAsg (tE X E Φ e') (gName i))) : PS X st (tS X E Φ (.set i e')) := by
  refine ⟨fun pins s σ H D I hq => h.run pins s σ H D I ?_⟩
  obtain ⟨ρ0, ex0, H0, ρ, ex, ws, aσ, ah, R, P⟩ := hq
  simp only [evS, Post.bind] at P
  refine ⟨ρ, ex, ws, aσ, ah, R.st, P.imp (fun v h1 P ρ1 H1 v1 a1 hp1 r1 => ?_) (fun _ _ k => R.exc k)⟩
  obtain ⟨aσ1, e1, P⟩ := P.lift
  unfold setSlot at e1
  split at e1
  · cases e1
    exact (show FlC X ρ0 ex0 H0 ρ ex H D (.nx _) h1 from P) ρ1 ex ws _ H1 ((R.go a1 hp1).set r1) a1.step
  · cases e1
theorem StRel.setOwn (h : StRel X.K X.mg ρ ex ws aσ ah σ H) {p : Addr} {xs : List AV} {vs : List V} (xp : ex p) (np : ∀ (j : Nat), ws[j]? ≠ some (some p)) (e : H p = some (.lst vs)) (r : Reps X.K X.mg ρ ex H xs vs) : StRel X.K X.mg ρ ex (ws.set i (some p)) (aσ.set i (.ol xs)) ah (σ.set i (some (.ref p))) H := by
  have key : ∀ (j : Nat) (a : Addr), (ws.set i (some p))[j]? = some (some a) → (j = i ∧ a = p) ∨ (j ≠ i ∧ ws[j]? = some (some a)) := fun j a ej => by
    by_cases hj : i = j
    · subst hj
      by_cases hi : i < ws.length
      · rw [List.getElem?_set_self hi] at ej; cases ej; exact .inl ⟨rfl, rfl⟩
      · rw [List.getElem?_eq_none (by simpa using hi)] at ej; cases ej
    · rw [List.getElem?_set_ne hj] at ej; exact .inr ⟨fun q => hj q.symm, ej⟩
  refine ⟨h.hp, by simp [h.len], by simp [h.wlen], fun j s u w e1 e2 e3 => ?_, fun j a ej => ?_, fun j k a ej ek => ?_⟩
  · by_cases hj : i = j
    · subst hj
      have h1 : i < aσ.length := by have := (List.getElem?_eq_some_iff.mp e1).1; simpa using this
      have h2 : i < σ.length := by rw [← h.len]; exact h1
      have h3 : i < ws.length := by rw [h.wlen]; exact h2
      rw [List.getElem?_set_self h1] at e1
      rw [List.getElem?_set_self h2] at e2
      rw [List.getElem?_set_self h3] at e3
      cases e1; cases e2; cases e3
      exact ⟨p, vs, rfl, rfl, e, r⟩
    · rw [List.getElem?_set_ne hj] at e1 e2 e3
      exact h.slot j s u w e1 e2 e3
  · rcases key j a ej with ⟨_, rfl⟩ | ⟨_, q⟩
    · exact xp
    · exact h.own j a q
  · rcases key j a ej with ⟨rfl, rfl⟩ | ⟨n1, q⟩ <;> rcases key k _ ek with ⟨rfl, q'⟩ | ⟨n2, q'⟩
    · rfl
    · exact absurd q' (np k)
    · subst q'; exact absurd q (np j)
    · exact h.inj j k a q q'
theorem s_own (h : PS X st (tAsg (tL X E Φ e') (gName i))) : PS X st (tS X E Φ (.own i e')) := by
  refine ⟨fun pins s σ H D I hq => h.run pins s σ H D I ?_⟩
  obtain ⟨ρ0, ex0, H0, ρ, ex, ws, aσ, ah, R, P⟩ := hq
  simp only [evS, Post.bind] at P
  refine ⟨ρ, ex, ws, aσ, ah, R.st, P.imp (fun v h1 P xs ev ρ1 H1 p vs a1 np hp1 e1 r1 => ?_) (fun _ _ k => R.exc k)⟩
  subst ev
  simp only [Post.bind] at P
  obtain ⟨aσ1, e2, P⟩ := P.lift
  unfold setSlot at e2
  split at e2
  · cases e2
    have hex : ∀ b, H b ≠ none → ¬ ex b → ¬ exP ex p b := fun b h1 h2 h3 => h3.elim h2 fun e => by subst e; exact h1 np
    have st1 := a1.stp hex
    have S1 := R.st.stp a1 st1 (fun b x => .inl x) hp1
    have nw : ∀ (j : Nat), ws[j]? ≠ some (some p) := fun j q => R.st.hp.exOk p (R.st.own j p q) np
    refine (show FlC X ρ0 ex0 H0 ρ ex H D (.nx _) h1 from P) ρ1 (exP ex p) (ws.set i (some p)) _ H1 ⟨S1.setOwn (.inr rfl) nw e1 r1, R.ext.trans a1, fun a x => .inl (R.exL a x), fun j a ej => ?_, R.in0, R.ex00⟩ st1
    by_cases hj : i = j
    · subst hj
      by_cases hi : i < ws.length
      · rw [List.getElem?_set_self hi] at ej; cases ej; exact R.none0 np
      · rw [List.getElem?_eq_none (by simpa using hi)] at ej; cases ej
    · rw [List.getElem?_set_ne hj] at ej; exact R.own0 j a ej
  · cases e2
theorem s_asg {t : Tgt} (h : PS X st (tAsg (tE X E Φ e') (gT X t))) : PS X st (tS X E Φ (.asg t e')) := by
  refine ⟨fun pins s σ H D I hq => h.run pins s σ H D I ?_⟩
  obtain ⟨ρ0, ex0, H0, ρ, ex, ws, aσ, ah, R, P⟩ := hq
  simp only [evS, Post.bind] at P
  refine ⟨ρ, ex, ws, aσ, ah, R.st, P.imp (fun v h1 P ρ1 H1 v1 a1 hp1 r1 => ?_) (fun _ _ k => R.exc k)⟩
  obtain ⟨aσ1, e1, P⟩ := P.lift
  have R1 := R.go a1 hp1
  exact ⟨ρ1, ex, ws, aσ, h1, v, aσ1, R1.st, r1, e1, fun σ' S' _ => (show FlC X ρ0 ex0 H0 ρ ex H D (.nx _) h1 from P) ρ1 ex ws σ' H1 ⟨S', R1.ext, R1.exL, R1.own0, R1.in0, R1.ex00⟩ a1.step⟩
theorem setSlot_some {σ σ' : ASt} {i : Nat} {s : Sv} (e : setSlot σ i s = some σ') : σ' = σ.set i s := by
  unfold setSlot at e
  split at e
  · cases e; rfl
  · cases e
theorem s_par {i j : Nat} {a' b' : Exp} (h : PS X st (tPar i j (tEs X E Φ [a', b']))) : PS X st (tS X E Φ (.par i j a' b')) := by
  refine ⟨fun pins s σ H D I hq => h.run pins s σ H D I ?_⟩
  obtain ⟨ρ0, ex0, H0, ρ, ex, ws, aσ, ah, R, P⟩ := hq
  simp only [evS, Post.bind] at P
  refine ⟨ρ, ex, ws, aσ, ah, R.st, ?_⟩
  simp only [evEs, Post.bind]
  refine P.imp (fun x h1 P => P.imp (fun y h2 P ρ1 H1 vs a1 hp1 r1 => ?_) (fun _ _ k => R.exc k)) (fun _ _ k => R.exc k)
  obtain ⟨aσ1, e1, P⟩ := P.lift
  obtain ⟨aσ2, e2, e3⟩ := Option.bind_eq_some_iff.mp e1
  cases setSlot_some e2
  cases setSlot_some e3
  cases r1 with
  | cons r1 r2 =>
    cases r2 with
    | cons r2 r3 =>
      cases r3
      exact ⟨_, _, rfl, (show FlC X ρ0 ex0 H0 ρ ex H D (.nx _) h2 from P) ρ1 ex ws _ H1 (((R.go a1 hp1).set r1).set r2) a1.step⟩
/-- a, then a list of one's own -/
def tEL (X : Cx) (E : XK) (Φ : CallA) (a b : Exp) : TA := fun σ H Q => tE X E Φ a σ H fun v H1 => tL X E Φ b σ H1 fun w H2 => Q [v, w] H2
theorem pa_el {a b : Expr} {a' b' : Exp} (ha : PE X a (tE X E Φ a')) (hb : PE X b (tL X E Φ b')) (h1 : noStar a = true) (h2 : noStar b = true) : PA X [a, b] (tEL X E Φ a' b') := by
  refine ⟨fun pos pins s σ H Q I hq => (pa_cons ha (pa_cons hb pa_nil (by cases b <;> first | rfl | cases h2)) (by cases a <;> first | rfl | cases h1)).run pos pins s σ H Q I hq⟩
theorem s_parO {i j : Nat} {a' b' : Exp} (hij : i ≠ j) (h : PS X st (tPar i j (tEL X E Φ a' b'))) : PS X st (tS X E Φ (.parO i j a' b')) := by
  refine ⟨fun pins s σ H D I hq => h.run pins s σ H D I ?_⟩
  obtain ⟨ρ0, ex0, H0, ρ, ex, ws, aσ, ah, R, P⟩ := hq
  simp only [evS, Post.bind] at P
  refine ⟨ρ, ex, ws, aσ, ah, R.st, P.imp (fun x h1 P ρ1 H1 v1 a1 hp1 r1 => ?_) (fun _ _ k => R.exc k)⟩
  have R1 := R.go a1 hp1
  refine ⟨ρ1, ex, ws, aσ, h1, R1.st, P.imp (fun y h2 P xs ev ρ2 H2 p vs a2 np hp2 e2 r2 => ?_) (fun _ _ k => (R.exc k).ext a1)⟩
  subst ev
  simp only [Post.bind] at P
  obtain ⟨aσ2, e3, P⟩ := P.lift
  obtain ⟨aσ1, e4, e5⟩ := Option.bind_eq_some_iff.mp e3
  cases setSlot_some e4
  unfold setSlot at e5
  split at e5
  · rename_i hj
    cases e5
    have R2 := R1.set (i := i) r1
    have hex : ∀ b, H1 b ≠ none → ¬ ex b → ¬ exP ex p b := fun b h1 h2 h3 => h3.elim h2 fun e => by subst e; exact h1 np
    have st1 := a2.stp hex
    have S1 := R2.st.stp a2 st1 (fun b x => .inl x) hp2
    have nw : ∀ (k : Nat), ws[k]? ≠ some (some p) := fun k q => R2.st.hp.exOk p (R2.st.own k p q) np
    refine ⟨_, _, rfl, (show FlC X ρ0 ex0 H0 ρ ex H D (.nx _) h2 from P) ρ2 (exP ex p) (ws.set j (some p)) _ H2 ⟨S1.setOwn (.inr rfl) nw e2 r2, R2.ext.trans a2, fun a x => .inl (R2.exL a x), fun k a ej => ?_, R2.in0, R2.ex00⟩ (a1.step.trans st1)⟩
    by_cases hk : j = k
    · subst hk
      by_cases hi : j < ws.length
      · rw [List.getElem?_set_self hi] at ej; cases ej; exact R2.none0 np
      · rw [List.getElem?_eq_none (by simpa using hi)] at ej; cases ej
    · rw [List.getElem?_set_ne hk] at ej; exact R2.own0 k a ej
  · cases e5
theorem s_aug {o : BOp} {f : Int → Int → Int} (h : PS X st (tAug i (tE X E Φ e') (ipI f))) (hf : (o = .add ∧ f = fun i j => i + j) ∨ (o = .sub ∧ f = fun i j => i - j)) : PS X st (tS X E Φ (.aug i o e')) := by
  refine ⟨fun pins s σ H D I hq => h.run pins s σ H D I ?_⟩
  obtain ⟨ρ0, ex0, H0, ρ, ex, ws, aσ, ah, R, P⟩ := hq
  simp only [evS] at P
  split at P
  · rename_i x ex1
    obtain ⟨v, w, hv1, hv2, u, rfl, ru⟩ := R.st.slotAt ex1
    refine ⟨u, hv1, ρ, ex, ws, aσ, ah, R.st, ?_⟩
    rw [Post.bind] at P
    refine P.imp (fun y h1 P ρ1 H1 v1 a1 hp1 r1 => ?_) (fun _ _ k => R.exc k)
    rcases hf with ⟨rfl, rfl⟩ | ⟨rfl, rfl⟩
    · cases x <;> (try exact P.elim)
      cases y <;> (try exact P.elim)
      cases ru; cases r1
      exact ⟨_, _, rfl, rfl, (show FlC X ρ0 ex0 H0 ρ ex H D (.nx _) h1 from P) ρ1 ex ws _ H1 ((R.go a1 hp1).set (.int _)) a1.step⟩
    · cases x <;> (try exact P.elim)
      cases y <;> (try exact P.elim)
      cases ru; cases r1
      exact ⟨_, _, rfl, rfl, (show FlC X ρ0 ex0 H0 ρ ex H D (.nx _) h1 from P) ρ1 ex ws _ H1 ((R.go a1 hp1).set (.int _)) a1.step⟩
  · exact P.elim
theorem s_if {c : Expr} {a b : List Stmt} {t : Tst} {a' b' : List Stm} (hc : PT X c (tT X E Φ t)) (ha : PSs X a (tSs X E Φ a')) (hb : PSs X b (tSs X E Φ b')) : PS X (.If c a b pos) (tS X E Φ (.ife t a' b')) := by
  refine ⟨fun pins s σ H D I hq => (ps_if hc ha hb).run pins s σ H D I ?_⟩
  obtain ⟨ρ0, ex0, H0, ρ, ex, ws, aσ, ah, R, P⟩ := hq
  simp only [evS, Post.bind] at P
  refine ⟨ρ, ex, ws, aσ, ah, R.st, P.imp (fun k h1 P ρ1 H1 a1 hp1 => ?_) (fun _ _ k => R.exc k)⟩
  cases k with
  | true => rw [if_pos rfl]; exact ⟨ρ0, ex0, H0, ρ1, ex, ws, aσ, h1, R.go a1 hp1, P.imp (fun _ _ k => k.start a1.step) (fun _ _ k => k)⟩
  | false => rw [if_neg (by decide)]; exact ⟨ρ0, ex0, H0, ρ1, ex, ws, aσ, h1, R.go a1 hp1, P.imp (fun _ _ k => k.start a1.step) (fun _ _ k => k)⟩

/-! ### loops -/
theorem s_for {iter tg : Expr} {body : List Stmt} {it : Itr} {tg' : Tgt} {b' : List Stm} (hpo : PassesOwn (model X.prog X.w) X.A X.env X.xe) (hc : X.calm = true) (hi : PI X tg iter (tI X E Φ false it)) (hg : PG X tg (gT X tg')) (hb : PSs X body (tSs X E Φ b')) (hs : ∀ x, foldedSetIterable iter X.env x = pure x) :
    PS X (.For tg iter body [] pos) (tS X E Φ (.for tg' it b')) := by
  refine ⟨fun pins s σ H D I hq => (ps_for hpo hc hi hg hb hs).run pins s σ H D I ?_⟩
  obtain ⟨ρ0, ex0, H0, ρ, ex, ws, aσ, ah, R, P⟩ := hq
  simp only [evS, Post.bind] at P
  refine ⟨ρ, ex, ws, aσ, ah, R.st, P.imp (fun xs h1 P ρ1 H1 J G Y a1 hp1 WA => ?_) (fun _ _ k => R.exc k)⟩
  refine for_it WA.w (fun i σ H' => ∃ ρ' ex' ws' aσ' ah', SR X ρ0 ex0 H0 ρ' ex' ws' aσ' ah' σ H' ∧ Stp ρ1 ex H1 ρ' ex' H' ∧ Post (forL tg' (evSs Φ b') (xs.drop i) aσ' ah') (FlC X ρ0 ex0 H0 ρ ex H D) (ExC X E ρ0 ex0 H0))
    ⟨ρ1, ex, ws, aσ, h1, R.go a1 hp1, .refl, by rw [List.drop_zero]; exact P⟩ ?_ ?_ ?_
  · rintro i σ' H' hi ⟨ρ', ex', ws', aσ', ah', R', st', _⟩
    exact WA.g ρ' ex' H' ⟨st', fun q => by cases q⟩
  · rintro i x σ' H' H'' hi ⟨ρ', ex', ws', aσ', ah', R', st', P⟩ hy
    have hx : xs[i]? = some xs[i] := List.getElem?_eq_getElem hi
    rw [List.drop_eq_getElem_cons hi] at P
    simp only [forL, Post.bind] at P
    obtain ⟨aσ2, e1, P⟩ := P.lift
    obtain ⟨a2, hp2, r2⟩ := WA.y i _ ρ' ex' ah' H' x H'' hx ⟨st', fun q => by cases q⟩ R'.st.hp hy
    have R2 := R'.go a2 hp2
    refine ⟨ρ', ex', ws', aσ', ah', _, aσ2, R2.st, r2, e1, fun σ3 S3 _ => ⟨ρ0, ex0, H0, ρ', ex', ws', aσ2, ah', ⟨S3, R2.ext, R2.exL, R2.own0, R2.in0, R2.ex00⟩, P.imp (fun f h3 P => ?_) (fun _ _ k => k)⟩⟩
    have st2 : Stp ρ1 ex H1 ρ' ex' H'' := st'.trans a2.step
    cases f with
    | nx aσ4 => exact fun ρ4 ex4 ws4 σ4 H4 R4 st4 => ⟨ρ4, ex4, ws4, aσ4, h3, R4, st2.trans st4, P⟩
    | ct aσ4 => exact fun ρ4 ex4 ws4 σ4 H4 R4 st4 => ⟨ρ4, ex4, ws4, aσ4, h3, R4, st2.trans st4, P⟩
    | bk aσ4 => exact fun ρ4 ex4 ws4 σ4 H4 R4 st4 => (show FlC X ρ0 ex0 H0 ρ ex H D (.nx _) h3 from P) ρ4 ex4 ws4 σ4 H4 R4 (a1.step.trans (st2.trans st4))
    | rt v => exact P
  · rintro σ' H' ⟨ρ', ex', ws', aσ', ah', R', st', P⟩
    rw [List.drop_length] at P
    exact (show FlC X ρ0 ex0 H0 ρ ex H D (.nx _) ah' from P) ρ' ex' ws' σ' H' R' (a1.step.trans st')
theorem s_while {c : Expr} {body : List Stmt} {t : Tst} {b' : List Stm} (hpo : PassesOwn (model X.prog X.w) X.A X.env X.xe) (hc : PT X c (tT X E Φ t)) (hb : PSs X body (tSs X E Φ b')) : PS X (.While c body [] pos) (tS X E Φ (.while t b')) := by
  refine ⟨fun pins s σ H D I hq => (ps_while hpo hc hb).run pins s σ H D I ?_⟩
  obtain ⟨ρ0, ex0, H0, ρ, ex, ws, aσ, ah, R, P⟩ := hq
  simp only [evS] at P
  refine ⟨fun m σ H' => ∃ ρ' ex' ws' aσ' ah', SR X ρ0 ex0 H0 ρ' ex' ws' aσ' ah' σ H' ∧ Stp ρ ex H ρ' ex' H' ∧ Post (whileN (evT Φ t) (evSs Φ b') m aσ' ah') (FlC X ρ0 ex0 H0 ρ ex H D) (ExC X E ρ0 ex0 H0), ⟨turns, ρ, ex, ws, aσ, ah, R, .refl, P⟩, ?_⟩
  rintro m σ' H' ⟨ρ', ex', ws', aσ', ah', R', st', P⟩
  cases m with
  | zero => exact P.elim
  | succ m =>
    simp only [whileN, Post.bind] at P
    refine ⟨ρ', ex', ws', aσ', ah', R'.st, P.imp (fun k h1 P ρ1 H1 a1 hp1 => ?_) (fun _ _ k => R'.exc k)⟩
    have R1 := R'.go a1 hp1
    have st1 : Stp ρ ex H ρ1 ex' H1 := st'.trans a1.step
    cases k with
    | false => exact (show FlC X ρ0 ex0 H0 ρ ex H D (.nx _) h1 from P) ρ1 ex' ws' σ' H1 R1 st1
    | true =>
      simp only [Post.bind] at P
      refine ⟨fun σ2 H2 => ∃ ρ2 ex2 ws2 aσ2 ah2, SR X ρ0 ex0 H0 ρ2 ex2 ws2 aσ2 ah2 σ2 H2 ∧ Stp ρ ex H ρ2 ex2 H2 ∧ Post (whileN (evT Φ t) (evSs Φ b') m aσ2 ah2) (FlC X ρ0 ex0 H0 ρ ex H D) (ExC X E ρ0 ex0 H0), fun σ2 H2 q => ⟨m, Nat.lt_succ_self m, q⟩,
        ρ0, ex0, H0, ρ1, ex', ws', aσ', h1, R1, P.imp (fun f h3 P => ?_) (fun _ _ k => k)⟩
      cases f with
      | nx aσ4 => exact fun ρ4 ex4 ws4 σ4 H4 R4 st4 => ⟨ρ4, ex4, ws4, aσ4, h3, R4, st1.trans st4, P⟩
      | ct aσ4 => exact fun ρ4 ex4 ws4 σ4 H4 R4 st4 => ⟨ρ4, ex4, ws4, aσ4, h3, R4, st1.trans st4, P⟩
      | bk aσ4 => exact fun ρ4 ex4 ws4 σ4 H4 R4 st4 => (show FlC X ρ0 ex0 H0 ρ ex H D (.nx _) h3 from P) ρ4 ex4 ws4 σ4 H4 R4 (st1.trans st4)
      | rt v => exact P

/-! ### freezing, ends -/
theorem SR.frzAll (R : SR X ρ0 ex0 H0 ρ ex ws aσ ah σ H) : StRel X.K X.mg ρ ex0 (ws.map fun _ => none) (aσ.map frz) ah σ H := by
  refine ⟨R.st.hp.less R.exL, by simp [R.st.len], by simp [R.st.wlen], fun j s u w e1 e2 e3 => ?_, fun j a ej => ?_, fun j k a ej ek => ?_⟩
  · rw [List.getElem?_map] at e1
    obtain ⟨s0, f1, rfl⟩ := Option.map_eq_some_iff.mp e1
    obtain ⟨v, w0, g1, g2, q⟩ := R.st.slotAt f1
    rw [e2] at g1; cases g1
    cases s0 with
    | un => trivial
    | vl x =>
      obtain ⟨u', e, r⟩ := q
      exact ⟨u', e, r.step (.less R.exL)⟩
    | ol xs =>
      obtain ⟨p, vs, q1, q2, q3, r⟩ := q
      subst q2
      exact ⟨.ref p, q1, .lst q3 (fun m => R.st.hp.out p m (R.st.own j p g2)) (fun x => R.ex00 p x (R.own0 j p g2)) (r.step (.less R.exL))⟩
  · rw [List.getElem?_map] at ej
    obtain ⟨_, _, q⟩ := Option.map_eq_some_iff.mp ej
    cases q
  · rw [List.getElem?_map] at ej
    obtain ⟨_, _, q⟩ := Option.map_eq_some_iff.mp ej
    cases q
theorem s_ret (h : PE X e (tE X E Φ e')) : PS X (.Return (some e) pos) (tS X E Φ (.ret e')) := by
  refine ⟨fun pins s σ H D I hq => (ps_ret h).run pins s σ H D I ?_⟩
  obtain ⟨ρ0, ex0, H0, ρ, ex, ws, aσ, ah, R, P⟩ := hq
  simp only [evS, Post.bind] at P
  exact ⟨ρ, ex0, _, _, ah, R.frzAll, P.imp (fun v h1 P ρ1 H1 v1 a1 hp1 r1 => (show FlC X ρ0 ex0 H0 ρ ex H D (.rt v) h1 from P) ρ1 H1 v1 (R.ext.trans a1) hp1 r1) (fun x h k ρ1 H1 c d a hp r => k ρ1 H1 c d (R.ext.trans a) hp r)⟩
theorem s_retN : PS X (.Return none pos) (tS X E Φ .retN) := by
  refine ⟨fun pins s σ H D I hq => ps_retN.run pins s σ H D I ?_⟩
  obtain ⟨ρ0, ex0, H0, ρ, ex, ws, aσ, ah, R, P⟩ := hq
  exact (show FlC X ρ0 ex0 H0 ρ ex H D (.rt .non) ah from P) ρ H .non R.ext (R.st.hp.less R.exL) .non
theorem set_same {α : Type} {l : List α} {i : Nat} {s : α} (h : l[i]? = some s) : l.set i s = l := by
  apply List.ext_getElem?
  intro j
  by_cases hj : i = j
  · subst hj
    rw [List.getElem?_set_self (List.getElem?_eq_some_iff.mp h).1, h]
  · rw [List.getElem?_set_ne hj]
theorem SR.frz1 (R : SR X ρ0 ex0 H0 ρ ex ws aσ ah σ H) (i : Nat) : ∃ ex' ws', (∀ a, ex' a → ex a) ∧ SR X ρ0 ex0 H0 ρ ex' ws' (match aσ[i]? with | some s => aσ.set i (frz s) | none => aσ) ah σ H := by
  cases hs : aσ[i]? with
  | none => exact ⟨ex, ws, fun _ x => x, R⟩
  | some s =>
    cases s with
    | un =>
      refine ⟨ex, ws, fun _ x => x, ?_⟩
      have : aσ.set i (frz .un) = aσ := set_same hs
      show SR X ρ0 ex0 H0 ρ ex ws (aσ.set i (frz .un)) ah σ H
      rw [this]; exact R
    | vl x =>
      refine ⟨ex, ws, fun _ x => x, ?_⟩
      have : aσ.set i (frz (.vl x)) = aσ := set_same hs
      show SR X ρ0 ex0 H0 ρ ex ws (aσ.set i (frz (.vl x))) ah σ H
      rw [this]; exact R
    | ol xs =>
      obtain ⟨v, w0, g1, g2, p, vs, q1, q2, q3, r⟩ := R.st.slotAt hs
      subst q1 q2
      have hl : ∀ a, (ex a ∧ a ≠ p) → ex a := fun a x => x.1
      have np0 : H0 p = none := R.own0 i p g2
      have key : ∀ (j : Nat) (a : Addr), (ws.set i none)[j]? = some (some a) → j ≠ i ∧ ws[j]? = some (some a) := fun j a ej => by
        by_cases hj : i = j
        · subst hj
          by_cases hi : i < ws.length
          · rw [List.getElem?_set_self hi] at ej; cases ej
          · rw [List.getElem?_eq_none (by simpa using hi)] at ej; cases ej
        · rw [List.getElem?_set_ne hj] at ej; exact ⟨fun q => hj q.symm, ej⟩
      refine ⟨fun a => ex a ∧ a ≠ p, ws.set i none, hl, ⟨R.st.hp.less hl, by simp [R.st.len], by simp [R.st.wlen], fun j s u w e1 e2 e3 => ?_, fun j a ej => ?_, fun j k a ej ek => ?_⟩, R.ext, fun a x => ⟨R.exL a x, fun q => by subst q; exact R.ex00 a x np0⟩, fun j a ej => R.own0 j a (key j a ej).2, R.in0, R.ex00⟩
      · by_cases hj : i = j
        · subst hj
          have h1 : i < aσ.length := (List.getElem?_eq_some_iff.mp hs).1
          have e1' : (aσ.set i (frz (.ol xs)))[i]? = some s := e1
          rw [List.getElem?_set_self h1] at e1'
          cases e1'
          rw [g1] at e2; cases e2
          exact ⟨.ref p, rfl, .lst q3 (fun m => R.st.hp.out p m (R.st.own i p g2)) (fun x => x.2 rfl) (r.step (.less hl))⟩
        · have e1' : (aσ.set i (frz (.ol xs)))[j]? = some s := e1
          rw [List.getElem?_set_ne hj] at e1' e3
          have q := R.st.slot j s u w e1' e2 e3
          cases s with
          | un => trivial
          | vl x =>
            obtain ⟨u', e, r⟩ := q
            exact ⟨u', e, r.step (.less hl)⟩
          | ol ys =>
            obtain ⟨b, us, f1, f2, f3, r⟩ := q
            exact ⟨b, us, f1, f2, f3, r.step (.less hl)⟩
      · obtain ⟨n, q⟩ := key j a ej
        exact ⟨R.st.own j a q, fun e => by subst e; exact n (R.st.inj j i a q g2)⟩
      · exact R.st.inj j k a (key j a ej).2 (key k a ek).2
theorem SR.frzs : ∀ (is : List Nat) {ex : Addr → Prop} {ws : List (Option Addr)} {aσ : ASt}, SR X ρ0 ex0 H0 ρ ex ws aσ ah σ H → ∃ ex' ws', (∀ a, ex' a → ex a) ∧ SR X ρ0 ex0 H0 ρ ex' ws' (frzAt aσ is) ah σ H
  | [], ex, ws, _, R => ⟨ex, ws, fun _ x => x, R⟩
  | i :: is, ex, ws, aσ, R => by
    obtain ⟨ex1, ws1, l1, R1⟩ := R.frz1 i
    obtain ⟨ex2, ws2, l2, R2⟩ := SR.frzs is R1
    exact ⟨ex2, ws2, fun a x => l1 a (l2 a x), R2⟩
theorem s_frzd {is : List Nat} {s' : Stm} (h : PS X st (tS X E Φ s')) : PS X st (tS X E Φ (.frzd is s')) := by
  refine ⟨fun pins s σ H D I hq => h.run pins s σ H D I ?_⟩
  obtain ⟨ρ0, ex0, H0, ρ, ex, ws, aσ, ah, R, P⟩ := hq
  simp only [evS] at P
  obtain ⟨ex1, ws1, l1, R1⟩ := R.frzs is
  exact ⟨ρ0, ex0, H0, ρ, ex1, ws1, _, ah, R1, P.imp (fun f h k => k.start (.less l1)) (fun _ _ k => k)⟩

/-! ### writes -/
theorem Stp.atCell {p : Addr} {o : HO} (hm : Mut (H p)) (m : p ∈ ρ) : Stp ρ ex H ρ ex (upd H p o) :=
  ⟨fun a u e n x => ⟨by rw [upd_ne (fun q => n (by rw [q]; exact m))]; exact e, n, x⟩, fun a u e q => by
    rw [upd_ne (fun z => by subst z; rw [e] at hm; exact q hm)]; exact e, fun _ _ e => e⟩
theorem HRel.atCell (h : HRel X.K X.mg ρ ex ah H) {n : Nat} {p : Addr} {o : HO} {c : Cell} (e : ρ[n]? = some p) (hn : n < ah.length) (hc : CellRel X.K X.mg ρ ex (upd H p o) p c) : HRel X.K X.mg ρ ex (ah.set n c) (upd H p o) := by
  have m : p ∈ ρ := List.mem_of_getElem? e
  refine ⟨by simp [h.len], h.nd, h.out, fun a x => ?_, fun k c' a e1 e2 => ?_⟩
  · by_cases q : a = p
    · subst q; rw [upd_same]; simp
    · rw [upd_ne q]; exact h.exOk a x
  · by_cases hk : n = k
    · subst hk
      rw [List.getElem?_set_self hn] at e1
      cases e1
      rw [e] at e2; cases e2
      exact hc
    · rw [List.getElem?_set_ne hk] at e1
      refine (h.cell k c' a e1 e2).step (.atCell (h.mut m) m) (upd_ne fun q => ?_)
      subst q
      obtain ⟨h1, f1⟩ := List.getElem?_eq_some_iff.mp e
      obtain ⟨h2, f2⟩ := List.getElem?_eq_some_iff.mp e2
      exact hk ((List.getElem_inj h.nd).mp (f1.trans f2.symm))
theorem Ext.atCell (a : Ext ρ0 H0 ρ H) (h : HRel X.K X.mg ρ ex ah H) {p : Addr} {o : HO} (m : p ∈ ρ) : Ext ρ0 H0 ρ (upd H p o) :=
  ⟨a.pre, a.new, fun b u e q => by
    rw [upd_ne (fun z => by subst z; have := h.mut m; rw [a.fix b u e q] at this; exact q this)]; exact a.fix b u e q, fun b u e n => by
    rw [upd_ne (fun z => by subst z; rw [a.new b m n] at e; cases e)]; exact a.keep b u e n⟩
theorem Ext.at0 (a : Ext ρ0 H0 ρ H) {p : Addr} {o : HO} (np : H0 p = none) : Ext ρ0 H0 ρ (upd H p o) :=
  ⟨a.pre, a.new, fun b u e q => by
    rw [upd_ne (fun z => by subst z; rw [np] at e; cases e)]; exact a.fix b u e q, fun b u e n => by
    rw [upd_ne (fun z => by subst z; rw [np] at e; cases e)]; exact a.keep b u e n⟩
theorem s_sset {o' k' v' : Exp} (h : PS X st (tAsg (tE X E Φ v') (gSub (tE X E Φ o') (tE X E Φ k') rSetL))) : PS X st (tS X E Φ (.sset o' k' v')) := by
  refine ⟨fun pins s σ H D I hq => h.run pins s σ H D I ?_⟩
  obtain ⟨ρ0, ex0, H0, ρ, ex, ws, aσ, ah, R, P⟩ := hq
  simp only [evS, Post.bind] at P
  refine ⟨ρ, ex, ws, aσ, ah, R.st, P.imp (fun v h1 P ρ1 H1 v1 a1 hp1 r1 => ?_) (fun _ _ k => R.exc k)⟩
  have R1 := R.go a1 hp1
  refine ⟨ρ1, ex, ws, aσ, h1, R1.st, P.imp (fun x h2 P ρ2 H2 v2 a2 hp2 r2 => ?_) (fun _ _ k => R1.exc k)⟩
  have R2 := R1.go a2 hp2
  refine ⟨ρ2, ex, ws, aσ, h2, R2.st, P.imp (fun k h3 P ρ3 H3 v3 a3 hp3 r3 => ?_) (fun _ _ k => R2.exc k)⟩
  have R3 := R2.go a3 hp3
  cases x <;> (try exact P.elim)
  rename_i n _
  cases k <;> (try exact P.elim)
  rename_i z
  simp only at P
  split at P
  · rename_i xs hc
    split at P
    · rename_i j hj
      cases (r2.step (a3.step (ex := ex))) with
      | @ref _ p hn =>
        cases r3
        obtain ⟨vs, e3, rs⟩ := hp3.cell n _ p hc hn
        have m : p ∈ ρ3 := List.mem_of_getElem? hn
        have hn' : n < h3.length := (List.getElem?_eq_some_iff.mp hc).1
        have s3 : Stp ρ3 ex H3 ρ3 ex (upd H3 p (.lst (vs.set j v1))) := .atCell (hp3.mut m) m
        have hp4 : HRel X.K X.mg ρ3 ex (h3.set n (.lst (xs.set j v))) (upd H3 p (.lst (vs.set j v1))) := hp3.atCell hn hn' ⟨_, upd_same, (rs.set j (r1.step (a2.trans a3).step)).step s3⟩
        refine ⟨p, vs, z, j, rfl, rfl, e3, by rw [← rs.length]; exact hj, ?_⟩
        have S4 : StRel X.K X.mg ρ3 ex ws aσ (h3.set n (.lst (xs.set j v))) σ (upd H3 p (.lst (vs.set j v1))) :=
          ⟨hp4, R3.st.len, R3.st.wlen, fun i s v w e1 e2 e4 => by
            have q := R3.st.slot i s v w e1 e2 e4
            cases s with
            | un => trivial
            | vl x =>
              obtain ⟨u', e, r⟩ := q
              exact ⟨u', e, r.step s3⟩
            | ol ys =>
              obtain ⟨b, us, f1, f2, f5, r⟩ := q
              subst f2
              exact ⟨b, us, f1, rfl, by rw [upd_ne (fun q => by subst q; exact hp3.out b m (R3.st.own i b e4))]; exact f5, r.step s3⟩, R3.st.own, R3.st.inj⟩
        exact (show FlC X ρ0 ex0 H0 ρ ex H D (.nx _) _ from P) ρ3 ex ws σ _ ⟨S4, R3.ext.atCell hp3 m, R3.exL, R3.own0, R3.in0, R3.ex00⟩ (((a1.trans a2).trans a3).step.trans s3)
    · exact P.elim
  · exact P.elim
theorem s_app (h : PS X st (tDrop (tBM X.K "list" rAppend (tVar i) (tCons (tE X E Φ e') tNil)))) : PS X st (tS X E Φ (.app i e')) := by
  refine ⟨fun pins s σ H D I hq => h.run pins s σ H D I ?_⟩
  obtain ⟨ρ0, ex0, H0, ρ, ex, ws, aσ, ah, R, P⟩ := hq
  simp only [evS] at P
  split at P
  · rename_i xs hs
    obtain ⟨v, w0, g1, g2, p, vs, q1, q2, q3, r⟩ := R.st.slotAt hs
    subst q1 q2
    rw [Post.bind] at P
    refine ⟨.ref p, g1, .inl ⟨rfl, vs, .of q3⟩, ρ, ex, ws, aσ, ah, R.st, P.imp (fun x h1 P ρ1 H1 v1 a1 hp1 r1 => ?_) (fun _ _ k => R.exc k)⟩
    obtain ⟨hl, P⟩ := P.ite
    have R1 := R.go a1 hp1
    have xp : ex p := R.st.own i p g2
    have e1 : H1 p = some (.lst vs) := a1.keep p _ q3 (fun m => R.st.hp.out p m xp)
    have s1 : Stp ρ1 ex H1 ρ1 ex (upd H1 p (.lst (vs ++ [v1]))) := .atEx xp e1
    have r' := r.step (a1.step (ex := ex))
    refine ⟨p, vs, v1, rfl, rfl, e1, by rw [← r.length]; exact hl, ?_⟩
    have hi : i < aσ.length := (List.getElem?_eq_some_iff.mp hs).1
    have S2 : StRel X.K X.mg ρ1 ex ws (aσ.set i (.ol (xs ++ [x]))) h1 σ (upd H1 p (.lst (vs ++ [v1]))) :=
      ⟨hp1.atEx xp e1, by simp [R1.st.len], R1.st.wlen, fun j s u w e1' e2 e3 => by
        by_cases hj : i = j
        · subst hj
          rw [List.getElem?_set_self hi] at e1'
          cases e1'
          rw [g1] at e2; cases e2
          rw [g2] at e3; cases e3
          exact ⟨p, _, rfl, rfl, upd_same, (r'.append (.cons r1 .nil)).step s1⟩
        · rw [List.getElem?_set_ne hj] at e1'
          have q := R1.st.slot j s u w e1' e2 e3
          cases s with
          | un => trivial
          | vl x =>
            obtain ⟨u', e, r⟩ := q
            exact ⟨u', e, r.step s1⟩
          | ol ys =>
            obtain ⟨b, us, f1, f2, f3, r⟩ := q
            subst f2
            exact ⟨b, us, f1, rfl, by rw [upd_ne (fun q => by subst q; exact hj (R1.st.inj i j b g2 e3))]; exact f3, r.step s1⟩, R1.st.own, R1.st.inj⟩
    exact (show FlC X ρ0 ex0 H0 ρ ex H D (.nx _) h1 from P) ρ1 ex ws σ _ ⟨S2, R1.ext.at0 (R.own0 i p g2), R1.exL, R1.own0, R1.in0, R1.ex00⟩ (a1.step.trans s1)
  · exact P.elim
end
end G

set_option Elab.async false
set_option linter.all false
set_option maxRecDepth 100000
set_option maxHeartbeats 4000000
/-! GQ: a set made of a list of ints. -/
namespace G
open PySem PySem.Spec PyProof.Rows L2
section
variable {P : Program} {w : World} {A : Around} {E : Value → Shared → Prop}
/-- the heap with a set in it that holds nothing yet -/
abbrev hpS (w : World) (h : Heap) : Heap := h.push { cls := .type "set", dict := none, data := .set #[] 0 (.fresh 0 0 (!w.params.followText "set-order")) }
theorem hpS_new {h : Heap} : (hpS w h).get? h.objs.size = some { cls := .type "set", dict := none, data := .set #[] 0 (.fresh 0 0 (!w.params.followText "set-order")) } := Heap.get?_push_size _ rfl
theorem hpS_size {h : Heap} : (hpS w h).objs.size = h.objs.size + 1 := Heap.size_push ..
theorem hpS_old {h : Heap} {b : Addr} {o : Obj} (e : h.get? b = some o) : (hpS w h).get? b = some o := Heap.get?_push_of_some _ e
/-- what making the set leaves -/
structure MadeS (w : World) (s : Shared) (ns : List Int) (h : Heap) (c : Nat) : Prop where
  set : SetR w h s.heap.objs.size (fun j => decide (j ∈ ns)) c
  few : c ≤ ns.length
  old : ∀ b o, s.heap.get? b = some o → h.get? b = some o
theorem run_setInit {s : Shared} {l : Addr} {us : List Value} {ns : List Int} {Q : Value → Shared → Prop} (hn : A.handled = none) (hl : s.heap.IsList l us.toArray) (hi : IntsAre us ns) (hb : ns.length + 1 < scanBound)
    (h : ∀ h' tk c, MadeS w s ns h' c → Q .none { s with heap := h', toks := tk }) :
    codeAny (model P w) A (.call (.builtin "set.__init__") ⟨[.ref s.heap.objs.size, .ref l], []⟩) (wants Q E) { s with heap := hpS w s.heap } := by
  have hT : Shared.TypeIs { s with heap := hpS w s.heap } (.ref s.heap.objs.size) "set" := ⟨_, hpS_new, rfl⟩
  have hlen : us.toArray.size = ns.length := by simpa using hi.length
  refine codeAny_call_builtin F.called_set.init.plain F.entry_set_init (check_set_init_1 hT ?_)
  obtain ⟨o, ho, hcl, nl, hd⟩ := hl
  obtain ⟨oc, od, ox, os⟩ := o
  simp only at hcl hd
  subst hcl hd
  have hlS : l < s.heap.objs.size := Heap.lt_size ho
  have ho' := hpS_old (w := w) ho
  have hL : (hpS w s.heap).IsList l us.toArray := ⟨_, ho', rfl, nl, rfl⟩
  have k1 := F.sub_list_set
  have k2 := F.sub_list_frozenset
  have k3 : (Value.type "list" == Value.type "dict") = false := rfl
  have hS := hpS_new (w := w) (h := s.heap)
  unfold Builtin.«set.__init__» noKeywords Builtin.Frozenset.updateFrom
  generalize hq : pyIter = PI
  wp_walk
  subst hq
  refine wpAny_pyIter_list hL (wpAny_bind (wpAny_runValue ?_))
  have hn3 : A.in1.in1.handled = none := by simp [hn]
  have hz : (hpS w s.heap).objs.size = s.heap.objs.size + 1 := hpS_size
  have n1 : l ≠ (hpS w s.heap).objs.size := hz ▸ Nat.ne_of_lt (Nat.lt_succ_of_lt hlS)
  have n2 : s.heap.objs.size ∉ [(hpS w s.heap).objs.size, l] := by
    rw [hz]
    simp only [List.mem_cons, List.not_mem_nil, or_false, not_or]
    exact ⟨Nat.ne_of_lt (Nat.lt_succ_self _), (Nat.ne_of_lt hlS).symm⟩
  refine set_update_ints (Walks.list hn3 _ l n1 us.toArray).toS s.heap.objs.size n2 ns hlen hb ?_ (us.toArray.size - 0) 0 _ (by omega) (Nat.zero_le _) ?_ ?_ ?_
  · intro i v hv
    have hlt : i < ns.length := by rw [← hlen]; exact (Array.getElem?_eq_some_iff.mp hv).1
    obtain ⟨t, e⟩ := IntsAre.int_at hi i v (by simpa using hv)
    refine ⟨ns[i], t, List.getElem?_eq_getElem hlt, ?_⟩
    rw [e, List.getD_eq_getElem?_getD, List.getElem?_eq_getElem hlt] <;> rfl
  · exact ⟨⟨_, Heap.get?_push_size _ rfl, rfl, rfl⟩, hL.push _⟩
  · exact ⟨0, Nat.le_refl 0, setR_new_at (Heap.get?_push_of_some _ hS)⟩
  · intro s2 c hm hc hR
    obtain ⟨h2, g2, d2, t2, o2⟩ := s2
    obtain rfl : g2 = s.gens := hm.gens
    obtain rfl : d2 = s.drawn := hm.drawn
    obtain rfl : o2 = s.os := hm.os
    show wpAny _ _ _ _ _ _
    refine wpAny_pure ?_
    show wpAny _ _ (ret Value.none) _ _ _
    refine wpAny_pure (h h2 t2 c ⟨hR, by omega, fun b o e => hm.heap b o ?_ (Heap.get?_push_of_some _ (hpS_old e))⟩)
    have hb := Heap.lt_size e
    rw [hz]
    simp only [List.mem_cons, List.not_mem_nil, or_false, not_or]
    exact ⟨Nat.ne_of_lt hb, Nat.ne_of_lt (Nat.lt_succ_of_lt hb)⟩
theorem run_setList {s : Shared} {l : Addr} {us : List Value} {ns : List Int} {Q : Value → Shared → Prop} (hn : A.handled = none) (hl : s.heap.IsList l us.toArray) (hi : IntsAre us ns) (hb : ns.length + 1 < scanBound)
    (h : ∀ h' tk c, MadeS w s ns h' c → Q (.ref s.heap.objs.size) { s with heap := h', toks := tk }) :
    wpAny (model P w) A (call (.type "set") [.ref l]) Q E s := by
  obtain ⟨k1, k2, k3⟩ := F.called_set.mro
  have k4 := F.called_set.made
  have k5 := F.called_set.sub
  refine wpAny_call (codeAny_of_tree ?_)
  show wpAny _ _ (callAny (.type "set") ⟨[.ref l], []⟩) _ _ _
  refine wpAny_pure (And.intro (Code.quiet_builtin _ (by decide +kernel)) (codeAny_builtin F.entry_type_call ?_))
  rw [Around.under_plain (weight_type_call_type "set" _ _) rfl]
  have k6 := F.called_set.notType
  have k7 := F.called_set.canCreate
  have k8 := F.typeCall_set_1 (.ref l)
  repeat (any_goals (first | assumption | wp_step))
  refine codeAny_mono (code_set_led1 _ (E := E) (Q₁ := fun x t => x = .ref s.heap.objs.size ∧ t = { s with heap := hpS w s.heap }) (And.intro rfl rfl)) (fun r t hr => ?_)
  match r, hr with
  | .error e, hr => exact hr
  | .ok (.ret x), hr =>
    obtain ⟨rfl, rfl⟩ := hr
    have hS := hpS_new (w := w) (h := s.heap)
    have hT : Shared.TypeIs { s with heap := hpS w s.heap } (.ref s.heap.objs.size) "set" := ⟨_, hS, rfl⟩
    have k9 := F.called_set.init.lookup
    have k10 := F.called_set.init.bind (.ref s.heap.objs.size)
    repeat (any_goals (first | assumption | wp_step))
    refine codeAny_mono (run_setInit (E := E) (Q := fun x t => x = .none ∧ ∃ h' tk c, MadeS w s ns h' c ∧ t = { s with heap := h', toks := tk }) (by simp [hn]) hl hi hb fun h' tk c m => ⟨rfl, h', tk, c, m, rfl⟩) (fun r2 t2 hr2 => ?_)
    match r2, hr2 with
    | .error e, hr2 => exact hr2
    | .ok (.ret y), hr2 =>
      obtain ⟨rfl, h', tk, c, m, rfl⟩ := hr2
      repeat (any_goals (first | assumption | wp_step))
      exact h _ _ _ m
    | .ok .next, hr2 | .ok .brk, hr2 | .ok .cont, hr2 => exact hr2.elim
  | .ok .next, hr | .ok .brk, hr | .ok .cont, hr => exact hr.elim
end
end G

set_option Elab.async false
set_option linter.all false
set_option maxRecDepth 100000
set_option maxHeartbeats 4000000
/-! GO: further operations. -/
namespace G
open PySem PySem.Spec PyProof.Rows L2
section
variable {X : Cx} {E : XK} {Φ : CallA} {pos : Pos} {a b e : Expr} {a' b' e' : Exp} {pk : Bool}
/-! ### dicts of one key at most -/
theorem snd_dis0 : PE X (.Dict [] [] pos) (tE X E Φ (.dis [] [])) := by
  refine ⟨fun pins s σ H Q I hq => pe_dnewK.run pins s σ H Q I ?_⟩
  obtain ⟨ρ, ex, ws, aσ, ah, S, P⟩ := hq
  simp only [evE] at P
  obtain ⟨_, P⟩ := P.ite
  intro p np
  exact (show Kok X ρ ex H Q (.dct [] []) ah from P) ρ _ _ (ext_new S.hp np) (hrel_new S.hp np) (.dct (kvs := []) upd_same (fun m => S.hp.ne m np) (fun x => S.hp.exOk p x np) .nil)
theorem snd_dis1 {k : Key} {v : AV} {v' : V} {ek ev : Expr} (hk : PE X ek (tC (kV k))) (hv : PE X ev (tC v')) (r : ∀ ρ ex H, Rep X.K X.mg ρ ex H v v') : PE X (.Dict [some ek] [ev] pos) (tE X E Φ (.dis [k] [v])) := by
  refine ⟨fun pins s σ H Q I hq => (pe_disp (pps_cons hk hv pps_nil) rfl rfl (by simp) (by simp)).run pins s σ H Q I ?_⟩
  obtain ⟨ρ, ex, ws, aσ, ah, S, P⟩ := hq
  simp only [evE] at P
  obtain ⟨_, P⟩ := P.ite
  intro p np
  refine ⟨upd_same, [(k, v')], rfl, by simp, ?_⟩
  have e : upd (upd H p (.dK [])) p (.dK (mergeK [] [(k, v')])) = upd H p (.dK [(k, v')]) := by
    funext b
    by_cases hb : b = p
    · subst hb; rw [upd_same, upd_same]; rfl
    · rw [upd_ne hb, upd_ne hb, upd_ne hb]
  rw [e]
  exact (show Kok X ρ ex H Q (.dct [keyA k] [v]) ah from P) ρ _ _ (ext_new S.hp np) (hrel_new S.hp np) (.dct (kvs := [(k, v')]) upd_same (fun m => S.hp.ne m np) (fun x => S.hp.exOk p x np) (.cons (r _ _ _) .nil))
/-! ### lists put together; ranges laid out -/
theorem sl_cat (ha : PE X a (tP X E Φ a')) (hb : PE X b (tP X E Φ b')) : PE X (.BinOp a .Add b pos) (tL X E Φ (.cat a' b')) := by
  refine ⟨fun pins s σ H Q I hq => (pe_op op_cat ha hb).run pins s σ H Q I ?_⟩
  obtain ⟨ρ, ex, ws, aσ, ah, S, P⟩ := hq
  simp only [evE, Post.bind] at P
  refine ⟨ρ, ex, ws, aσ, ah, S, P.imp (fun x h1 P ρ1 H1 v1 a1 hp1 r1 => ?_) (fun _ _ k => k)⟩
  refine ⟨ρ1, ex, ws, aσ, h1, S.ext a1 hp1, P.imp (fun y h2 P ρ2 H2 v2 a2 hp2 r2 => ?_) (fun _ _ k => k.ext a1)⟩
  cases x <;> (try exact P.elim)
  cases y <;> (try exact P.elim)
  obtain ⟨c, P⟩ := P.ite
  obtain ⟨p1, vs, rfl, e1, _, q1⟩ := (r1.step a2).lst
  obtain ⟨p2, us, rfl, e2, _, q2⟩ := r2.lst
  exact ⟨p1, p2, vs, us, rfl, rfl, e1, e2, by rw [← q1.length, ← q2.length]; exact c, fun p np => (show KoL X ρ ex H Q (.lst _) h2 from P).new (a1.trans a2) hp2 (fun b m => S.hp.ne m) (q1.append q2) p np⟩
theorem reps_rg {K : PySem.W.Frag} {mg : Str → Option Value} {ρ : List Addr} {ex : Addr → Prop} {H : Hp} (i j : Int) : Reps K mg ρ ex H (rangeA i j) (rgV i j) := by
  unfold rangeA rgV
  induction List.range (j - i).toNat with
  | nil => exact .nil
  | cons n ns ih => exact .cons (.int _) ih
theorem rgl_read {k : Bool} {σ : L2.St} {H : Hp} {Q : VK} (hq : tE X E Φ (.rgl k a' b') σ H Q) : tRg2 (tE X E Φ a') (tE X E Φ b') σ H fun i j H1 => RgOk i j ∧ ∀ q, H1 q = none → Q (.ref q) (upd H1 q (if k then .tup (rgV i j) else .lst (rgV i j))) := by
  obtain ⟨ρ, ex, ws, aσ, ah, S, P⟩ := hq
  simp only [evE, Post.bind] at P
  refine ⟨ρ, ex, ws, aσ, ah, S, P.imp (fun x h1 P ρ1 H1 v1 a1 hp1 r1 => ?_) (fun _ _ k => k)⟩
  refine ⟨ρ1, ex, ws, aσ, h1, S.ext a1 hp1, P.imp (fun y h2 P ρ2 H2 v2 a2 hp2 r2 => ?_) (fun _ _ k => k.ext a1)⟩
  cases x <;> (try exact P.elim)
  cases y <;> (try exact P.elim)
  obtain ⟨c, P⟩ := P.ite
  cases r1; cases r2
  refine ⟨_, _, rfl, rfl, .of_le c.1 c.2.2.2 c.2.1 c.2.2.1, fun q nq => ?_⟩
  have K : Kok X ρ2 ex H2 Q (if k then .tup (rangeA _ _) else .lst (rangeA _ _)) h2 := Kok.ext P (a1.trans a2)
  cases k with
  | true => exact K.tup hp2 (reps_rg _ _) q nq
  | false => exact K.lst hp2 (reps_rg _ _) q nq
theorem snd_rgl2 {k : Bool} {x : Str} {p1 p2 p3 : Pos} (hk : Ok X) (hx : x = if k then ("tuple" : Str) else "list") (hg1 : Gl X x) (hm1 : X.mg x = none) (hg2 : Gl X "range") (hm2 : X.mg "range" = none) (ha : PE X a (tE X E Φ a')) (hb : PE X b (tE X E Φ b'))
    (hs : starEach [a, b] X.env = (false, eval a X.env) :: starEach [b] X.env) (hs2 : starEach [b] X.env = (false, eval b X.env) :: starEach [] X.env) :
    PE X (.Call (.Name x p1) [.Call (.Name "range" p2) [a, b] [] p3] [] pos) (tE X E Φ (.rgl k a' b')) := by
  have hr := prg_2 (p := p2) (pos := p3) hg2 hm2 ha hb hs hs2 (by rw [hs2]; rfl)
  refine ⟨fun pins s σ H Q I hq => ?_⟩
  cases k with
  | true =>
    subst hx
    exact (pe_tupRg hk.calm hg1 hm1 hr).run pins s σ H Q I (rgl_read hq)
  | false =>
    subst hx
    exact (pe_listRg hk.calm hg1 hm1 hr).run pins s σ H Q I (rgl_read hq)
theorem snd_rgl1 {k : Bool} {x : Str} {p1 p2 p3 : Pos} (hk : Ok X) (hx : x = if k then ("tuple" : Str) else "list") (hg1 : Gl X x) (hm1 : X.mg x = none) (hg2 : Gl X "range") (hm2 : X.mg "range" = none) (hb : PE X b (tE X E Φ b')) (hs2 : starEach [b] X.env = (false, eval b X.env) :: starEach [] X.env) :
    PE X (.Call (.Name x p1) [.Call (.Name "range" p2) [b] [] p3] [] pos) (tE X E Φ (.rgl k (.c (.int 0)) b')) := by
  have hr := prg_1 (p := p2) (pos := p3) hg2 hm2 hb hs2
  refine ⟨fun pins s σ H Q I hq => ?_⟩
  have hq' : tRg1 (tE X E Φ b') σ H fun i j H1 => RgOk i j ∧ ∀ q, H1 q = none → Q (.ref q) (upd H1 q (if k then .tup (rgV i j) else .lst (rgV i j))) := by
    obtain ⟨ρ, ex, ws, aσ, ah, S, P⟩ := hq
    simp only [evE, Rs.bind_ok, Post.bind] at P
    refine ⟨ρ, ex, ws, aσ, ah, S, P.imp (fun y h2 P ρ2 H2 v2 a2 hp2 r2 => ?_) (fun _ _ k => k)⟩
    cases y <;> (try exact P.elim)
    obtain ⟨c, P⟩ := P.ite
    cases r2
    refine ⟨_, rfl, .of_le c.1 c.2.2.2 c.2.1 c.2.2.1, fun q nq => ?_⟩
    have K : Kok X ρ2 ex H2 Q (if k then .tup (rangeA _ _) else .lst (rangeA _ _)) h2 := Kok.ext P a2
    cases k with
    | true => exact K.tup hp2 (reps_rg _ _) q nq
    | false => exact K.lst hp2 (reps_rg _ _) q nq
  cases k with
  | true =>
    subst hx
    exact (pe_tupRg hk.calm hg1 hm1 hr).run pins s σ H Q I hq'
  | false =>
    subst hx
    exact (pe_listRg hk.calm hg1 hm1 hr).run pins s σ H Q I hq'
/-! ### upper -/
theorem mt_upper : MtR X "str.upper" (fun x vs H Q => ∃ z, x = .str z ∧ vs = [] ∧ z.length ≤ 5592405 ∧ Q (.str (Txt.upper z)) H) := by
  intro pins s σ H x xs v us Q I rx rs h
  obtain ⟨z, rfl, rfl, hz, q⟩ := h
  obtain ⟨t, rfl⟩ := rx
  cases rs
  exact PySem.SC.upper (PyProof.Rows.fit_upper hz) ⟨.str _, H, I.tok _, ⟨_, rfl⟩, q⟩
theorem snd_upper {apos : Pos} {o : Expr} (ho : PE X o (tE X E Φ a')) (hbase : attributeBase o "upper" X.env (eval o X.env) = eval o X.env) (hline : (apos.endLine == pos.line) = true) : PE X (.Call (.Attribute o "upper" apos) [] [] pos) (tE X E Φ (.upper a')) := by
  refine ⟨fun pins s σ H Q I hq => (pe_bm0 PySem.F.plainAttrs_str PySem.F.slot_str_upper PySem.F.type_str_upper mt_upper ho hbase hline).run pins s σ H Q I ?_⟩
  obtain ⟨ρ, ex, ws, aσ, ah, S, P⟩ := hq
  simp only [evE, Post.bind] at P
  refine ⟨ρ, ex, ws, aσ, ah, S, P.imp (fun x h1 P ρ1 H1 v1 a1 hp1 r1 => ?_) (fun _ _ k => k)⟩
  cases x <;> (try exact P.elim)
  obtain ⟨c, P⟩ := P.ite
  cases r1
  exact ⟨rfl, _, rfl, rfl, c, ((show Kok X ρ ex H Q _ h1 from P).ext a1).here hp1 (.str _)⟩
/-! ### sorted(set(t)) -/
theorem mem_insS {k j : Int} : ∀ {l : List Int}, j ∈ insS k l ↔ j = k ∨ j ∈ l
  | [] => by simp [insS]
  | x :: xs => by
    unfold insS
    split
    · simp
    · split
      · rename_i e; subst e; simp
      · simp only [List.mem_cons, mem_insS (l := xs)]
        constructor
        · rintro (h | h | h) <;> simp [h]
        · rintro (h | h | h) <;> simp [h]
theorem mem_sortSet {j : Int} : ∀ {l : List Int}, j ∈ sortSet l ↔ j ∈ l
  | [] => by simp [sortSet]
  | x :: xs => by
    show j ∈ insS x (sortSet xs) ↔ _
    rw [mem_insS, mem_sortSet, List.mem_cons]
theorem insS_lt {k : Int} : ∀ {l : List Int}, l.Pairwise (· < ·) → (insS k l).Pairwise (· < ·)
  | [], _ => by simp [insS]
  | x :: xs, h => by
    rw [List.pairwise_cons] at h
    unfold insS
    split
    · rename_i c
      rw [List.pairwise_cons]
      refine ⟨fun y hy => ?_, List.pairwise_cons.mpr h⟩
      rcases List.mem_cons.mp hy with e | e
      · rw [e]; exact c
      · exact Int.lt_trans c (h.1 y e)
    · split
      · exact List.pairwise_cons.mpr h
      · rw [List.pairwise_cons]
        refine ⟨fun y hy => ?_, insS_lt h.2⟩
        rcases mem_insS.mp hy with e | e
        · subst e; omega
        · exact h.1 y e
theorem sortSet_lt : ∀ l : List Int, (sortSet l).Pairwise (· < ·)
  | [] => by simp [sortSet]
  | x :: xs => insS_lt (sortSet_lt xs)
theorem rising_eq : ∀ {l m : List Int}, l.Pairwise (· < ·) → m.Pairwise (· < ·) → (∀ k, k ∈ l ↔ k ∈ m) → l = m
  | [], [], _, _, _ => rfl
  | [], y :: ys, _, _, h => by have := (h y).mpr (by simp); simp at this
  | x :: xs, [], _, _, h => by have := (h x).mp (by simp); simp at this
  | x :: xs, y :: ys, hl, hm, h => by
    rw [List.pairwise_cons] at hl hm
    have e : x = y := by
      have h1 := (h x).mp (by simp)
      have h2 := (h y).mpr (by simp)
      rcases List.mem_cons.mp h1 with e | e
      · exact e
      · rcases List.mem_cons.mp h2 with e' | e'
        · exact e'.symm
        · exact absurd (Int.lt_trans (hl.1 y e') (hm.1 x e)) (Int.lt_irrefl _)
    subst e
    rw [rising_eq hl.2 hm.2 fun k => ?_]
    constructor
    · intro hk
      rcases List.mem_cons.mp ((h k).mp (List.mem_cons_of_mem _ hk)) with e | e
      · subst e; exact absurd (hl.1 k hk) (Int.lt_irrefl _)
      · exact e
    · intro hk
      rcases List.mem_cons.mp ((h k).mpr (List.mem_cons_of_mem _ hk)) with e | e
      · subst e; exact absurd (hm.1 k hk) (Int.lt_irrefl _)
      · exact e
theorem cr_setTL (hc : X.calm = true) : CallR X (.type "set") (fun vs H Q => ∃ (p : Addr) (ns : List Int), vs = [.ref p] ∧ (SqT X.K H p (ns.map V.int) ∨ SqL X.K H p (ns.map V.int)) ∧ ns.length < 64 ∧ ∀ (q : Addr) (c : Nat), H q = none → c ≤ ns.length → Q (.ref q) (upd H q (SetO X.w q (fun j => decide (j ∈ ns)) c))) := by
  intro pins s σ H vs us Q I r h
  obtain ⟨p, ns, rfl, sq, hl, q⟩ := h
  obtain ⟨u, rfl, ru⟩ := Vals.one' r
  cases ru
  have hf : H s.heap.objs.size = none := I.hok.fresh (Nat.le_refl _)
  rcases sq with sq | sq
  · obtain ⟨its, rv, pt, hz⟩ := I.tuple sq
    refine call_set_tupI ns (I.ok.hd hc) (show s.heap.IsTuple p its.toArray from pt) (ints_of_vals rv) (by unfold scanBound; omega) fun h' tk c R1 hcn k => ?_
    exact ⟨.ref _, _, I.laid (a := s.heap.objs.size) (o := SetO X.w s.heap.objs.size (fun j => decide (j ∈ ns)) c) (t' := tk) k (Nat.le_refl _) (setO_new R1), rfl, q _ c hf hcn⟩
  · obtain ⟨its, rv, pl, hz⟩ := I.list sq
    refine run_setList (ns := ns) (I.ok.hd hc) pl.isList (ints_of_vals rv) (by unfold scanBound; omega) fun h' tk c m => ?_
    exact ⟨.ref _, _, I.laid (a := s.heap.objs.size) (o := SetO X.w s.heap.objs.size (fun j => decide (j ∈ ns)) c) (t' := tk) m.old (Nat.le_refl _) (setO_new m.set), rfl, q _ c hf m.few⟩
theorem snd_sset {p1 p2 p3 : Pos} (hk : Ok X) (hg1 : Gl X "sorted") (hm1 : X.mg "sorted" = none) (hg2 : Gl X "set") (hm2 : X.mg "set" = none) (ha : PE X a (tE X E Φ a')) (hst : starEach [a] X.env = (false, eval a X.env) :: starEach [] X.env) :
    PE X (.Call (.Name "sorted" p1) [.Call (.Name "set" p2) [a] [] p3] [] pos) (tE X E Φ (.sset a')) := by
  refine ⟨fun pins s σ H Q I hq => (pe_callB (cr_sortedSet hk.calm) hg1 hm1 (bi_bootS) (pa_cons (pe_callTy (cr_setTL hk.calm) hg2 hm2 PyProof.Rows.boot_set (pa_cons ha pa_nil hst) (by decide) (by decide) hst) pa_nil)).run pins s σ H Q I ?_⟩
  obtain ⟨ρ, ex, ws, aσ, ah, S, P⟩ := hq
  simp only [evE, Post.bind] at P
  refine ⟨ρ, ex, ws, aσ, ah, S, P.imp (fun x h1 P ρ1 H1 v1 a1 hp1 r1 => ?_) (fun _ _ k => k)⟩
  cases x <;> (try exact P.elim)
  all_goals
    rename_i xs
    simp only at P
    split at P
    · rename_i ns hns
      obtain ⟨c, P⟩ := P.ite
      obtain rfl := intsOf_map hns
      have sq : ∃ p, v1 = .ref p ∧ (SqT X.K H1 p (ns.map V.int) ∨ SqL X.K H1 p (ns.map V.int)) := by
        first
        | (cases r1 with
            | tup sq rs => obtain rfl := rs.ints; exact ⟨_, rfl, .inl sq⟩)
        | (cases r1 with
            | lst e n x rs => obtain rfl := rs.ints; exact ⟨_, rfl, .inr (.inl (.of e))⟩)
      obtain ⟨p0, rfl, sq⟩ := sq
      refine ⟨_, ns, rfl, sq, c, fun q cn nq hc => ?_⟩
      have a2 := ext_new (X := X) (o := SetO X.w q (fun j => decide (j ∈ ns)) cn) hp1 nq
      have hp2 := hrel_new (X := X) (o := SetO X.w q (fun j => decide (j ∈ ns)) cn) hp1 nq
      refine ⟨q, _, cn, rfl, upd_same, by omega, fun ms p hlt hmem hlen np => ?_⟩
      obtain rfl : ms = sortSet ns := rising_eq hlt (sortSet_lt ns) fun k => by rw [hmem, mem_sortSet, decide_eq_true_eq]
      exact ((show Kok X ρ ex H Q _ h1 from P).ext (a1.trans a2)).lst hp2 (ints_reps _) p np
    · exact P.elim
where
  bi_bootS : bootBuiltins "sorted" = some (.builtin "sorted") := by decide +kernel
  ints_reps {K : PySem.W.Frag} {mg : Str → Option Value} {ρ : List Addr} {ex : Addr → Prop} {H : Hp} : ∀ ns : List Int, Reps K mg ρ ex H (ns.map AV.int) (ns.map V.int)
    | [] => .nil
    | n :: ns => .cons (.int n) (ints_reps ns)
/-! ### zip -/
theorem zipA_length : ∀ (xs ys : List AV), (zipA xs ys).length = min xs.length ys.length
  | [], ys => by cases ys <;> simp [zipA]
  | x :: xs, [] => by simp [zipA]
  | x :: xs, y :: ys => by simp only [zipA, List.length_cons, zipA_length xs ys]; omega
theorem zipA_get : ∀ {xs ys : List AV} {i : Nat} {z : AV}, (zipA xs ys)[i]? = some z → ∃ x y, xs[i]? = some x ∧ ys[i]? = some y ∧ z = .tup [x, y]
  | [], ys, _, _, e => by cases ys <;> simp [zipA] at e
  | x :: xs, [], _, _, e => by simp [zipA] at e
  | x :: xs, y :: ys, 0, z, e => by
    simp only [zipA, List.getElem?_cons_zero, Option.some.injEq] at e
    exact ⟨x, y, rfl, rfl, e.symm⟩
  | x :: xs, y :: ys, i + 1, z, e => by
    simp only [zipA, List.getElem?_cons_succ] at e
    obtain ⟨x', y', h1, h2, h3⟩ := zipA_get e
    exact ⟨x', y', by simpa using h1, by simpa using h2, h3⟩
theorem walk_zipT {K : PySem.W.Frag} {a b : Addr} {xs ys : List V} {n : Nat} (hn : n = min xs.length ys.length) : Walk (RZ.ItzT K a b) n (fun H => SqT K H a xs ∧ SqT K H b ys) (YPair (fun i => xs[i]?) (fun i => ys[i]?)) := by
  subst hn
  refine ⟨fun i _ hi q => ?_, fun _ q => ⟨xs, ys, q.1, q.2, by omega⟩, fun i H v H' _ q y => ?_⟩
  · have h1 : i < xs.length := by omega
    have h2 : i < ys.length := by omega
    exact ⟨xs, ys, xs[i], ys[i], q.1, q.2, by simp [h1], by simp [h2]⟩
  · obtain ⟨T, x, z, h1, h2, h3, h4, h5⟩ := y
    exact ⟨T, x, z, h1, h2, h3, h4 xs q.1, h5 ys q.2⟩
end
end G

set_option Elab.async false
set_option linter.all false
set_option maxRecDepth 100000
set_option maxHeartbeats 4000000
/-! GT: enumerate of tuples, zip of a text with a list, a text that is walked. -/
namespace G
open PySem PySem.Spec PyProof.Rows L2
open Sem (wp)
theorem meets_enum1 {v : Value} {o : Obj} {H : Heap → Prop} (B : Begins v o H) :
    Meets (Builtin.«enumerate.__new__» ⟨[.type "enumerate", v], []⟩) (fun _ R s => H s.heap ∧
      R (.ok (.ret (.ref (s.heap.push o).objs.size))) { s with heap := (s.heap.push o).push { cls := .type "enumerate", data := .fields #[.none, .bool false, .ref s.heap.objs.size, rawInt 0, .none, .none] } }) :=
  .of_wp fun prog w A R s h => by
    obtain ⟨hp, g, d, tk, os⟩ := s; obtain ⟨h1, h⟩ := h
    have hsub := sub_enumerate
    have q1 : ∀ {A' : Around} {E : Value → Shared → Prop} {Q : Value → Shared → Prop}, Q (.ref hp.objs.size) ⟨hp.push o, g, d, tk, os⟩ → wpAny (model prog w) A' (pyIter v) Q E ⟨hp, g, d, tk, os⟩ :=
      fun q => B.iter prog w _ _ ⟨hp, g, d, tk, os⟩ _ h1 q
    wp_walk using q1
    refine wpAny_stack_any fun st => wpAny_pure ?_
    split
    · rename_i c _ _ _ _ _
      cases (c == Value.type "enumerate")
      · wp_walk using q1
        exact ⟨_, rfl, h⟩
      · wp_walk using q1
        exact ⟨_, rfl, h⟩
    · wp_walk using q1
      exact ⟨_, rfl, h⟩
theorem enum1 {prog : Program} {w : World} {A : Around} {E : Value → Shared → Prop} {s : Shared} {v : Value} {o : Obj} {H : Heap → Prop} {Q : Value → Shared → Prop} (B : Begins v o H) (h1 : H s.heap)
    (h : ∀ h', IsEnum h' (s.heap.objs.size + 1) s.heap.objs.size 0 .none → h'.get? s.heap.objs.size = some o → h'.objs.size = s.heap.objs.size + 2 →
      (∀ b o, s.heap.get? b = some o → h'.get? b = some o) → Q (.ref (s.heap.objs.size + 1)) { s with heap := h' }) :
    wpAny (model prog w) A (call (.type "enumerate") [v]) Q E s := by
  refine callType_new F.called_enumerate (by decide) (F.typeCall_enumerate_1 _) (F.newCall_enumerate_1 _) (fun obj => F.args_object_init_2 obj _) F.entry_enumerate_new
    (meets_enum1 B) ⟨h1, ?_⟩
  have hz : (s.heap.push o).objs.size = s.heap.objs.size + 1 := Heap.size_push ..
  show _ ∧ _
  rw [hz]
  have he : IsEnum ((s.heap.push o).push { cls := .type "enumerate", data := .fields #[.none, .bool false, .ref s.heap.objs.size, rawInt 0, .none, .none] }) (s.heap.objs.size + 1) s.heap.objs.size 0 .none := by
    have := Heap.get?_push_size (s.heap.push o) (o := { cls := .type "enumerate", data := .fields #[.none, .bool false, .ref s.heap.objs.size, rawInt 0, .none, .none] }) rfl
    rw [hz] at this; exact this
  refine ⟨⟨_, he, rfl⟩, h _ he (Heap.get?_push_of_some _ (Heap.get?_push_size _ B.free)) (by rw [Heap.size_push, hz]) fun b o x => Heap.get?_push_of_some _ (Heap.get?_push_of_some _ x)⟩
/-- the tuple at a, each item in a new pair -/
def IteT (K : PySem.W.Frag) (a : Addr) : It :=
  ⟨fun i H => ∃ (xs : List V) (x : V), SqT K H a xs ∧ xs[i]? = some x, fun i H v H' => ∃ T x, v = .ref T ∧ H T = none ∧ H' = upd H T (.tup [.int (i : Nat), x]) ∧ ∀ xs, SqT K H a xs → xs[i]? = some x, fun i H => ∃ xs : List V, SqT K H a xs ∧ xs.length = i⟩
theorem turn_enumT {P : Program} {w : World} {K : PySem.W.Frag} {elts : List Expr} {kk : Nat} {tpos : Pos} (a e it : Addr) :
    Turn P w K (.Tuple elts kk tpos) (IteT K a) [e, it] e (fun i h => (∃ old, IsEnum h e it ((i : Nat) : Int) old) ∧ h.IsTupleIter it a i ∧ e ≠ it) where
  mem := by simp
  obj := fun i h st b hb => by
    obtain ⟨⟨old, he⟩, ⟨o, ho, hc, hd⟩, _⟩ := st
    have e' : b = e ∨ b = it := by simpa using hb
    rcases e' with z | z
    · rw [z]; exact ⟨_, he, fun v q => nomatch q⟩
    · rw [z]; exact ⟨o, ho, fun v q => by rw [hd] at q; cases q⟩
  keep := fun i h h' st k => let ⟨⟨old, he⟩, hi, hne⟩ := st; ⟨⟨old, k e (by simp) _ he⟩, hi.at fun o q => k it (by simp) o q, hne⟩
  item := by
    intro X hP hw hK hc i pins s σ H E I hf st hg
    subst hP hw hK
    obtain ⟨⟨old, he⟩, hit, hne⟩ := st
    obtain ⟨xs, x, hq, hx⟩ := hg
    obtain ⟨its, rv, p, hz⟩ := I.tuple hq
    obtain ⟨u, hu, ru⟩ := rv.get hx
    have hel : e < s.heap.objs.size := Heap.lt_size he
    have hil : it < s.heap.objs.size := by obtain ⟨_, q, _⟩ := hit; exact Heap.lt_size q
    have hai : a ≠ it := fun q => by
      obtain ⟨o1, g1, c1, _⟩ := p
      obtain ⟨o2, g2, c2, _⟩ := hit
      rw [q, g2] at g1; cases g1
      rw [c2] at c1; injection c1 with c1; exact absurd c1 (by decide)
    have hea : e ≠ a := fun q => by
      obtain ⟨o1, g1, c1, _⟩ := p
      have g2 : s.heap.get? a = some _ := q ▸ he
      rw [g1] at g2
      injection g2 with g2
      rw [g2] at c1
      injection c1 with c1
      exact absurd c1 (by decide)
    have hlen := rv.length
    have hi : i < its.toArray.size := by
      have := (List.getElem?_eq_some_iff.mp hx).1
      simp; omega
    refine wpAny_pyNext_enum_itemD (Draws.tuple (prog := X.prog) (w := X.w) (A := X.A.in1) (I.ok.hd hc) it a hai its.toArray) he ⟨hit, p⟩ hi hne (by simp [hne, hea]) fun x' h' tk hP ho hst hT hsz hk => ?_
    have hx' : x' = u := by
      have e2 : its.toArray[i]? = some u := by simpa using hu
      rw [e2] at hP; exact (Option.some.inj hP).symm
    subst hx'
    refine ⟨_, rfl, wpAny_letOwnedTupleGo_enum (s := { s with heap := h', toks := tk + 1 }) ho fun h'' he' sb => ?_⟩
    have hT2 : h''.get? s.heap.objs.size = some { cls := .type "tuple", data := .seq #[.int i tk, x'] } := (sb.2 _ (Nat.ne_of_gt hel)).trans hT
    have new : ObjOk X.prog X.w (upd H s.heap.objs.size (.tup [.int (i : Nat), x])) h'' s.heap.objs.size (.tup [.int (i : Nat), x]) :=
      ⟨by show 2 ≤ sizeLine; decide, [.int i tk, x'], .cons ⟨_, rfl⟩ (.cons ru .nil), ⟨_, hT2, rfl, _, rfl⟩⟩
    have I1 : Inv X pins σ (upd H s.heap.objs.size (.tup [.int (i : Nat), x])) { s with heap := h'', toks := tk + 1 } :=
      I.turnedNew (ch := [e, it]) (fun b ob hb q => (sb.2 b (fun z => hb (by simp [z]))).trans (hk b ob (fun z => hb (by simp [z])) (fun z => hb (by simp [z])) q)) hf (Nat.le_refl _) new
    refine ⟨.ref s.heap.objs.size, _, I1, rfl, ⟨_, x, rfl, I.hok.fresh (Nat.le_refl _), rfl, fun ys hy => by rw [I.tuple_inj hy hq]; exact hx⟩, ⟨⟨x', ?_⟩, hst.1.at fun o q => (sb.2 it (Ne.symm hne)).trans q, hne⟩, fun b hb => ?_⟩
    · have e1 : ((i + 1 : Nat) : Int) = (i : Int) + 1 := by omega
      rw [e1]; exact he'
    · have hb' : b < s.heap.objs.size := by
        have e' : b = e ∨ b = it := by simpa using hb
        rcases e' with z | z
        · rw [z]; exact hel
        · rw [z]; exact hil
      rw [upd_ne (Nat.ne_of_lt hb')]
      exact (hf b hb).1
  done := by
    intro X hP hw hK hc i pins s σ H E I hf st hg
    subst hP hw hK
    obtain ⟨⟨old, he⟩, hit, hne⟩ := st
    obtain ⟨xs, hq, hx⟩ := hg
    obtain ⟨its, rv, p, hz⟩ := I.tuple hq
    obtain ⟨f0, f1, f2, f3, f4, f5⟩ := hf it (by simp)
    have hl := rv.length
    have hai : a ≠ it := fun q => by
      obtain ⟨o1, g1, c1, _⟩ := p
      obtain ⟨o2, g2, c2, _⟩ := hit
      rw [q, g2] at g1; cases g1
      rw [c2] at c1; injection c1 with c1; exact absurd c1 (by decide)
    have hn : its.toArray.size = i := by simp; omega
    refine wpAny_pyNext_enum_endD (n := its.toArray.size) (Draws.tuple (prog := X.prog) (w := X.w) (A := X.A.in1) (I.ok.hd hc) it a hai its.toArray) he ⟨by rw [hn]; exact hit, p⟩ fun h' eb => ⟨rfl, I.turned (t' := s.toks) (fun b o hb q => eb b o hb q) f0 f1 f3 f4 f5⟩
  self := fun A i s Q E st h => let ⟨⟨_, he⟩, _⟩ := st; wpAny_pyIter_enum he h
/-! ### the loops -/
/-- each item in a new pair behind its number -/
def YEn (f : Nat → Option V) : Nat → Hp → V → Hp → Prop := fun i H v H' => ∃ T x, v = .ref T ∧ H T = none ∧ H' = upd H T (.tup [.int (i : Nat), x]) ∧ f i = some x
theorem walk_enumT {K : PySem.W.Frag} {a : Addr} {xs : List V} : Walk (IteT K a) xs.length (fun H => SqT K H a xs) (YEn fun i => xs[i]?) := by
  refine ⟨fun i _ hi q => ⟨xs, xs[i], q, by simp [hi]⟩, fun _ q => ⟨xs, q, rfl⟩, fun i H v H' _ q y => ?_⟩
  obtain ⟨T, x, h1, h2, h3, h4⟩ := y
  exact ⟨T, x, h1, h2, h3, h4 xs q⟩
theorem walk_enumL {K : PySem.W.Frag} {a : Addr} {xs : List V} : Walk (Ite K a) xs.length (fun H => SqL K H a xs) (YEn fun i => xs[i]?) := by
  refine ⟨fun i _ hi q => ⟨xs, xs[i], q, by simp [hi]⟩, fun _ q => ⟨xs, q, Nat.le_refl _⟩, fun i H v H' _ q y => ?_⟩
  obtain ⟨T, x, h1, h2, h3, h4⟩ := y
  exact ⟨T, x, h1, h2, h3, h4 xs q⟩
def iEnumA (K : PySem.W.Frag) (ta : TA) : TI := fun σ H R => ta σ H fun vs H1 => ∃ a, vs = [.ref a] ∧ (((∃ xs, SqL K H1 a xs) ∧ R (Ite K a) H1) ∨ ((∃ xs, SqT K H1 a xs) ∧ R (IteT K a) H1))
theorem pi_enumA {X : Cx} {e : Expr} {ta : TA} {p pos tpos : Pos} {elts : List Expr} {kk : Nat} (hg : Gl X "enumerate") (hm : X.mg "enumerate" = none) (ha : PA X [e] ta) (hs : starEach [e] X.env = [(false, eval e X.env)]) :
    PI X (.Tuple elts kk tpos) (.Call (.Name "enumerate" p) [e] [] pos) (iEnumA X.K ta) := by
  refine ⟨fun pins s σ H R I h => ?_⟩
  refine Call_ (ld_blt I hg hm boot_enumerate (PyProof.Rows.callWith_type1 (thn (ha.run pos pins s σ H _ I h) fun us s1 ⟨vs, H1, I1, r1, q1⟩ => ?_) hs rfl))
  obtain ⟨a, ex, q⟩ := q1
  subst ex
  cases r1 with
  | cons r rr =>
    cases rr
    cases r
    have fp : ∀ b ∈ [s1.heap.objs.size + 1, s1.heap.objs.size], FpOk X pins H1 b := fun b hb => by
      have e' : b = s1.heap.objs.size + 1 ∨ b = s1.heap.objs.size := by simpa using hb
      have hle : s1.heap.objs.size ≤ b := by
        rcases e' with z | z
        · rw [z]; exact Nat.le_add_right _ _
        · rw [z]; exact Nat.le_refl _
      exact I1.fpOk hle (I1.hok.fresh hle)
    rcases q with ⟨⟨xs, hq⟩, q⟩ | ⟨⟨xs, hq⟩, q⟩
    · obtain ⟨its, rv, p', hz⟩ := I1.list hq
      refine call_enumerate_list p'.isList fun h' he hit hsz hk => wpAny_pyIter_enum he ?_
      exact ⟨s1.heap.objs.size + 1, [s1.heap.objs.size + 1, s1.heap.objs.size], _, _, H1, rfl, I1.kept (t' := s1.toks) hk, turn_enum a (s1.heap.objs.size + 1) s1.heap.objs.size, ⟨⟨.none, he⟩, hit, Nat.succ_ne_self _⟩, fp, q⟩
    · obtain ⟨its, rv, p', hz⟩ := I1.tuple hq
      refine enum1 (begins_tuple a its.toArray) p' fun h' he hit hsz hk => wpAny_pyIter_enum he ?_
      exact ⟨s1.heap.objs.size + 1, [s1.heap.objs.size + 1, s1.heap.objs.size], _, _, H1, rfl, I1.kept (t' := s1.toks) hk, turn_enumT a (s1.heap.objs.size + 1) s1.heap.objs.size, ⟨⟨.none, he⟩, ⟨_, hit, rfl, rfl⟩, Nat.succ_ne_self _⟩, fp, q⟩
theorem enumA_length : ∀ (k : Nat) (xs : List AV), (enumA k xs).length = xs.length
  | _, [] => rfl
  | k, x :: xs => by simp [enumA, enumA_length (k + 1) xs]
theorem enumA_get : ∀ {k : Nat} {xs : List AV} {i : Nat} {z : AV}, (enumA k xs)[i]? = some z → ∃ x, xs[i]? = some x ∧ z = .tup [.int ((k + i : Nat) : Int), x]
  | k, [], i, z, e => by simp [enumA] at e
  | k, x :: xs, 0, z, e => by
    simp only [enumA, List.getElem?_cons_zero, Option.some.injEq] at e
    exact ⟨x, rfl, e.symm⟩
  | k, x :: xs, i + 1, z, e => by
    simp only [enumA, List.getElem?_cons_succ] at e
    obtain ⟨y, h1, h2⟩ := enumA_get e
    exact ⟨y, by simpa using h1, by rw [h2]; simp only [AV.tup.injEq, List.cons.injEq, AV.int.injEq, and_true]; omega⟩
section
variable {X : Cx} {E : XK} {Φ : CallA} {pos : Pos} {a b e : Expr} {a' b' e' : Exp} {pk : Bool} {tg : Expr}
theorem si_en {elts : List Expr} {kk : Nat} {tpos p : Pos} (hg : Gl X "enumerate") (hm : X.mg "enumerate" = none) (h : PE X e (tK X E Φ pk e')) (hs : starEach [e] X.env = (false, eval e X.env) :: starEach [] X.env) :
    PI X (.Tuple elts kk tpos) (.Call (.Name "enumerate" p) [e] [] pos) (tI X E Φ pk (.en e')) := by
  refine ⟨fun pins s σ H R I hq => (pi_enumA hg hm (pa_cons h pa_nil hs) hs).run pins s σ H R I ?_⟩
  obtain ⟨ρ, ex, ws, aσ, ah, S, P⟩ := hq
  simp only [evI, Post.bind] at P
  refine ⟨ρ, ex, ws, aσ, ah, S, P.imp (fun x h1 P ρ1 H1 v1 a1 hp1 r1 w1 => ?_) (fun _ _ k => k)⟩
  obtain ⟨xs, e1, P⟩ := P.lift
  have P : KoI X pk ρ ex H R (enumA 0 xs) h1 := P
  have yy : ∀ {vs : List V} (rs : Reps X.K X.mg ρ1 ex H1 xs vs), ∀ i x ρ' ex' ah' H' v H'', (enumA 0 xs)[i]? = some x → Sta pk ρ1 ex H1 ρ' ex' H' → HRel X.K X.mg ρ' ex' ah' H' → YEn (fun i => vs[i]?) i H' v H'' → Ext ρ' H' ρ' H'' ∧ HRel X.K X.mg ρ' ex' ah' H'' ∧ Rep X.K X.mg ρ' ex' H'' x v :=
    fun {vs} rs i x ρ' ex' ah' H' v H'' e st hp y => by
      obtain ⟨T, x0, rfl, nT, rfl, e1⟩ := y
      obtain ⟨xa, f1, rfl⟩ := enumA_get e
      obtain ⟨x1, g1, q1⟩ := rs.get f1
      simp only at e1
      rw [g1] at e1; cases e1
      have an := ext_new (X := X) (o := .tup [.int (i : Nat), x0]) hp nT
      refine ⟨an, hrel_new hp nT, .tup (.inl (.inl upd_same)) (.cons ?_ (.cons ((q1.step st.1).step an.step) .nil))⟩
      rw [Nat.zero_add]
      exact .int _
  obtain ⟨a, vs, rfl, hl, rr, q⟩ := walk_seq (pk := pk) hp1 r1 w1 e1
  refine ⟨a, rfl, ?_⟩
  rcases q with ⟨sq, w⟩ | ⟨sq, w⟩
  · exact .inl ⟨⟨vs, sq⟩, P ρ1 H1 _ _ _ a1 hp1 ⟨by rw [enumA_length, hl]; exact walk_enumL, w.g, yy rr⟩⟩
  · exact .inr ⟨⟨vs, sq⟩, P ρ1 H1 _ _ _ a1 hp1 ⟨by rw [enumA_length, hl]; exact walk_enumT, w.g, yy rr⟩⟩
end
/-! ### zip of a text with a list -/
def ItzX (K : PySem.W.Frag) (z0 : Str) (b : Addr) : It :=
  ⟨fun i H => ∃ (ys : List V) (c : Nat) (y : V), SqL K H b ys ∧ z0.cps[i]? = some c ∧ ys[i]? = some y,
    fun i H v H' => ∃ T c y, v = .ref T ∧ H T = none ∧ H' = upd H T (.tup [.str ⟨#[c]⟩, y]) ∧ z0.cps[i]? = some c ∧ ∀ ys, SqL K H b ys → ys[i]? = some y,
    fun i H => ∃ ys : List V, SqL K H b ys ∧ i ≤ z0.cps.size ∧ i ≤ ys.length ∧ (i = z0.cps.size ∨ i = ys.length)⟩
theorem turn_zipX {P : Program} {w : World} {K : PySem.W.Frag} {elts : List Expr} {kk : Nat} {tpos : Pos} {z0 : Str} {t : Tok} {b z TI TO i1 i2 : Addr} (D : ZipSep2 z TI TO i1 i2 [i1] [i2, b]) :
    Turn P w K (.Tuple elts kk tpos) (ItzX K z0 b) [z, TI, TO, i1, i2] z (fun i h => IsZip h z TI TO .none ∧ IsTupOf2 h TI (.ref i1) (.ref i2) ∧ (∃ x y, IsTupOf2 h TO x y) ∧ h.IsStrIter i1 (strIterType z0) z0 t i ∧ h.IsListIter i2 b i) where
  mem := by simp
  obj := fun i h st c hc => by
    obtain ⟨hz, hTI, ⟨x, y, hTO⟩, ⟨o1, e1, _, d1⟩, ⟨o2, e2, _, d2⟩⟩ := st
    have e' : c = z ∨ c = TI ∨ c = TO ∨ c = i1 ∨ c = i2 := by simpa using hc
    rcases e' with q | q | q | q | q
    · rw [q]; exact ⟨_, hz, fun v q => nomatch q⟩
    · rw [q]; exact ⟨_, hTI, fun v q => nomatch q⟩
    · rw [q]; exact ⟨_, hTO, fun v q => nomatch q⟩
    · rw [q]; exact ⟨o1, e1, fun v q => by rw [d1] at q; cases q⟩
    · rw [q]; exact ⟨o2, e2, fun v q => by rw [d2] at q; cases q⟩
  keep := fun i h h' st k => by
    obtain ⟨hz, hTI, ⟨x, y, hTO⟩, ⟨o1, e1, r1⟩, h2⟩ := st
    exact ⟨k z (by simp) _ hz, k TI (by simp) _ hTI, ⟨x, y, k TO (by simp) _ hTO⟩, ⟨o1, k i1 (by simp) o1 e1, r1⟩, h2.at fun o q => k i2 (by simp) o q⟩
  item := by
    intro X hP hw hK hc i pins s σ H E I hf st hg
    subst hP hw hK
    obtain ⟨hz, hTI, ⟨x0, y0, hTO⟩, h1, h2⟩ := st
    obtain ⟨ys, c, y, hqy, hx, hy⟩ := hg
    obtain ⟨its2, rv2, p2, _⟩ := I.list hqy
    obtain ⟨u2, hu2, ru2⟩ := rv2.get hy
    have hzl : z < s.heap.objs.size := Heap.lt_size hz
    have l2 := rv2.length
    have hb2 : b ≠ i2 := fun q => by
      obtain ⟨o1, _, g1, c1, _⟩ := p2
      obtain ⟨o2, g2, c2, _⟩ := h2
      rw [q, g2] at g1; cases g1
      rw [c2] at c1; injection c1 with c1; exact absurd c1 (by decide)
    have hlt1 : i < z0.cps.size := (Array.getElem?_eq_some_iff.mp hx).1
    have hlt2 : i < its2.toArray.size := by
      have := (List.getElem?_eq_some_iff.mp hy).1
      simp; omega
    refine wpAny_pyNext_zipD2_item D (Draws.text (A := X.A.in1) (I.ok.hd hc) i1 z0 t) (Draws.list (A := X.A.in1) (I.ok.hd hc) i2 b hb2 its2.toArray) hz hTI hTO h1 ⟨h2, p2.isList⟩ hlt1 hlt2 fun x1 x2 h' tk P1 P2 z' TO' s1' s2' hT hsz hk => ?_
    obtain ⟨c', u, hc', rfl⟩ := P1
    rw [hx] at hc'; cases hc'
    have e2 : its2.toArray[i]? = some u2 := by simpa using hu2
    rw [e2] at P2; cases P2
    refine ⟨_, rfl, wpAny_letOwnedTupleGo_zip (s := { s with heap := h', toks := tk }) z' fun h'' z'' sb => ?_⟩
    have hT2 : h''.get? s.heap.objs.size = some { cls := .type "tuple", data := .seq #[.str ⟨#[c]⟩ u, u2] } := (sb.2 _ (Nat.ne_of_gt hzl)).trans hT
    have new : ObjOk X.prog X.w (upd H s.heap.objs.size (.tup [.str ⟨#[c]⟩, y])) h'' s.heap.objs.size (.tup [.str ⟨#[c]⟩, y]) :=
      ⟨by show 2 ≤ sizeLine; decide, [.str ⟨#[c]⟩ u, u2], .cons ⟨_, rfl⟩ (.cons ru2 .nil), ⟨_, hT2, rfl, _, rfl⟩⟩
    have I1 : Inv X pins σ (upd H s.heap.objs.size (.tup [.str ⟨#[c]⟩, y])) { s with heap := h'', toks := tk } :=
      I.turnedNew (ch := [z, TI, TO, i1, i2]) (fun c o hb q => (sb.2 c (fun q' => hb (by simp [q']))).trans (hk c o (fun q' => hb (by simp [q'])) (fun q' => hb (by simp [q'])) (fun q' => hb (by simp [q'])) (fun q' => hb (by simp [q'])) q)) hf (Nat.le_refl _) new
    refine ⟨.ref s.heap.objs.size, _, I1, rfl, ⟨_, c, y, rfl, I.hok.fresh (Nat.le_refl _), rfl, hx, fun l hl => by rw [I.list_inj hl hqy]; exact hy⟩, ⟨z'', ?_, ⟨.str ⟨#[c]⟩ u, u2, ?_⟩, ?_, ?_⟩, fun c hcm => ?_⟩
    · exact (sb.2 _ D.TIz).trans (hk _ _ D.TIz D.TITO D.TIi1 D.TIi2 hTI)
    · exact (sb.2 _ D.TOz).trans TO'
    · obtain ⟨o1, g1, r1⟩ := s1'
      exact ⟨o1, (sb.2 _ (Ne.symm D.zi1)).trans g1, r1⟩
    · exact s2'.1.at fun o q => (sb.2 _ (Ne.symm D.zi2)).trans q
    · have hlt : c < s.heap.objs.size := by
        have e' : c = z ∨ c = TI ∨ c = TO ∨ c = i1 ∨ c = i2 := by simpa using hcm
        rcases e' with q | q | q | q | q
        · rw [q]; exact hzl
        · rw [q]; exact Heap.lt_size hTI
        · rw [q]; exact Heap.lt_size hTO
        · rw [q]; obtain ⟨_, e1, _⟩ := h1; exact Heap.lt_size e1
        · rw [q]; obtain ⟨_, e2, _⟩ := h2; exact Heap.lt_size e2
      rw [upd_ne (Nat.ne_of_lt hlt)]
      exact (hf c hcm).1
  done := by
    intro X hP hw hK hc i pins s σ H E I hf st hg
    subst hP hw hK
    obtain ⟨hz, hTI, ⟨x0, y0, hTO⟩, h1, h2⟩ := st
    obtain ⟨ys, hqy, hi1, hi2, hend⟩ := hg
    obtain ⟨its2, rv2, p2, _⟩ := I.list hqy
    have l2 := rv2.length
    have hb2 : b ≠ i2 := fun q => by
      obtain ⟨o1, _, g1, c1, _⟩ := p2
      obtain ⟨o2, g2, c2, _⟩ := h2
      rw [q, g2] at g1; cases g1
      rw [c2] at c1; injection c1 with c1; exact absurd c1 (by decide)
    refine wpAny_pyNext_zipD2_end D (Draws.text (A := X.A.in1) (I.ok.hd hc) i1 z0 t) (Draws.list (A := X.A.in1) (I.ok.hd hc) i2 b hb2 its2.toArray) hz hTI hTO h1 ⟨h2, p2.isList⟩ hi1 (by simp; omega) (by simp; omega) fun h' tk hk => ?_
    exact ⟨rfl, I.turnedL (t' := tk) (ch := [z, TI, TO, i1, i2]) (fun c o hb q =>
      hk c o (fun q' => hb (by simp [q'])) (fun q' => hb (by simp [q'])) (fun q' => hb (by simp [q'])) (fun q' => hb (by simp [q'])) q) hf⟩
  self := fun A i s Q E st h => wpAny_pyIter_zip st.1 h
/-- a sign with an item, in a new pair -/
def YTx (z0 : Str) (g : Nat → Option V) : Nat → Hp → V → Hp → Prop := fun i H v H' => ∃ T c y, v = .ref T ∧ H T = none ∧ H' = upd H T (.tup [.str ⟨#[c]⟩, y]) ∧ z0.cps[i]? = some c ∧ g i = some y
theorem walk_zipX {K : PySem.W.Frag} {z0 : Str} {b : Addr} {ys : List V} {n : Nat} (hn : n = min z0.cps.size ys.length) : Walk (ItzX K z0 b) n (fun H => SqL K H b ys) (YTx z0 (fun i => ys[i]?)) := by
  subst hn
  refine ⟨fun i _ hi q => ?_, fun _ q => ⟨ys, q, by omega, by omega, by omega⟩, fun i H v H' _ q y => ?_⟩
  · have h1 : i < z0.cps.size := by omega
    have h2 : i < ys.length := by omega
    exact ⟨ys, z0.cps[i], ys[i], q, by simp [h1], by simp [h2]⟩
  · obtain ⟨T, c, z, h1, h2, h3, h4, h5⟩ := y
    exact ⟨T, c, z, h1, h2, h3, h4, h5 ys q⟩
def iZipB (K : PySem.W.Frag) (ta : TA) : TI := fun σ H R => ta σ H fun vs H1 => (∃ a b xs ys, vs = [.ref a, .ref b] ∧ ((SqL K H1 a xs ∧ SqL K H1 b ys ∧ R (Itz K a b) H1) ∨ (SqT K H1 a xs ∧ SqT K H1 b ys ∧ R (RZ.ItzT K a b) H1))) ∨ ∃ z0 b, vs = [.str z0, .ref b] ∧ (∃ ys, SqL K H1 b ys) ∧ R (ItzX K z0 b) H1
theorem pi_zipB {X : Cx} {e e2 : Expr} {ta : TA} {p pos tpos : Pos} {elts : List Expr} {kk : Nat} (hg : Gl X "zip") (hm : X.mg "zip" = none) (ha : PA X [e, e2] ta)
    (hs : starEach [e, e2] X.env = (false, eval e X.env) :: starEach [e2] X.env) (hpl : (backTo pos (starEach [e2] X.env)).any (·.1) = false) :
    PI X (.Tuple elts kk tpos) (.Call (.Name "zip" p) [e, e2] [] pos) (iZipB X.K ta) := by
  refine ⟨fun pins s σ H R I h => ?_⟩
  refine Call_ (ld_blt I hg hm PyProof.Rows.boot_zip (PyProof.Rows.callWith_type1 (thn (ha.run pos pins s σ H _ I h) fun us s1 ⟨vs, H1, I1, r1, q1⟩ => ?_) hs hpl))
  have fresh5 : ∀ c, c ∈ [s1.heap.objs.size + 4, s1.heap.objs.size + 2, s1.heap.objs.size + 3, s1.heap.objs.size, s1.heap.objs.size + 1] → FpOk X pins H1 c := fun c hcm => by
    have e' : c = s1.heap.objs.size + 4 ∨ c = s1.heap.objs.size + 2 ∨ c = s1.heap.objs.size + 3 ∨ c = s1.heap.objs.size ∨ c = s1.heap.objs.size + 1 := by simpa using hcm
    have hle : s1.heap.objs.size ≤ c := by
      rcases e' with z | z | z | z | z
      · rw [z]; exact Nat.le_add_right _ _
      · rw [z]; exact Nat.le_add_right _ _
      · rw [z]; exact Nat.le_add_right _ _
      · rw [z]; exact Nat.le_refl _
      · rw [z]; exact Nat.le_add_right _ _
    exact I1.fpOk hle (I1.hok.fresh hle)
  rcases q1 with ⟨a, b, xs, ys, ex, q1⟩ | ⟨z0, b, ex, ⟨ys, hqy⟩, q⟩
  · subst ex
    cases r1 with
    | cons r rr =>
      cases rr with
      | cons r' rr =>
        cases rr
        cases r
        cases r'
        rcases q1 with ⟨hqx, hqy, q⟩ | ⟨hqx, hqy, q⟩
        · obtain ⟨its, rv, p1, _⟩ := I1.list hqx
          obtain ⟨its2, rv2, p2, _⟩ := I1.list hqy
          refine call_zip_2 p1.isList p2.isList fun h' hz hTI hTO h1 h2 hsz hk => wpAny_pyIter_zip hz ?_
          have I2 : Inv X pins σ H1 { s1 with heap := h' } := I1.kept (t' := s1.toks) hk
          exact ⟨s1.heap.objs.size + 4, [s1.heap.objs.size + 4, s1.heap.objs.size + 2, s1.heap.objs.size + 3, s1.heap.objs.size, s1.heap.objs.size + 1], _, _, H1, rfl, I2, turn_zip (PySem.W.ktu_apart s1.heap.objs.size a b p1.lt p2.lt), ⟨hz, hTI, ⟨_, _, hTO⟩, h1, h2⟩, fresh5, q⟩
        · obtain ⟨its, rv, p1, _⟩ := I1.tuple hqx
          obtain ⟨its2, rv2, p2, _⟩ := I1.tuple hqy
          obtain ⟨o1, ho1, _⟩ := id p1
          obtain ⟨o2, ho2, _⟩ := id p2
          refine RZ.call_zipT (show s1.heap.IsTuple a its.toArray from p1) (show s1.heap.IsTuple b its2.toArray from p2) fun h' hz hTI hTO h1 h2 hsz hk => wpAny_pyIter_zip hz ?_
          have I2 : Inv X pins σ H1 { s1 with heap := h' } := I1.kept (t' := s1.toks) hk
          exact ⟨s1.heap.objs.size + 4, [s1.heap.objs.size + 4, s1.heap.objs.size + 2, s1.heap.objs.size + 3, s1.heap.objs.size, s1.heap.objs.size + 1], _, _, H1, rfl, I2, RZ.turn_zipT (PySem.W.ktu_apart s1.heap.objs.size a b (Heap.lt_size ho1) (Heap.lt_size ho2)), ⟨hz, hTI, ⟨_, _, hTO⟩, h1, h2⟩, fresh5, q⟩
  · subst ex
    cases r1 with
    | cons r rr =>
      cases rr with
      | cons r' rr =>
        cases rr
        obtain ⟨t, rfl⟩ := r
        cases r'
        obtain ⟨its2, rv2, p2, _⟩ := I1.list hqy
        refine zip_begins2 (begins_text z0 t) (begins_list b its2.toArray) trivial p2.isList fun h' hz hTI hTO h1 h2 hsz hk => wpAny_pyIter_zip hz ?_
        have I2 : Inv X pins σ H1 { s1 with heap := h' } := I1.kept (t' := s1.toks) hk
        exact ⟨s1.heap.objs.size + 4, [s1.heap.objs.size + 4, s1.heap.objs.size + 2, s1.heap.objs.size + 3, s1.heap.objs.size, s1.heap.objs.size + 1], _, _, H1, rfl, I2, turn_zipX (t := t) (zip_sep2 (fp1 := []) (fp2 := [b]) (by simp) (fun c hc => by rw [List.mem_singleton.mp hc]; exact p2.lt)), ⟨hz, hTI, ⟨_, _, hTO⟩, ⟨_, h1, rfl, rfl⟩, ⟨_, h2, rfl, rfl⟩⟩, fresh5, q⟩
section
variable {X : Cx} {E : XK} {Φ : CallA} {pos : Pos} {a b e : Expr} {a' b' e' : Exp} {pk : Bool} {tg : Expr}
theorem strA_len (z : Str) : (strA z).length = z.cps.size := by simp [strA]
theorem strA_get {z : Str} {i : Nat} {x : AV} (e : (strA z)[i]? = some x) : ∃ c, z.cps[i]? = some c ∧ x = .str ⟨#[c]⟩ := by
  unfold strA at e
  rw [List.getElem?_map] at e
  obtain ⟨c, h1, h2⟩ := Option.map_eq_some_iff.mp e
  exact ⟨c, by simpa using h1, h2.symm⟩
/-- the signs, one by one -/
def YSt (z : Str) : Nat → Hp → V → Hp → Prop := fun i H v H' => H' = H ∧ ∃ c, z.cps[i]? = some c ∧ v = .str ⟨#[c]⟩
theorem walk_str {z : Str} : Walk (Its z) z.cps.size (fun _ => True) (YSt z) := ⟨fun i _ hi _ => hi, fun _ _ => Nat.le_refl _, fun i H v H' _ _ y => y⟩
theorem walkA_str {K : PySem.W.Frag} {mg : Str → Option Value} {ρ : List Addr} {ex : Addr → Prop} {H : Hp} {z : Str} : WalkA K mg pk ρ ex H (strA z) (Its z) (fun _ => True) (YSt z) :=
  ⟨by rw [strA_len]; exact walk_str, fun _ _ _ _ => trivial, fun i x ρ' ex' ah' H' v H'' e st hp y => by
    obtain ⟨rfl, c, h1, rfl⟩ := y
    obtain ⟨c', h2, rfl⟩ := strA_get e
    rw [h1] at h2; cases h2
    exact ⟨.refl, hp, .str _⟩⟩
theorem si_sq (h : PE X e (tK X E Φ pk e')) : PI X tg e (tI X E Φ pk (.sq e')) := by
  refine ⟨fun pins s σ H R I hq => ?_⟩
  have hr : tK X E Φ pk e' σ H fun v H1 => (∃ a, v = .ref a ∧ (((∃ vs, SqL X.K H1 a vs) ∧ R (Itl X.K a) H1) ∨ ((∃ vs, SqT X.K H1 a vs) ∧ R (Itt X.K a) H1))) ∨ ∃ z, v = .str z ∧ R (Its z) H1 := by
    obtain ⟨ρ, ex, ws, aσ, ah, S, P⟩ := hq
    simp only [evI, Post.bind] at P
    refine ⟨ρ, ex, ws, aσ, ah, S, P.imp (fun v h P ρ1 H1 v1 a1 hp1 r1 r2 => ?_) (fun _ _ k => k)⟩
    obtain ⟨xs, e1, P⟩ := P.lift
    by_cases hz : ∃ z, v = .str z
    · obtain ⟨z, rfl⟩ := hz
      cases e1
      obtain rfl := r2.str
      exact .inr ⟨z, rfl, P ρ1 H1 _ _ _ a1 hp1 walkA_str⟩
    · have e1' : vitems v = some xs := by
        cases v <;> first | exact e1 | exact absurd ⟨_, rfl⟩ hz
      obtain ⟨a, vs, rfl, _, _, q⟩ := walk_seq (pk := pk) hp1 r1 r2 e1'
      refine .inl ⟨a, rfl, ?_⟩
      rcases q with ⟨sq, w⟩ | ⟨sq, w⟩
      · exact .inl ⟨⟨vs, sq⟩, P ρ1 H1 _ _ _ a1 hp1 w⟩
      · exact .inr ⟨⟨vs, sq⟩, P ρ1 H1 _ _ _ a1 hp1 w⟩
  refine thn (h.run pins s σ H _ I hr) fun v s1 ⟨x, H1, I1, r1, q1⟩ => ?_
  rcases q1 with ⟨a, rfl, q⟩ | ⟨z, rfl, q⟩
  · cases r1
    have fin : ∀ b ∈ [s1.heap.objs.size], FpOk X pins H1 b := fun b hb => by
      have e : b = s1.heap.objs.size := by simpa using hb
      subst e
      exact I1.fpOk (Nat.le_refl _) (I1.hok.fresh (Nat.le_refl _))
    rcases q with ⟨⟨vs, sq⟩, q⟩ | ⟨⟨vs, sq⟩, q⟩
    · obtain ⟨its, rv, p, hz⟩ := I1.list sq
      exact wpAny_pyIter_list p.isList ⟨s1.heap.objs.size, [s1.heap.objs.size], _, _, H1, rfl, I1.kept (t' := s1.toks) fun b o e => Heap.get?_push_of_some _ e, turn_list a _, ⟨_, Heap.get?_push_size _ rfl, rfl, rfl⟩, fin, q⟩
    · obtain ⟨its, rv, p, hz⟩ := I1.tuple sq
      exact wpAny_pyIter_tuple (show s1.heap.IsTuple a its.toArray from p) ⟨s1.heap.objs.size, [s1.heap.objs.size], _, _, H1, rfl, I1.kept (t' := s1.toks) fun b o e => Heap.get?_push_of_some _ e, turn_tuple a _, ⟨_, Heap.get?_push_size _ rfl, rfl, rfl⟩, fin, q⟩
  · obtain ⟨t, rfl⟩ := r1
    cases ha : z.cps.all (· < 128)
    · exact wpAny_pyIter_wide ha (pi_one (tk := s1.toks) I1 _ (turn_str _ z t "str_iterator" (.inr rfl)) ⟨_, Heap.get?_push_size _ rfl, rfl, rfl⟩ q)
    · exact wpAny_pyIter_ascii ha (pi_one (tk := s1.toks) I1 _ (turn_str _ z t "str_ascii_iterator" (.inl rfl)) ⟨_, Heap.get?_push_size _ rfl, rfl, rfl⟩ q)
/-- two in a row that are walked -/
def tK2 (X : Cx) (E : XK) (Φ : CallA) (pk : Bool) (a b : Exp) : TA := fun σ H Q => tK X E Φ pk a σ H fun x H1 => tK X E Φ pk b σ H1 fun y H2 => Q [x, y] H2
theorem si_zp {elts : List Expr} {kk : Nat} {tpos p : Pos} (hg : Gl X "zip") (hm : X.mg "zip" = none) (ha : PE X a (tK X E Φ pk a')) (hb : PE X b (tK X E Φ pk b')) (hs : starEach [a, b] X.env = (false, eval a X.env) :: starEach [b] X.env) (hs2 : starEach [b] X.env = (false, eval b X.env) :: starEach [] X.env) :
    PI X (.Tuple elts kk tpos) (.Call (.Name "zip" p) [a, b] [] pos) (tI X E Φ pk (.zp a' b')) := by
  refine ⟨fun pins s σ H R I hq => (pi_zipB hg hm (pa_cons ha (pa_cons hb pa_nil hs2) hs) hs (by rw [hs2]; rfl)).run pins s σ H R I ?_⟩
  obtain ⟨ρ, ex, ws, aσ, ah, S, P⟩ := hq
  simp only [evI, Post.bind] at P
  refine ⟨ρ, ex, ws, aσ, ah, S, P.imp (fun x h1 P ρ1 H1 v1 a1 hp1 r1 w1 => ?_) (fun _ _ k => k)⟩
  refine ⟨ρ1, ex, ws, aσ, h1, S.ext a1 hp1, P.imp (fun y h2 P ρ2 H2 v2 a2 hp2 r2 w2 => ?_) (fun _ _ k => k.ext a1)⟩
  obtain ⟨zs, ez, P⟩ := P.lift
  have P : KoI X pk ρ ex H R zs h2 := P
  have r1' : pk = false → Rep X.K X.mg ρ2 ex H2 x v1 := fun q => (r1 q).step a2.step
  have w1' := w1.step a2
  have yy : ∀ {xs ys : List AV} {vs us : List V} {G : Hp → Prop}, Reps X.K X.mg ρ2 ex H2 xs vs → Reps X.K X.mg ρ2 ex H2 ys us → ∀ i x ρ' ex' ah' H' v H'', (zipA xs ys)[i]? = some x → Sta pk ρ2 ex H2 ρ' ex' H' → HRel X.K X.mg ρ' ex' ah' H' → YPair (fun i => vs[i]?) (fun i => us[i]?) i H' v H'' → Ext ρ' H' ρ' H'' ∧ HRel X.K X.mg ρ' ex' ah' H'' ∧ Rep X.K X.mg ρ' ex' H'' x v :=
    fun {xs ys vs us G} rx ry i x ρ' ex' ah' H' v H'' e st hp y => by
      obtain ⟨T, x0, y0, rfl, nT, rfl, e1, e2⟩ := y
      obtain ⟨xa, ya, f1, f2, rfl⟩ := zipA_get e
      obtain ⟨x1, g1, q1⟩ := rx.get f1
      obtain ⟨y1, g2, q2⟩ := ry.get f2
      simp only at e1 e2
      rw [g1] at e1; cases e1
      rw [g2] at e2; cases e2
      have an := ext_new (X := X) (o := .tup [x0, y0]) hp nT
      exact ⟨an, hrel_new hp nT, .tup (.inl (.inl upd_same)) (.cons ((q1.step st.1).step an.step) (.cons ((q2.step st.1).step an.step) .nil))⟩
  have one : ∀ {zs : List AV} {v : V}, (pk = false → Rep X.K X.mg ρ2 ex H2 (.lst zs) v) → RepW X.K X.mg ρ2 ex H2 (.lst zs) v → ∃ p vs, v = .ref p ∧ SqL X.K H2 p vs ∧ Reps X.K X.mg ρ2 ex H2 zs vs ∧ ∀ ρ' ex' H', Sta pk ρ2 ex H2 ρ' ex' H' → SqL X.K H' p vs := fun {zs v} h1 h2 => by
    by_cases hr : Rep X.K X.mg ρ2 ex H2 (.lst zs) v
    · cases hr with
      | @lst p _ vs e1 n1 x1 rs => exact ⟨p, vs, rfl, .of e1, rs, fun ρ' ex' H' st => .of (st.1.val _ _ e1 n1 x1).1⟩
    · cases pk with
      | false => exact absurd (h1 rfl) hr
      | true =>
        obtain ⟨p, vs, e1, e2, n, rs⟩ := h2.lst
        exact ⟨p, vs, e1, .of e2, rs, fun ρ' ex' H' st => .of ((st.2 rfl).keep _ _ e2 n)⟩
  cases x <;> (try (simp only [zipK, reduceCtorEq] at ez; done))
  · rename_i z0 _
    cases y <;> (try (simp only [zipK, reduceCtorEq] at ez; done))
    rename_i ys
    simp only [zipK, Option.some.injEq] at ez
    subst ez
    obtain rfl := w1'.str
    obtain ⟨p2, us, rfl, s2, ry, g2⟩ := one r2 w2
    refine .inr ⟨z0, p2, rfl, ⟨us, s2⟩, P ρ2 H2 _ (fun H => SqL X.K H p2 us) (YTx z0 (fun i => us[i]?)) (a1.trans a2) hp2 ⟨walk_zipX (by rw [zipA_length, strA_len, ry.length]), fun ρ' ex' H' st => g2 ρ' ex' H' st, fun i x ρ' ex' ah' H' v H'' e st hp y => ?_⟩⟩
    obtain ⟨T, c, y0, rfl, nT, rfl, e1, e2⟩ := y
    obtain ⟨xa, ya, f1, f2, rfl⟩ := zipA_get e
    obtain ⟨c', g1, rfl⟩ := strA_get f1
    rw [e1] at g1; cases g1
    obtain ⟨y1, g2', q2⟩ := ry.get f2
    simp only at e2
    rw [g2'] at e2; cases e2
    have an := ext_new (X := X) (o := .tup [.str ⟨#[c]⟩, y0]) hp nT
    exact ⟨an, hrel_new hp nT, .tup (.inl (.inl upd_same)) (.cons (.str _) (.cons ((q2.step st.1).step an.step) .nil))⟩
  · rename_i xs
    cases y <;> (try (simp only [zipK, reduceCtorEq] at ez; done))
    rename_i ys
    simp only [zipK, Option.some.injEq] at ez
    subst ez
    cases w1'.rep (fun _ q => by cases q) with
    | @tup p1 _ vs s1 rx =>
      cases w2.rep (fun _ q => by cases q) with
      | @tup p2 _ us s2 ry =>
        refine .inl ⟨p1, p2, vs, us, rfl, .inr ⟨s1, s2, P ρ2 H2 _ (fun H => SqT X.K H p1 vs ∧ SqT X.K H p2 us) (YPair (fun i => vs[i]?) (fun i => us[i]?)) (a1.trans a2) hp2 ⟨walk_zipT (by rw [zipA_length, rx.length, ry.length]), fun ρ' ex' H' st => ⟨st.1.sqT s1, st.1.sqT s2⟩, yy (G := fun _ => True) rx ry⟩⟩⟩
  · rename_i xs
    cases y <;> (try (simp only [zipK, reduceCtorEq] at ez; done))
    rename_i ys
    simp only [zipK, Option.some.injEq] at ez
    subst ez
    obtain ⟨p1, vs, rfl, s1, rx, g1⟩ := one r1' w1'
    obtain ⟨p2, us, rfl, s2, ry, g2⟩ := one r2 w2
    exact .inl ⟨p1, p2, vs, us, rfl, .inl ⟨s1, s2, P ρ2 H2 _ (fun H => SqL X.K H p1 vs ∧ SqL X.K H p2 us) (YPair (fun i => vs[i]?) (fun i => us[i]?)) (a1.trans a2) hp2 ⟨walk_zip (by rw [zipA_length, rx.length, ry.length]), fun ρ' ex' H' st => ⟨g1 ρ' ex' H' st, g2 ρ' ex' H' st⟩, yy (G := fun _ => True) rx ry⟩⟩⟩
end
end G

set_option Elab.async false
set_option linter.all false
set_option maxRecDepth 100000
set_option maxHeartbeats 4000000
/-! GU: a name and the rest. -/
namespace G
open PySem PySem.Spec PyProof.Rows L2
open Sem (wp)
theorem star_tup {prog : Program} {w : World} {A : Around} {E : Value → Shared → Prop} {s : Shared} {elts : List Expr} {env : Env} {k : Nat} {pos : Pos} {l : Addr} {items : Array Value} {x : Value} {rest : List Value} {Q : Unit → Shared → Prop}
    (hl : IsTup s.heap l items) (hh : A.handled = none) (hlen : (assignEach elts env).length = 2) (hstar : (assignEach elts env).findIdx? (·.1) = some 1) (ei : items.toList = x :: rest) (hz : items.size ≤ sizeLine)
    (h : ∀ (h' : Heap) (tk : Nat), (∀ b o, s.heap.get? b = some o → h'.get? b = some o) → wpAny (model prog w) A (assignInOrder ((assignEach elts env).map (·.2)) [x, .ref h'.objs.size]) Q E { s with heap := h'.push { cls := .type "list", data := .seq rest.toArray }, toks := tk }) :
    wpAny (model prog w) A (assign (.Tuple elts k pos) env (.ref l)) Q E s := by
  have hsz : items.size = rest.length + 1 := by
    have := congrArg List.length ei
    simpa using this
  rw [assign_Tuple]
  refine wpAny_bind (wpAny_standAt ?_)
  unfold unpack
  rw [hlen, hstar]
  refine wpAny_bind (wpAny_holding ?_)
  have hlt : l ≠ s.heap.objs.size := by obtain ⟨o, ho, _⟩ := hl; exact Nat.ne_of_lt (Heap.lt_size ho)
  unfold unpackItems
  refine wpAny_bind ?_
  unfold notIterableAtAll
  refine wpAny_bind (wpAny_specialOf hl.typeIs slot_tuple_iter.lookup ?_)
  refine wpAny_pure ?_
  simp only [Bool.false_eq_true, if_false]
  refine wpAny_bind (wpAny_holding (iter_tuple hl ?_))
  refine wpAny_bind (wpAny_holding (draw_tuple hlt 1 0 _ _ ⟨_, Heap.get?_push_size _ rfl, rfl, rfl⟩ (hl.push _) (by omega) fun h₁ hit₁ hs₁ => ?_))
  have hl₁ : IsTup h₁ l items := (hl.push _).extBut hs₁.extBut hlt
  rw [Nat.zero_add] at hit₁
  have hit₁' := hit₁
  obtain ⟨oi, hoi, _⟩ := hit₁'
  have hl₁' := hl₁
  obtain ⟨ol, hol, _⟩ := hl₁'
  rw [List.drop_zero, ei]
  show wpAny _ _ (if ([x] : List Value).length < 1 then _ else _) _ _ _
  rw [if_neg (by simp)]
  refine wpAny_bind (wpAny_holding (PySem.W.kun_collect (s := { s with heap := h₁ }) (T := "tuple_iterator") (.inr (.inr (.inr rfl))) (Walks.tuple (A := A.in1) hh s.heap.objs.size l hlt items) (fun j u st => st.1.typeIs) (k := 1) (by omega) ⟨hit₁, hl₁⟩ (Heap.lt_size hoi) (Heap.lt_size hol) (fun h₂ tk hk => ?_) hz))
  have er : items.toList.drop 1 = rest := by rw [ei]; rfl
  rw [er]
  show wpAny _ _ (if rest.length < 2 - 1 - 1 then _ else _) _ _ _
  rw [if_neg (by omega)]
  have em : rest.length - (2 - 1 - 1) = rest.length := by omega
  show wpAny _ _ (newList (rest.take (rest.length - (2 - 1 - 1))) >>= fun d => pure ([x] ++ [d] ++ rest.drop (rest.length - (2 - 1 - 1)))) _ _ _
  rw [em, List.take_length, List.drop_length]
  have he : ∀ b o, s.heap.get? b = some o → h₂.get? b = some o := fun b o e => hk b o (Nat.ne_of_lt (Heap.lt_size e)) (hs₁.extBut b o (Nat.ne_of_lt (Heap.lt_size e)) (Heap.get?_push_of_some _ e))
  exact wpAny_bind (wpAny_newList (wpAny_pure (h h₂ tk he)) (by omega))
section
variable {X : Cx} {E : XK} {Φ : CallA} {pos : Pos} {e : Expr} {e' : Exp} {st : Stmt}
/-- a, *b = a tuple -/
def gStar (K : PySem.W.Frag) (t : TGs) : TG := fun v σ H Q => ∃ a x xs, v = .ref a ∧ SqT K H a (x :: xs) ∧ ∀ p, H p = none → t [x, .ref p] σ (upd H p (.lst xs)) Q
theorem pg_star {a b : Expr} {k : Nat} {ps : Pos} {t : TGs} (hc : X.calm = true) (h : PGs X [a, b] t) (hs : noStar a = true) (hs2 : noStar b = true) : PG X (.Tuple [a, .Starred b ps] k pos) (gStar X.K t) := by
  refine ⟨fun pins s σ H v u Q I r hw => ?_⟩
  obtain ⟨p0, x, xs, e1, hq, hw⟩ := hw
  subst e1
  cases r
  obtain ⟨its, rv, ht, hz⟩ := I.tuple hq
  cases rv with
  | @cons _ ux _ uxs rx rr =>
    have ea : assignEach [a, .Starred b ps] X.env = [(false, assign a X.env), (true, assign b X.env)] := by rw [assignEach_cons hs]; rfl
    have eb : (assignEach [a, b] X.env).map (·.2) = [assign a X.env, assign b X.env] := by rw [assignEach_cons hs, assignEach_cons hs2]; rfl
    refine star_tup (rest := uxs) (x := ux) ht (I.ok.hd hc) (by rw [ea]; rfl) (by rw [ea]; rfl) rfl (by have := rr.length; simp at hz ⊢; omega) fun h' tk hk => ?_
    have I1 : Inv X pins σ H { s with heap := h', toks := tk } := I.kept hk
    have I2 : Inv X pins σ (upd H h'.objs.size (.lst xs)) { s with heap := h'.push { cls := .type "list", data := .seq uxs.toArray }, toks := tk } :=
      I1.laid (t' := tk) (fun b u e => Heap.get?_push_of_some _ e) (Nat.le_refl _) ⟨by simp at hz; omega, uxs, 0, rr, Heap.get?_push_size _ rfl⟩
    have q := h.run pins _ σ _ [x, .ref h'.objs.size] [ux, .ref h'.objs.size] Q I2 (.cons rx (.cons rfl .nil)) (hw _ (I1.hok.fresh (Nat.le_refl _)))
    rw [eb] at q
    rw [ea]
    exact q
theorem s_star {a b : Nat} (hc : X.calm = true) (hab : a ≠ b) (he : PE X e (tE X E Φ e')) (h : PS X st (tAsg (tE X E Φ e') (gStar X.K (gCons (gName a) (gCons (gName b) gNil))))) : PS X st (tS X E Φ (.star a b e')) := by
  refine ⟨fun pins s σ H D I hq => h.run pins s σ H D I ?_⟩
  obtain ⟨ρ0, ex0, H0, ρ, ex, ws, aσ, ah, R, P⟩ := hq
  simp only [evS, Post.bind] at P
  refine ⟨ρ, ex, ws, aσ, ah, R.st, P.imp (fun v h1 P ρ1 H1 v1 a1 hp1 r1 => ?_) (fun _ _ k => R.exc k)⟩
  cases v <;> (try simp only at P) <;> (try exact P.elim)
  rename_i xs
  cases xs with
  | nil => exact P.elim
  | cons y ys =>
    simp only [Post.bind] at P
    obtain ⟨aσ2, e3, P⟩ := P.lift
    obtain ⟨aσ1, e4, e5⟩ := Option.bind_eq_some_iff.mp e3
    cases setSlot_some e4
    cases r1 with
    | @tup l _ vs sq rs =>
      cases rs with
      | @cons _ vy _ vys ry rys =>
        refine ⟨l, vy, vys, rfl, sq, fun p np => ?_⟩
        refine ⟨_, _, rfl, _, _, rfl, rfl, ?_⟩
        have R1 := (R.go a1 hp1).set (i := a) ry
        have a2 : Ext ρ1 H1 ρ1 (upd H1 p (.lst vys)) := ext_new hp1 np
        have nx : ¬ ex p := fun x => hp1.exOk p x np
        have npr : p ∉ ρ1 := fun m => hp1.ne m np
        have hex : ∀ b, H1 b ≠ none → ¬ ex b → ¬ exP ex p b := fun b h1 h2 h3 => h3.elim h2 fun e => by subst e; exact h1 np
        have st1 : Stp ρ1 ex H1 ρ1 (exP ex p) (upd H1 p (.lst vys)) := a2.stp hex
        have hp2 : HRel X.K X.mg ρ1 (exP ex p) h1 (upd H1 p (.lst vys)) := by
          have q := hrel_new (o := .lst vys) hp1 np
          refine ⟨q.len, q.nd, fun a m x => x.elim (q.out a m) (fun e => by subst e; exact npr m), fun a x => x.elim (q.exOk a) (fun e => by subst e; rw [upd_same]; simp), fun n c a e1 e2 => ?_⟩
          refine (hp1.cell n c a e1 e2).step st1 ?_
          rw [upd_ne (fun e => by subst e; exact hp1.ne (List.mem_of_getElem? e2) np)]
        have S1 := R1.st.stp a2 st1 (fun b x => .inl x) hp2
        have nw : ∀ (k : Nat), ws[k]? ≠ some (some p) := fun k q => R1.st.hp.exOk p (R1.st.own k p q) np
        unfold setSlot at e5
        split at e5
        · cases e5
          refine (show FlC X ρ0 ex0 H0 ρ ex H D (.nx _) h1 from P) ρ1 (exP ex p) (ws.set b (some p)) _ _ ⟨S1.setOwn (.inr rfl) nw upd_same (rys.step st1), R1.ext.trans a2, fun a x => .inl (R1.exL a x), fun k a ej => ?_, R1.in0, R1.ex00⟩ (a1.step.trans st1)
          by_cases hk : b = k
          · subst hk
            by_cases hi : b < ws.length
            · rw [List.getElem?_set_self hi] at ej; cases ej; exact R1.none0 np
            · rw [List.getElem?_eq_none (by simpa using hi)] at ej; cases ej
          · rw [List.getElem?_set_ne hk] at ej; exact R1.own0 k a ej
        · cases e5
theorem s_ext {i : Nat} (h : PS X st (tDrop (tBM X.K "list" rExtend (tVar i) (tCons (tE X E Φ e') tNil)))) : PS X st (tS X E Φ (.ext i e')) := by
  refine ⟨fun pins s σ H D I hq => h.run pins s σ H D I ?_⟩
  obtain ⟨ρ0, ex0, H0, ρ, ex, ws, aσ, ah, R, P⟩ := hq
  simp only [evS] at P
  split at P
  · rename_i xs hs
    obtain ⟨v, w0, g1, g2, p, vs, q1, q2, q3, r⟩ := R.st.slotAt hs
    subst q1 q2
    rw [Post.bind] at P
    refine ⟨.ref p, g1, .inl ⟨rfl, vs, .of q3⟩, ρ, ex, ws, aσ, ah, R.st, P.imp (fun x h1 P ρ1 H1 v1 a1 hp1 r1 => ?_) (fun _ _ k => R.exc k)⟩
    cases x <;> (try simp only at P) <;> (try exact P.elim)
    rename_i ys
    obtain ⟨hl, P⟩ := P.ite
    cases r1 with
    | @lst b _ us e0 n0 x0 r1 =>
      have R1 := R.go a1 hp1
      have xp : ex p := R.st.own i p g2
      have e1 : H1 p = some (.lst vs) := a1.keep p _ q3 (fun m => R.st.hp.out p m xp)
      have s1 : Stp ρ1 ex H1 ρ1 ex (upd H1 p (.lst (vs ++ us))) := .atEx xp e1
      have r' := r.step (a1.step (ex := ex))
      refine ⟨p, b, vs, us, rfl, rfl, e1, e0, by rw [← r.length, ← r1.length]; exact hl, ?_⟩
      have hi : i < aσ.length := (List.getElem?_eq_some_iff.mp hs).1
      have S2 : StRel X.K X.mg ρ1 ex ws (aσ.set i (.ol (xs ++ ys))) h1 σ (upd H1 p (.lst (vs ++ us))) :=
        ⟨hp1.atEx xp e1, by simp [R1.st.len], R1.st.wlen, fun j s u w e1' e2 e3 => by
          by_cases hj : i = j
          · subst hj
            rw [List.getElem?_set_self hi] at e1'
            cases e1'
            rw [g1] at e2; cases e2
            rw [g2] at e3; cases e3
            exact ⟨p, _, rfl, rfl, upd_same, (r'.append r1).step s1⟩
          · rw [List.getElem?_set_ne hj] at e1'
            have q := R1.st.slot j s u w e1' e2 e3
            cases s with
            | un => trivial
            | vl x =>
              obtain ⟨u', e, r⟩ := q
              exact ⟨u', e, r.step s1⟩
            | ol ys =>
              obtain ⟨b, us, f1, f2, f3, r⟩ := q
              subst f2
              exact ⟨b, us, f1, rfl, by rw [upd_ne (fun q => by subst q; exact hj (R1.st.inj i j b g2 e3))]; exact f3, r.step s1⟩, R1.st.own, R1.st.inj⟩
      exact (show FlC X ρ0 ex0 H0 ρ ex H D (.nx _) h1 from P) ρ1 ex ws σ _ ⟨S2, R1.ext.at0 (R.own0 i p g2), R1.exL, R1.own0, R1.in0, R1.ex00⟩ (a1.step.trans s1)
  · exact P.elim
end
/-! ### several names at once -/
inductive Mix (K : PySem.W.Frag) (mg : Str → Option Value) (ρ : List Addr) (ex : Addr → Prop) (H : Hp) : List Bool → List AV → List V → List Addr → Prop
  | nil : Mix K mg ρ ex H [] [] [] []
  | val {x : AV} {v : V} {os : List Bool} {xs : List AV} {vs : List V} {ps : List Addr} : Rep K mg ρ ex H x v → Mix K mg ρ ex H os xs vs ps → Mix K mg ρ ex H (false :: os) (x :: xs) (v :: vs) ps
  | own {ys : List AV} {ws : List V} {p : Addr} {os : List Bool} {xs : List AV} {vs : List V} {ps : List Addr} : H p = some (.lst ws) → Reps K mg ρ ex H ys ws → Mix K mg ρ ex H os xs vs ps → Mix K mg ρ ex H (true :: os) (.lst ys :: xs) (.ref p :: vs) (p :: ps)
def exs (ex : Addr → Prop) : List Addr → Addr → Prop
  | [] => ex
  | p :: ps => exs (exP ex p) ps
theorem exs_iff : ∀ {ps : List Addr} {ex : Addr → Prop} {b : Addr}, exs ex ps b ↔ ex b ∨ b ∈ ps
  | [], ex, b => by simp [exs]
  | p :: ps, ex, b => by
    show exs (exP ex p) ps b ↔ _
    rw [exs_iff]
    unfold exP
    rw [List.mem_cons, or_assoc]
def KoM (X : Cx) (ρ : List Addr) (ex : Addr → Prop) (H : Hp) (Q : List V → Hp → Prop) (os : List Bool) (xs : List AV) (ah' : AH) : Prop :=
  ∀ ρ' H' vs ps, Ext ρ H ρ' H' → HRel X.K X.mg ρ' (exs ex ps) ah' H' → (∀ p ∈ ps, H p = none) → ps.Nodup → Mix X.K X.mg ρ' (exs ex ps) H' os xs vs ps → Q vs H'
def tMix (X : Cx) (E : XK) (Φ : CallA) (os : List Bool) (es : List Exp) : TA := fun σ H Q => ∃ ρ ex ws aσ ah, StRel X.K X.mg ρ ex ws aσ ah σ H ∧ Post (evEs Φ es aσ ah) (KoM X ρ ex H Q os) (ExC X E ρ ex H)
section
variable {X : Cx} {E : XK} {Φ : CallA} {pos : Pos} {a e : Expr} {a' e' : Exp} {es : List Expr} {es' : List Exp} {os : List Bool} {st : Stmt}
theorem none_back {ρ ρ1 : List Addr} {ex1 : Addr → Prop} {H H1 : Hp} {ah1 : AH} (a : Ext ρ H ρ1 H1) (hp1 : HRel X.K X.mg ρ1 ex1 ah1 H1) {p : Addr} (n : H1 p = none) : H p = none := by
  cases z : H p with
  | none => rfl
  | some u =>
    by_cases m : p ∈ ρ
    · exact absurd n (hp1.ne (a.sub m))
    · rw [a.keep p u z m] at n; cases n
theorem exs_new {ex : Addr → Prop} {ps : List Addr} {H : Hp} (h : ∀ p ∈ ps, H p = none) (b : Addr) (n : H b ≠ none) (x : ¬ ex b) : ¬ exs ex ps b := fun q => by
  rcases exs_iff.mp q with q | q
  · exact x q
  · exact n (h b q)
theorem mix_nil : PA X [] (tMix X E Φ [] []) := by
  refine ⟨fun pos pins s σ H Q I hq => pa_nil.run pos pins s σ H Q I ?_⟩
  obtain ⟨ρ, ex, ws, aσ, ah, S, P⟩ := hq
  exact (show KoM X ρ ex H Q [] [] ah from P) ρ H [] [] .refl S.hp (fun p m => by cases m) .nil .nil
theorem mix_val (ha : PE X a (tE X E Φ a')) (h : PA X es (tMix X E Φ os es')) (hs : noStar a = true) : PA X (a :: es) (tMix X E Φ (false :: os) (a' :: es')) := by
  refine ⟨fun pos pins s σ H Q I hq => (pa_cons ha h (by cases a <;> first | rfl | cases hs)).run pos pins s σ H Q I ?_⟩
  obtain ⟨ρ, ex, ws, aσ, ah, S, P⟩ := hq
  simp only [evEs, Post.bind] at P
  refine ⟨ρ, ex, ws, aσ, ah, S, P.imp (fun x h1 P ρ1 H1 v1 a1 hp1 r1 => ?_) (fun _ _ k => k)⟩
  refine ⟨ρ1, ex, ws, aσ, h1, S.ext a1 hp1, P.imp (fun ys h2 P ρ2 H2 vs ps a2 hp2 np nd mx => ?_) (fun _ _ k => k.ext a1)⟩
  exact (show KoM X ρ ex H Q (false :: os) (x :: ys) h2 from P) ρ2 H2 (v1 :: vs) ps (a1.trans a2) hp2 (fun p m => none_back a1 hp1 (np p m)) nd (.val (r1.step (a2.stp (exs_new np))) mx)
theorem mix_own (ha : PE X a (tL X E Φ a')) (h : PA X es (tMix X E Φ os es')) (hs : noStar a = true) : PA X (a :: es) (tMix X E Φ (true :: os) (a' :: es')) := by
  refine ⟨fun pos pins s σ H Q I hq => (pa_cons ha h (by cases a <;> first | rfl | cases hs)).run pos pins s σ H Q I ?_⟩
  obtain ⟨ρ, ex, ws, aσ, ah, S, P⟩ := hq
  simp only [evEs, Post.bind] at P
  refine ⟨ρ, ex, ws, aσ, ah, S, P.imp (fun x h1 P xs ev ρ1 H1 p vs a1 np hp1 e1 r1 => ?_) (fun _ _ k => k)⟩
  subst ev
  have hex : ∀ b, H b ≠ none → ¬ ex b → ¬ exP ex p b := fun b h1 h2 h3 => h3.elim h2 fun e => by subst e; exact h1 np
  have st1 := a1.stp hex
  refine ⟨ρ1, exP ex p, ws, aσ, h1, S.stp a1 st1 (fun b x => .inl x) hp1, P.imp (fun ys h2 P ρ2 H2 vs2 ps a2 hp2 np2 nd mx => ?_) (fun x h2 k ρ2 H2 c d a2 hp2 r2 => k ρ2 H2 c d (a1.trans a2) hp2.unP (r2.less fun _ x => .inl x))⟩
  exact (show KoM X ρ ex H Q (true :: os) (.lst xs :: ys) h2 from P) ρ2 H2 (.ref p :: vs2) (p :: ps) (a1.trans a2) hp2 (fun q m => by
    rcases List.mem_cons.mp m with e | m
    · subst e; exact np
    · exact none_back a1 hp1 (np2 q m)) (List.nodup_cons.mpr ⟨fun m => (by rw [np2 p m] at e1; cases e1), nd⟩) (.own (a2.keep p _ e1 hp1.notP) (r1.step (a2.stp (exs_new np2))) mx)
def setV : L2.St → List Nat → List V → L2.St
  | σ, i :: is, v :: vs => setV (σ.set i (some v)) is vs
  | σ, _, _ => σ
theorem setMix {ρ0 ρ : List Addr} {ex0 ex : Addr → Prop} {H0 H : Hp} {ah : AH} : ∀ {is : List Nat} {os : List Bool} {xs : List AV} {vs : List V} {ps : List Addr} {ws : List (Option Addr)} {aσ aσ' : ASt} {σ : L2.St}, Mix X.K X.mg ρ ex H os xs vs ps → SR X ρ0 ex0 H0 ρ ex ws aσ ah σ H →
    (∀ p ∈ ps, ex p ∧ H0 p = none ∧ ∀ k : Nat, ws[k]? ≠ some (some p)) → ps.Nodup → setAll aσ is os xs = some aσ' → ∃ ws', SR X ρ0 ex0 H0 ρ ex ws' aσ' ah (setV σ is vs) H
  | [], _, _, _, _, ws, _, _, _, .nil, R, _, _, e => by
    simp only [setAll, Option.some.injEq] at e
    subst e
    exact ⟨ws, R⟩
  | _ :: _, _, _, _, _, ws, _, _, _, .nil, R, _, _, e => by simp [setAll] at e
  | [], _, _, _, _, ws, _, _, _, .val _ _, R, _, _, e => by simp [setAll] at e
  | [], _, _, _, _, ws, _, _, _, .own _ _ _, R, _, _, e => by simp [setAll] at e
  | i :: is, _, _, _, _, ws, aσ, _, _, .val r mx, R, hp, nd, e => by
    simp only [setAll, Option.bind_eq_some_iff] at e
    obtain ⟨aσ1, e1, e2⟩ := e
    cases setSlot_some e1
    exact setMix (is := is) mx (R.set r) hp nd e2
  | i :: is, _, _, _, _, ws, aσ, _, _, @Mix.own _ _ _ _ _ ys us p os xs vs ps ep r mx, R, hp, nd, e => by
    simp only [setAll, Option.bind_eq_some_iff] at e
    obtain ⟨aσ1, e1, e2⟩ := e
    cases setSlot_some e1
    obtain ⟨x1, x2, x3⟩ := hp p List.mem_cons_self
    rw [List.nodup_cons] at nd
    have key : ∀ (k : Nat) (q : Addr), (ws.set i (some p))[k]? = some (some q) → q = p ∨ ws[k]? = some (some q) := fun k q ek => by
      by_cases hk : i = k
      · subst hk
        by_cases hi : i < ws.length
        · rw [List.getElem?_set_self hi] at ek; cases ek; exact .inl rfl
        · rw [List.getElem?_eq_none (by simpa using hi)] at ek; cases ek
      · rw [List.getElem?_set_ne hk] at ek; exact .inr ek
    refine setMix (is := is) mx ⟨R.st.setOwn (i := i) x1 x3 ep r, R.ext, R.exL, fun k q ek => ?_, R.in0, R.ex00⟩ (fun q m => ?_) nd.2 e2
    · rcases key k q ek with rfl | ek
      · exact x2
      · exact R.own0 k q ek
    · obtain ⟨y1, y2, y3⟩ := hp q (List.mem_cons_of_mem _ m)
      refine ⟨y1, y2, fun k ek => ?_⟩
      rcases key k q ek with rfl | ek
      · exact nd.1 m
      · exact y3 k ek
theorem mix_len {K : PySem.W.Frag} {mg : Str → Option Value} {ρ : List Addr} {ex : Addr → Prop} {H : Hp} : ∀ {os : List Bool} {xs : List AV} {vs : List V} {ps : List Addr}, Mix K mg ρ ex H os xs vs ps → vs.length = os.length
  | _, _, _, _, .nil => rfl
  | _, _, _, _, .val _ m => congrArg Nat.succ (mix_len m)
  | _, _, _, _, .own _ _ m => congrArg Nat.succ (mix_len m)
theorem s_pars2 {i j : Nat} (hl : os.length = 2) (h : PS X st (tPar i j (tMix X E Φ os es'))) : PS X st (tS X E Φ (.pars [i, j] os es')) := by
  refine ⟨fun pins s σ H D I hq => h.run pins s σ H D I ?_⟩
  obtain ⟨ρ0, ex0, H0, ρ, ex, ws, aσ, ah, R, P⟩ := hq
  simp only [evS, Post.bind] at P
  refine ⟨ρ, ex, ws, aσ, ah, R.st, P.imp (fun xs h1 P ρ1 H1 vs ps a1 hp1 np nd mx => ?_) (fun _ _ k => R.exc k)⟩
  obtain ⟨aσ1, e1, P⟩ := P.lift
  have st1 := a1.stp (exs_new (ex := ex) np)
  have R1 : SR X ρ0 ex0 H0 ρ1 (exs ex ps) ws aσ h1 σ H1 := ⟨R.st.stp a1 st1 (fun b x => exs_iff.mpr (.inl x)) hp1, R.ext.trans a1, fun a x => exs_iff.mpr (.inl (R.exL a x)), R.own0, R.in0, R.ex00⟩
  obtain ⟨ws', R2⟩ := setMix mx R1 (fun p m => ⟨exs_iff.mpr (.inr m), R.none0 (np p m), fun k q => R.st.hp.exOk p (R.st.own k p q) (np p m)⟩) nd e1
  have q := (show FlC X ρ0 ex0 H0 ρ ex H D (.nx _) h1 from P) ρ1 (exs ex ps) ws' _ H1 R2 st1
  have hv := mix_len mx
  rw [hl] at hv
  match vs, hv with
  | [v, w], _ => exact ⟨v, w, rfl, q⟩
theorem s_pars3 {i j l : Nat} (hl : os.length = 3) (h : PS X st (tPar3 i j l (tMix X E Φ os es'))) : PS X st (tS X E Φ (.pars [i, j, l] os es')) := by
  refine ⟨fun pins s σ H D I hq => h.run pins s σ H D I ?_⟩
  obtain ⟨ρ0, ex0, H0, ρ, ex, ws, aσ, ah, R, P⟩ := hq
  simp only [evS, Post.bind] at P
  refine ⟨ρ, ex, ws, aσ, ah, R.st, P.imp (fun xs h1 P ρ1 H1 vs ps a1 hp1 np nd mx => ?_) (fun _ _ k => R.exc k)⟩
  obtain ⟨aσ1, e1, P⟩ := P.lift
  have st1 := a1.stp (exs_new (ex := ex) np)
  have R1 : SR X ρ0 ex0 H0 ρ1 (exs ex ps) ws aσ h1 σ H1 := ⟨R.st.stp a1 st1 (fun b x => exs_iff.mpr (.inl x)) hp1, R.ext.trans a1, fun a x => exs_iff.mpr (.inl (R.exL a x)), R.own0, R.in0, R.ex00⟩
  obtain ⟨ws', R2⟩ := setMix mx R1 (fun p m => ⟨exs_iff.mpr (.inr m), R.none0 (np p m), fun k q => R.st.hp.exOk p (R.st.own k p q) (np p m)⟩) nd e1
  have q := (show FlC X ρ0 ex0 H0 ρ ex H D (.nx _) h1 from P) ρ1 (exs ex ps) ws' _ H1 R2 st1
  have hv := mix_len mx
  rw [hl] at hv
  match vs, hv with
  | [u, v, w], _ => exact ⟨u, v, w, rfl, q⟩
end
end G

set_option Elab.async false
set_option linter.all false
set_option maxRecDepth 100000
set_option maxHeartbeats 4000000
/-! GX: written dicts with text keys. -/
namespace G
open PySem PySem.Spec PyProof.Rows L2
abbrev KTab := List (Str × AV)
/-- the module's name x is a written dict with these keys and values -/
structure KdOk (K : PySem.W.Frag) (mg : Str → Option Value) (w : World) (x : Str) (t : KTab) : Prop where
  ex : ∃ d es n, mg x = some (.ref d) ∧ KDict K w d es n ∧ (∀ z, t.lookup z = none → PySem.W.nsIn K d z = some none) ∧ ∀ z v, t.lookup z = some v → ∃ u v', PySem.W.nsIn K d z = some (some u) ∧ RelV v' u ∧ ∀ ρ ex H, Rep K mg ρ ex H v v'
section
variable {X : Cx} {E : XK} {Φ : CallA} {pos : Pos} {a b : Expr} {a' b' : Exp} {x : Str} {t : KTab}
theorem pe_refD {d : Addr} {p : Pos} (hg : Gl X x) (hm : X.mg x = some (.ref d)) (hd : (x == ("__debug__" : Str)) = false) : PE X (.Name x p) (tC (.ref d)) := pe_glob hg hm rfl hd
theorem kin_read {n : Bool} {d : Addr} {es : Array DictEntry} {m : Nat} {σ : L2.St} {H : Hp} {Q : VK} {r : R2} (hr : ∀ z H (Q : VK), Q (.bl (if n then !(t.lookup z).isSome else (t.lookup z).isSome)) H → r (.str z) (.ref d) H Q) (hq : tE X E Φ (.kin n a' t) σ H Q) : tOp r (tE X E Φ a') (tC (.ref d)) σ H Q := by
  obtain ⟨ρ, ex, ws, aσ, ah, S, P⟩ := hq
  simp only [evE, Post.bind] at P
  refine ⟨ρ, ex, ws, aσ, ah, S, P.imp (fun v h1 P ρ1 H1 v1 a1 hp1 r1 => ?_) (fun _ _ k => k)⟩
  cases v <;> (try simp only at P) <;> (try exact P.elim)
  cases r1
  exact hr _ _ _ ((show Kok X ρ ex H Q _ h1 from P) ρ1 H1 _ a1 hp1 (.bl _))
theorem kd_in (k : KdOk X.K X.mg X.w x t) (n : Bool) : ∃ d r, X.mg x = some (.ref d) ∧ OpR X (compareOp (if n then .NotIn else .In)) r ∧ ∀ z H (Q : VK), Q (.bl (if n then !(t.lookup z).isSome else (t.lookup z).isSome)) H → r (.str z) (.ref d) H Q := by
  obtain ⟨d, es, m, e1, D, n0, n1⟩ := k.ex
  have hz : ∀ z, ∃ r, PySem.W.nsIn X.K d z = some r ∧ r.isSome = (t.lookup z).isSome := fun z => by
    cases e : t.lookup z with
    | none => exact ⟨none, n0 z e, rfl⟩
    | some v =>
      obtain ⟨u, v', e2, _, _⟩ := n1 z v e
      exact ⟨some u, e2, rfl⟩
  cases n with
  | false =>
    refine ⟨d, _, e1, op_in_kd D, fun z H Q q => ?_⟩
    obtain ⟨r, e2, e3⟩ := hz z
    exact ⟨z, r, rfl, rfl, e2, by rw [e3]; exact q⟩
  | true =>
    refine ⟨d, _, e1, op_notIn_kd D, fun z H Q q => ?_⟩
    obtain ⟨r, e2, e3⟩ := hz z
    exact ⟨z, r, rfl, rfl, e2, by rw [e3]; exact q⟩
theorem snd_kin {p : Pos} {n : Bool} (hg : Gl X x) (hd : (x == ("__debug__" : Str)) = false) (k : KdOk X.K X.mg X.w x t) (ha : PE X a (tE X E Φ a')) (hm : behindInMarks (if n then .NotIn else .In) (.Name x p) = false) : PE X (.Compare a [if n then .NotIn else .In] [.Name x p] pos) (tE X E Φ (.kin n a' t)) := by
  obtain ⟨d, r, e1, ho, hr⟩ := kd_in k n
  exact ⟨fun pins s σ H Q I hq => (pe_cmpR ho ha (pe_refD hg e1 hd) hm).run pins s σ H Q I (kin_read (es := #[]) (m := 0) hr hq)⟩
theorem st_kin {p : Pos} {n : Bool} (hg : Gl X x) (hd : (x == ("__debug__" : Str)) = false) (k : KdOk X.K X.mg X.w x t) (ha : PE X a (tE X E Φ a')) (hm : behindInMarks (if n then .NotIn else .In) (.Name x p) = false) : PT X (.Compare a [if n then .NotIn else .In] [.Name x p] pos) (tT X E Φ (.e (.kin n a' t))) := by
  obtain ⟨d, r, e1, ho, hr⟩ := kd_in k n
  refine ⟨fun pins s σ H Q I hq => (pt_cmpR ho ha (pe_refD hg e1 hd) hm).run pins s σ H Q I (kin_read (es := #[]) (m := 0) hr ?_)⟩
  obtain ⟨ρ, ex, ws, aσ, ah, S, P⟩ := hq
  simp only [evT, peek, evE, Post.bind] at P
  refine ⟨ρ, ex, ws, aσ, ah, S, ?_⟩
  simp only [evE, Post.bind]
  refine P.imp (fun x h1 P => ?_) (fun _ _ k => k)
  cases x <;> (try simp only [Rs.bind_no] at P ⊢) <;> (try exact P.elim)
  intro ρ1 H1 v1 a1 hp1 r1
  cases r1
  exact ⟨_, rfl, (show KoB X ρ ex H Q _ h1 from P) ρ1 H1 a1 hp1⟩
theorem snd_kget {p : Pos} (hg : Gl X x) (hd : (x == ("__debug__" : Str)) = false) (k : KdOk X.K X.mg X.w x t) (ha : PE X a (tE X E Φ a')) (hs : NoSl a) : PE X (.Subscript (.Name x p) a pos) (tE X E Φ (.kget t a')) := by
  obtain ⟨d, es, m, e1, D, n0, n1⟩ := k.ex
  refine ⟨fun pins s σ H Q I hq => ?_⟩
  refine subD_of PySem.F.slot_dict_getitem.lookup hs (thn ((pe_refD hg e1 hd).run pins s σ H (fun x H1 => x = .ref d ∧ H1 = H) I ⟨rfl, rfl⟩) fun u s1 ⟨x, H1, I1, rx, ex, eH⟩ => ?_)
  subst ex eH
  have hq' : tE X E Φ a' σ H1 fun y H2 => ∃ z u0 v', y = .str z ∧ PySem.W.nsIn X.K d z = some (some u0) ∧ RelV v' u0 ∧ Q v' H2 := by
    obtain ⟨ρ, ex, ws, aσ, ah, S, P⟩ := hq
    simp only [evE, Post.bind] at P
    refine ⟨ρ, ex, ws, aσ, ah, S, P.imp (fun v h1 P ρ1 H1 v1 a1 hp1 r1 => ?_) (fun _ _ k => k)⟩
    cases v <;> (try simp only at P) <;> (try exact P.elim)
    rename_i z
    obtain ⟨w, ew, P⟩ := P.lift
    cases r1
    obtain ⟨u0, v', e2, e3, e4⟩ := n1 z w ew
    exact ⟨z, u0, v', rfl, e2, e3, (show Kok X ρ ex _ Q _ h1 from P) ρ1 H1 _ a1 hp1 (e4 _ _ _)⟩
  refine thn (ha.run pins s1 σ _ _ I1 hq') fun iv s2 ⟨y, H2, I2, ry, z, u0, v', ey, e2, e3, q⟩ => ?_
  subst ey
  cases rx
  exact ⟨kd_type D I2, op_item_kd D pins s2 σ H2 (.ref d) (.str z) _ iv Q I2 rfl ry ⟨z, u0, v', rfl, rfl, e2, e3, q⟩⟩
/-- d.get(y, x) of a written dict -/
theorem snd_kgetD {e f : Expr} {e' f' : Exp} {p apos cpos : Pos} (hg : Gl X x) (hd : (x == ("__debug__" : Str)) = false) (k : KdOk X.K X.mg X.w x t) (he : PE X e (tE X E Φ e')) (hf : PE X f (tE X E Φ f')) (m : M2 X (.Name x p) "get" apos e f cpos) :
    PE X (.Call (.Attribute (.Name x p) "get" apos) [e, f] [] cpos) (tE X E Φ (.kgetD t e' f')) := by
  obtain ⟨d, es, n, e1, D, n0, n1⟩ := k.ex
  refine ⟨fun pins s σ H Q I hq => ?_⟩
  refine wpAny_Call_method m.base m.few m.line PySem.F.plainAttrs_dict PySem.F.slot_dict_get PySem.F.type_dict_get (thn ((pe_refD hg e1 hd).run pins s σ H (fun x H1 => x = .ref d ∧ H1 = H) I ⟨rfl, rfl⟩) fun u s1 ⟨x, H1, I1, rx, ex, eH⟩ => ?_)
  subst ex eH
  obtain rfl : u = Value.ref d := rx
  have mo := PySem.W.mapOf_K (prog := X.prog) (w := X.w) I1.kIn D.at_ D.lit
  refine ⟨mo.typeIs, mo.noDict, ?_⟩
  rw [m.trees]
  have hq' : tE X E Φ e' σ H1 fun y H2 => tE X E Φ f' σ H2 fun w H3 => ∃ z o, y = .str z ∧ PySem.W.nsIn X.K d z = some o ∧ ∀ r, RelV w r → ∃ v', RelV v' (o.getD r) ∧ Q v' H3 := by
    obtain ⟨ρ, ex, ws, aσ, ah, S, P⟩ := hq
    simp only [evE, Post.bind] at P
    refine ⟨ρ, ex, ws, aσ, ah, S, P.imp (fun v h1 P ρ1 H1 v1 a1 hp1 r1 => ?_) (fun _ _ k => k)⟩
    refine ⟨ρ1, ex, ws, aσ, h1, S.ext a1 hp1, P.imp (fun y h2 P ρ2 H2 v2 a2 hp2 r2 => ?_) (fun _ _ k => k.ext a1)⟩
    have hv : ∃ z, v = .str z := by
      cases v <;> first | exact ⟨_, rfl⟩ | exact P.elim
    obtain ⟨z, rfl⟩ := hv
    cases r1
    have P : Kok X ρ ex _ Q _ h2 := P
    cases el : t.lookup z with
    | none =>
      rw [el] at P
      exact ⟨z, none, rfl, n0 z el, fun r rr => ⟨v2, rr, P ρ2 H2 v2 (a1.trans a2) hp2 r2⟩⟩
    | some w =>
      rw [el] at P
      obtain ⟨u0, v', e2, e3, e4⟩ := n1 z w el
      exact ⟨z, some u0, rfl, e2, fun r rr => ⟨v', e3, P ρ2 H2 v' (a1.trans a2) hp2 (e4 _ _ _)⟩⟩
  refine Calls.callWith_builtin rfl (Calls.evalArgs_plain (Calls.spliced_cons (thn (he.run pins s1 σ H1 _ I1 hq') fun iv s2 ⟨y, H2, I2, ry, q2⟩ =>
    Calls.spliced_cons (thn (hf.run pins s2 σ H2 _ I2 q2) fun fv s3 ⟨w, H3, I3, rz, z, o, ey, e2, q3⟩ => Calls.spliced_nil ?_))))
  subst ey
  obtain ⟨tk, rfl⟩ := ry
  obtain ⟨v', rv, q⟩ := q3 fv rz
  have mo3 := PySem.W.mapOf_K (prog := X.prog) (w := X.w) I3.kIn D.at_ D.lit
  refine call_meetsIn PySem.F.slot_dict_get mo3.typeIs PySem.F.entry_dict_get (PySem.F.args_dict_get_3 _ _ _) (meets_dict_get_default (strKind X.prog X.w) d (PySem.strKind_is X.prog X.w z tk) D.low fv) ⟨_, mo3, ?_⟩
  rw [PySem.W.find_K D.at_ e2]
  exact ⟨v', H3, I3.tok _, rv, q⟩
end
end G

set_option Elab.async false
set_option linter.all false
set_option maxRecDepth 100000
set_option maxHeartbeats 4000000
/-! GK: the check that a text of the small language is the program's text, and what follows from it. -/
namespace G
open PySem PySem.Spec PyProof.Rows L2

/-- a def that may be called: its name in the table, its parameters, the shapes of its calls by keywords (how many by place, the keywords, where each parameter's value stands) -/
structure FnI where
  key : Str
  ps : List Str
  kw : List Sh := []
  /-- how many values are written, the constants that fill up -/
  pos : List (Nat × List AV) := [(ps.length, [])]
/-- what the check knows -/
structure CK where
  N : List Str
  sc : Scope
  fnok : Str → Bool
  bl : List Str
  cs : List (Str × AV)
  fs : List (Str × FnI)
  kd : List (Str × KTab) := []
def CK.blk (Γ : CK) (scope : Scope) : CK := { Γ with sc := relS scope Γ.sc, fnok := fun x => scope.names.lookup x == some .cell }

/-! ### small checks -/
def visB (Γ : CK) (x : Str) : Bool := match Γ.sc.names.lookup x with
  | some .local => true
  | some .cell => true
  | some .free => true
  | _ => false
def locB (Γ : CK) (x : Str) : Bool := match Γ.sc.names.lookup x with
  | some .local => true
  | some .cell => Γ.fnok x
  | _ => false
def glB (Γ : CK) (x : Str) : Bool := match Γ.sc.names.lookup x with
  | some .globalImplicit => !(x == ("__debug__" : Str)) && !(x == ("__name__" : Str))
  | _ => false
def varB (Γ : CK) (i : Nat) (x : Str) : Bool := (Γ.N[i]? == some x) && visB Γ x && !(x == ("__debug__" : Str)) && !(x == ("__classdict__" : Str))
def storeB (Γ : CK) (i : Nat) (x : Str) : Bool := (Γ.N[i]? == some x) && locB Γ x
def blB (Γ : CK) (x : Str) : Bool := glB Γ x && Γ.bl.contains x
def isB : BOp → Operator → Bool
  | .add, .Add => true
  | .sub, .Sub => true
  | .mul, .Mult => true
  | .fdiv, .FloorDiv => true
  | .mod, .Mod => true
  | .pow, .Pow => true
  | _, _ => false
def isC : COp → CmpOp → Bool
  | .lt, .Lt => true
  | .le, .LtE => true
  | .gt, .Gt => true
  | .ge, .GtE => true
  | .eq, .Eq => true
  | .ne, .NotEq => true
  | .is, .Is => true
  | .isn, .IsNot => true
  | .mem, .In => true
  | .nmem, .NotIn => true
  | _, _ => false
theorem isB_ok {o : BOp} {p : Operator} (h : isB o p = true) : p = pyB o := by cases o <;> cases p <;> first | rfl | cases h
theorem isC_ok {o : COp} {p : CmpOp} (h : isC o p = true) : p = pyC o := by cases o <;> cases p <;> first | rfl | cases h
def ckK : AV → Const → Bool
  | .int i, .int j => i == j
  | .bl a, .bool b => a == b
  | .non, .none => true
  | .str x, .str y => x == y
  | _, _ => false
mutual
def avEq : AV → AV → Bool
  | .non, .non => true
  | .bl a, .bl b => a == b
  | .int a, .int b => a == b
  | .str a, .str b => a == b
  | .tup a, .tup b => avEqs a b
  | _, _ => false
def avEqs : List AV → List AV → Bool
  | [], [] => true
  | a :: as, b :: bs => avEq a b && avEqs as bs
  | _, _ => false
end
mutual
theorem avEq_ok : ∀ {a b : AV}, avEq a b = true → a = b
  | .non, b, h => by cases b <;> first | rfl | (simp [avEq] at h)
  | .bl a, b, h => by cases b <;> simp [avEq] at h; rw [h]
  | .int a, b, h => by cases b <;> simp [avEq] at h; rw [h]
  | .str a, b, h => by cases b <;> simp [avEq] at h; rw [h]
  | .tup a, b, h => by
    cases b <;> simp only [avEq, Bool.false_eq_true, reduceCtorEq] at h
    rw [avEqs_ok h]
  | .lst _, b, h => by simp [avEq] at h
  | .dct _ _, b, h => by simp [avEq] at h
  | .ref _, b, h => by simp [avEq] at h
  | .fn _, b, h => by simp [avEq] at h
  | .scr _, b, h => by simp [avEq] at h
theorem avEqs_ok : ∀ {a b : List AV}, avEqs a b = true → a = b
  | [], b, h => by cases b <;> first | rfl | (simp [avEqs] at h)
  | a :: as, b, h => by
    cases b <;> simp only [avEqs, Bool.false_eq_true, Bool.and_eq_true, reduceCtorEq] at h
    rw [avEq_ok h.1, avEqs_ok h.2]
end
def biName : Bi → Str
  | .len => "len"
  | .all => "all"
  | .any => "any"
  | .sum => "sum"
  | .min => "min"
  | .max => "max"
  | .sorted => "sorted"
  | .tuple => "tuple"
  | .list => "list"
  | .str => "str"
  | .int => "int"
  | .repr => "repr"
  | .bool => "bool"
theorem bi_boot (f : Bi) : bootBuiltins (biName f) = some (biId f) := by cases f <;> decide +kernel
theorem ty_boot (t : Ty) : bootBuiltins (Str.ofString (tyN t)) = some (.type (tyN t)) := by cases t <;> decide +kernel
def tyB (Γ : CK) (t : Ty) : Expr → Bool
  | .Name x _ => x == Str.ofString (tyN t) && blB Γ x
  | _ => false
def tysB (Γ : CK) : List Ty → List Expr → Bool
  | [], [] => true
  | t :: ts, e :: es => tyB Γ t e && tysB Γ ts es
  | _, _ => false
def plainIxB : Expr → Bool
  | .Slice _ _ _ _ => false
  | _ => true
def noSet : Expr → Bool
  | .Set _ _ _ => false
  | _ => true
/-- an expression whose test is its value's truth -/
def plainT : Expr → Bool
  | .UnaryOp .Not _ _ => false
  | .BoolOp _ _ _ => false
  | .IfExp _ _ _ _ => false
  | .Compare _ _ _ _ => false
  | _ => true
def one1 : Expr → Bool
  | .UnaryOp .USub (.Constant (.int i) _ _) _ => i == 1
  | _ => false
def isVar : Exp → Bool
  | .var _ => true
  | _ => false
/-- a comprehension's block -/
def blkB (N : List Str) (sc scope : Scope) (own : List (Str × Nat)) : Bool :=
  (scope.kind == .function) && scope.names.all (fun y => scope.names.lookup y.1 == some y.2) && own.all (fun p => N[p.2]? == some p.1)
    && scope.names.all (fun y => !(y.2 == .free) || (sc.names.lookup y.1 == some .cell || sc.names.lookup y.1 == some .free))
    && scope.names.all (fun y => !(y.2 == .local || y.2 == .cell) || ((own.map (·.1)).contains y.1 || !(N.contains y.1)))
theorem blkB_ok {N : List Str} {sc scope : Scope} {own : List (Str × Nat)} (h : blkB N sc scope own = true) : BlkOk N sc scope own := by
  simp only [blkB, Bool.and_eq_true, List.all_eq_true, beq_iff_eq, Bool.or_eq_true, Bool.not_eq_true', List.contains_iff_mem, beq_eq_false_iff_ne, ne_eq] at h
  obtain ⟨⟨⟨⟨h1, h2⟩, h3⟩, h4⟩, h5⟩ := h
  refine ⟨h1, h2, h3, fun y hy e => ?_, fun y hy e => ?_⟩
  · rcases h4 y hy with q | q
    · exact absurd e q
    · exact q
  · rcases h5 y hy with q | q
    · exact absurd e (by simpa using q)
    · rcases q with q | q
      · exact .inl q
      · exact .inr (by simpa using q)
def ownOf (N : List Str) (vs : List Nat) : List (Str × Nat) := vs.map fun i => (N.getD i ⟨#[]⟩, i)
theorem ownOf_map (N : List Str) (vs : List Nat) : (ownOf N vs).map (·.2) = vs := by
  unfold ownOf; rw [List.map_map]; exact List.map_id _

/-- constants behind a call's values -/
def csEq : List AV → List Exp → Bool
  | [], [] => true
  | v :: vs, e :: es => (match e with
    | .c w => avEq w v
    | _ => false) && csEq vs es
  | _, _ => false
theorem csEq_ok : ∀ {vs : List AV} {es : List Exp}, csEq vs es = true → es = vs.map .c
  | [], [], _ => rfl
  | [], _ :: _, h => by simp [csEq] at h
  | _ :: _, [], h => by simp [csEq] at h
  | v :: vs, e :: es, h => by
    simp only [csEq, Bool.and_eq_true] at h
    obtain ⟨h1, h2⟩ := h
    split at h1
    · rw [avEq_ok h1, csEq_ok h2]; rfl
    · cases h1
def tabEq : KTab → KTab → Bool
  | [], [] => true
  | (x, v) :: t, (y, w) :: u => (x == y) && avEq v w && tabEq t u
  | _, _ => false
theorem tabEq_ok : ∀ {t u : KTab}, tabEq t u = true → t = u
  | [], [], _ => rfl
  | [], _ :: _, h => by simp [tabEq] at h
  | _ :: _, [], h => by simp [tabEq] at h
  | (x, v) :: t, (y, w) :: u, h => by
    simp only [tabEq, Bool.and_eq_true, beq_iff_eq] at h
    obtain ⟨⟨rfl, h2⟩, h3⟩ := h
    rw [avEq_ok h2, tabEq_ok h3]
def kdB (Γ : CK) (x : Str) (t : KTab) : Bool := match Γ.kd.lookup x with
  | some u => tabEq u t
  | none => false
def inB : Bool → CmpOp → Bool
  | false, .In => true
  | true, .NotIn => true
  | _, _ => false
theorem inB_ok {n : Bool} {o : CmpOp} (h : inB n o = true) : o = if n then .NotIn else .In := by cases n <;> cases o <;> first | rfl | cases h
def mmB : Bi → Bool
  | .min => true
  | .max => true
  | _ => false
/-! ### the check -/
mutual
def ckG (Γ : CK) : Tgt → Expr → Bool
  | .nm i, e => (match e with
    | .Name x _ => storeB Γ i x
    | _ => false)
  | .tp ts, e => (match e with
    | .Tuple es _ _ => ckGs Γ ts es
    | _ => false)
def ckGs (Γ : CK) : List Tgt → List Expr → Bool
  | [], [] => true
  | t :: ts, e :: es => noStar e && ckG Γ t e && ckGs Γ ts es
  | _, _ => false
end
mutual
def ckE : Nat → CK → Exp → Expr → Bool
  | 0, _, _, _ => false
  | n + 1, Γ, e', e => match e' with
    | .c v => (match e with
      | .Constant k _ _ => ckK v k
      | .Name x _ => glB Γ x && (match Γ.cs.lookup x with
        | some w => avEq w v
        | none => false)
      | _ => false)
    | .var i => (match e with
      | .Name x _ => varB Γ i x
      | _ => false)
    | .bin o a b => (match e with
      | .BinOp pa op pb _ => isB o op && ckE n Γ a pa && ckE n Γ b pb
      | _ => false)
    | .neg a => (match e with
      | .UnaryOp .USub pa _ => ckE n Γ a pa
      | _ => false)
    | .not a => (match e with
      | .UnaryOp .Not pa _ => ckE n Γ a pa
      | _ => false)
    | .and a b => (match e with
      | .BoolOp .And (pa :: pb :: r) _ => ckE n Γ a pa && ckB n Γ false b (pb :: r)
      | _ => false)
    | .or a b => (match e with
      | .BoolOp .Or (pa :: pb :: r) _ => ckE n Γ a pa && ckB n Γ true b (pb :: r)
      | _ => false)
    | .cmp o a b => (match e with
      | .Compare pa [op] [pb] _ => isC o op && !(behindInMarks op pb) && ckP n Γ a pa && ckP n Γ b pb
      | _ => false)
    | .chain o p a b c => (match e with
      | .Compare pa [op, oq] [pb, pc] _ => isC o op && isC p oq && !(lastMarks [op, oq] [pb, pc]) && ckE n Γ a pa && ckE n Γ b pb && ckE n Γ c pc
      | _ => false)
    | .ife t a b => (match e with
      | .IfExp pt pa pb _ => ckT n Γ t pt && ckE n Γ a pa && ckE n Γ b pb
      | _ => false)
    | .isi a ts => (match e with
      | .Call (.Name f _) [pa, pt] [] _ => (f == ("isinstance" : Str)) && blB Γ f && noStar pa && ckE n Γ a pa && (match ts with
        | [t] => tyB Γ t pt
        | ts => (match pt with
          | .Tuple es _ _ => decide (ts.length ≤ 64) && !ts.isEmpty && tysB Γ ts es
          | _ => false))
      | _ => false)
    | .tup es => (match e with
      | .Tuple ps _ _ => ckEs n Γ es ps
      | _ => false)
    | .lst es => ckL n Γ (.lst es) e
    | .comp c => ckL n Γ (.comp c) e
    | .cell a => ckL n Γ a e
    | .sub a i => (match e with
      | .Subscript pa pi _ => plainIxB pi && ckP n Γ a pa && ckE n Γ i pi
      | _ => false)
    | .slice a lo hi => (match e with
      | .Subscript pa (.Slice plo phi none _) _ => ckP n Γ a pa && ckO n Γ lo plo && ckO n Γ hi phi
      | _ => false)
    | .rev a => (match e with
      | .Subscript pa (.Slice none none (some (.UnaryOp .USub (.Constant (.int 1) _ _) _)) _) _ => ckP n Γ a pa
      | _ => false)
    | .call f es => (match e with
      | .Call (.Name x _) [] [] _ => glB Γ x && (match Γ.fs.lookup x with
        | some i => i.key == f && i.pos.any (fun p => p.1 == 0 && p.2.length == i.ps.length && csEq p.2 es)
        | none => false)
      | .Call (.Name x _) (pa :: ps) [] _ => glB Γ x && (match Γ.fs.lookup x with
        | some i => i.key == f && i.pos.any (fun p => p.1 == (pa :: ps).length && (pa :: ps).length + p.2.length == i.ps.length && csEq p.2 (es.drop (pa :: ps).length))
        | none => false) && (pa :: ps).all noStar && ckEs n Γ (es.take (pa :: ps).length) (pa :: ps)
      | _ => false)
    | .kin nb a t => (match e with
      | .Compare pa [op] [.Name x p] _ => inB nb op && glB Γ x && kdB Γ x t && !(behindInMarks op (.Name x p)) && ckE n Γ a pa
      | _ => false)
    | .kget t a => (match e with
      | .Subscript (.Name x _) pi _ => glB Γ x && kdB Γ x t && plainIxB pi && ckE n Γ a pi
      | _ => false)
    | .kgetD t a d => (match e with
      | .Call (.Attribute (.Name x p) m apos) [pa, pd] [] cpos => m == ("get" : Str) && (apos.endLine == cpos.line) && glB Γ x && kdB Γ x t && noStar pa && noStar pd && ckE n Γ a pa && ckE n Γ d pd
      | _ => false)
    | .biD f a d => (match e with
      | .Call (.Name x _) [pa] [kw] _ => x == biName f && mmB f && blB Γ x && noStar pa && kw.arg == some ("default" : Str) && ckP n Γ a pa && ckE n Γ d kw.value
      | _ => false)
    | .callK f es ix => (match e with
      | .Call (.Name x _) pas (kw :: kws) _ => glB Γ x && (match Γ.fs.lookup x with
        | some i => i.key == f && i.ps.length == ix.length && i.kw.any (fun sh => sh.n == pas.length && sh.ks == (kw :: kws).filterMap (·.arg) && sh.ix == ix)
        | none => false) && pas.all noStar && (kw :: kws).all (fun k => k.arg.isSome) && ckEs n Γ (es.take pas.length) pas && ckKw n Γ (es.drop pas.length) (kw :: kws)
      | _ => false)
    | .dis ks vs => (match ks, vs, e with
      | [], [], .Dict [] [] _ => true
      | [k], [v], .Dict [some (.Constant ck _ _)] [.Constant cv _ _] _ => ckK (keyA k) ck && ckK v cv
      | _, _, _ => false)
    | .cat a b => ckL n Γ (.cat a b) e
    | .rgl k a b => (match e with
      | .Call (.Name x _) [.Call (.Name r _) [pa, pb] [] _] [] _ => (x == if k then ("tuple" : Str) else "list") && r == ("range" : Str) && blB Γ x && blB Γ r && noStar pa && noStar pb && ckE n Γ a pa && ckE n Γ b pb
      | .Call (.Name x _) [.Call (.Name r _) [pb] [] _] [] _ => (x == if k then ("tuple" : Str) else "list") && r == ("range" : Str) && blB Γ x && blB Γ r && noStar pb && (match a with
        | .c (.int 0) => true
        | _ => false) && ckE n Γ b pb
      | _ => false)
    | .upper a => (match e with
      | .Call (.Attribute (.Name x q) m apos) [] [] cpos => m == ("upper" : Str) && (apos.endLine == cpos.line) && ckE n Γ a (.Name x q)
      | _ => false)
    | .sset a => (match e with
      | .Call (.Name f _) [.Call (.Name g _) [pa] [] _] [] _ => f == ("sorted" : Str) && g == ("set" : Str) && blB Γ f && blB Γ g && noStar pa && ckE n Γ a pa
      | _ => false)
    | .bi f es => (match e with
      | .Call (.Name x _) (pa :: ps) [] _ => x == biName f && blB Γ x && (pa :: ps).all noStar && ckPs n Γ es (pa :: ps)
      | _ => false)
/-- a list of one's own -/
def ckL : Nat → CK → Exp → Expr → Bool
  | 0, _, _, _ => false
  | n + 1, Γ, e', e => match e' with
    | .lst es => (match e with
      | .List ps _ => ckEs n Γ es ps
      | _ => false)
    | .cat a b => (match e with
      | .BinOp pa .Add pb _ => ckP n Γ a pa && ckP n Γ b pb
      | _ => false)
    | .bi .list [a] => (match e with
      | .Call (.Name x _) [pa] [] _ => x == ("list" : Str) && blB Γ x && noStar pa && ckPs n Γ [a] [pa]
      | _ => false)
    | .comp (.cl tg it ifs (.elt a)) => (match e with
      | .ListComp pe [⟨ptg, pit, pifs, 0⟩] scope _ => noSet pit && blkB Γ.N Γ.sc scope (ownOf Γ.N (tgSlots tg)) && ckI n Γ it pit ptg && ckG (Γ.blk scope) tg ptg && ckF n (Γ.blk scope) ifs pifs && ckE n (Γ.blk scope) a pe
      | _ => false)
    | .comp (.cl tg it ifs (.cl tg1 it1 ifs1 (.elt a))) => (match e with
      | .ListComp pe [⟨ptg, pit, pifs, 0⟩, ⟨ptg1, pit1, pifs1, 0⟩] scope _ => noSet pit && noSet pit1 && blkB Γ.N Γ.sc scope (ownOf Γ.N (tgSlots tg ++ tgSlots tg1)) && ckI n Γ it pit ptg && ckG (Γ.blk scope) tg ptg && ckF n (Γ.blk scope) ifs pifs
          && ckI n (Γ.blk scope) it1 pit1 ptg1 && ckG (Γ.blk scope) tg1 ptg1 && ckF n (Γ.blk scope) ifs1 pifs1 && ckE n (Γ.blk scope) a pe
      | _ => false)
    | _ => false
/-- what is only looked into -/
def ckP : Nat → CK → Exp → Expr → Bool
  | 0, _, _, _ => false
  | n + 1, Γ, e', e => match e' with
    | .var i => (match e with
      | .Name x _ => varB Γ i x
      | _ => false)
    | e' => ckE n Γ e' e
/-- the rest of a row of and, of or -/
def ckB : Nat → CK → Bool → Exp → List Expr → Bool
  | 0, _, _, _, _ => false
  | n + 1, Γ, k, e', es => match es with
    | [] => false
    | [p] => ckE n Γ e' p
    | p :: q :: r => (match k, e' with
      | false, .and a b => ckE n Γ a p && ckB n Γ false b (q :: r)
      | true, .or a b => ckE n Γ a p && ckB n Γ true b (q :: r)
      | _, _ => false)
def ckT : Nat → CK → Tst → Expr → Bool
  | 0, _, _, _ => false
  | n + 1, Γ, t, e => match t with
    | .e a => (match a, e with
      | .cmp o a b, .Compare pa [op] [pb] _ => isC o op && !(behindInMarks op pb) && ckP n Γ a pa && ckP n Γ b pb
      | .chain o p a b c, .Compare pa [op, oq] [pb, pc] _ => isC o op && isC p oq && !(lastMarks [op, oq] [pb, pc]) && ckE n Γ a pa && ckE n Γ b pb && ckE n Γ c pc
      | .kin nb a t, .Compare pa [op] [.Name x p] _ => inB nb op && glB Γ x && kdB Γ x t && !(behindInMarks op (.Name x p)) && ckE n Γ a pa
      | a, e => plainT e && ckP n Γ a e)
    | .not a => (match e with
      | .UnaryOp .Not pa _ => ckT n Γ a pa
      | _ => false)
    | t => (match e with
      | .BoolOp .And ps _ => ckW n Γ false t ps
      | .BoolOp .Or ps _ => ckW n Γ true t ps
      | _ => false)
def ckW : Nat → CK → Bool → Tst → List Expr → Bool
  | 0, _, _, _, _ => false
  | n + 1, Γ, k, t, es => match es with
    | [] => false
    | [p] => ckT n Γ t p
    | p :: q :: r => (match k, t with
      | false, .and a b => ckT n Γ a p && ckW n Γ false b (q :: r)
      | true, .or a b => ckT n Γ a p && ckW n Γ true b (q :: r)
      | _, _ => false)
def ckEs : Nat → CK → List Exp → List Expr → Bool
  | 0, _, _, _ => false
  | n + 1, Γ, es', es => match es', es with
    | [], [] => true
    | a :: as, p :: ps => noStar p && ckE n Γ a p && ckEs n Γ as ps
    | _, _ => false
def ckPs : Nat → CK → List Exp → List Expr → Bool
  | 0, _, _, _ => false
  | n + 1, Γ, es', es => match es', es with
    | [], [] => true
    | a :: as, p :: ps => noStar p && ckP n Γ a p && ckPs n Γ as ps
    | _, _ => false
def ckO : Nat → CK → Option Exp → Option Expr → Bool
  | 0, _, _, _ => false
  | n + 1, Γ, a, p => match a, p with
    | none, none => true
    | some a, some p => ckE n Γ a p
    | _, _ => false
def ckF : Nat → CK → List Tst → List Expr → Bool
  | 0, _, _, _ => false
  | n + 1, Γ, ts, es => match ts, es with
    | [], [] => true
    | [t], [e] => ckT n Γ t e
    | _, _ => false
def ckKw : Nat → CK → List Exp → List Keyword → Bool
  | 0, _, _, _ => false
  | n + 1, Γ, es, kws => match es, kws with
    | [], [] => true
    | a :: as, ⟨_, e, _⟩ :: kws => ckE n Γ a e && ckKw n Γ as kws
    | _, _ => false
def ckI : Nat → CK → Itr → Expr → Expr → Bool
  | 0, _, _, _, _ => false
  | n + 1, Γ, i, e, tg => match i with
    | .sq a => ckP n Γ a e && ckE n Γ a e
    | .rg a b => (match e with
      | .Call (.Name x _) [pa, pb] [] _ => x == ("range" : Str) && blB Γ x && noStar pa && noStar pb && ckE n Γ a pa && ckE n Γ b pb
      | .Call (.Name x _) [pb] [] _ => x == ("range" : Str) && blB Γ x && noStar pb && (match a with
        | .c (.int 0) => true
        | _ => false) && ckE n Γ b pb
      | _ => false)
    | .zp a b => (match e, tg with
      | .Call (.Name x _) [pa, pb] [] _, .Tuple _ _ _ => x == ("zip" : Str) && blB Γ x && noStar pa && noStar pb && ckP n Γ a pa && ckE n Γ a pa && ckP n Γ b pb && ckE n Γ b pb
      | _, _ => false)
    | .en a => (match e, tg with
      | .Call (.Name x _) [pa] [] _, .Tuple _ _ _ => x == ("enumerate" : Str) && blB Γ x && noStar pa && ckP n Γ a pa && ckE n Γ a pa
      | _, _ => false)
end
end G

set_option Elab.async false
set_option linter.all false
set_option maxRecDepth 100000
set_option maxHeartbeats 8000000
/-! GL: what the check gives, expressions. -/
namespace G
open PySem PySem.Spec PyProof.Rows L2

structure CxOk (Γ : CK) (CX : CXT) (Wr : XK → Prop) (E : XK) (Φ : CallA) (X : Cx) : Prop where
  ok : Ok X
  N : X.N = Γ.N
  sc : X.env.scope = Γ.sc
  kind : Γ.sc.kind = .function
  fn : ∀ x, Γ.fnok x = true → X.fn x = true
  bl : ∀ x ∈ Γ.bl, X.mg x = none
  cs : ∀ x v, Γ.cs.lookup x = some v → ∃ u v', X.mg x = some u ∧ RelV v' u ∧ ∀ ρ ex H, Rep X.K X.mg ρ ex H v v'
  fs : ∀ x i, Γ.fs.lookup x = some i → ∃ f fd k, X.mg x = some (.ref f) ∧ PySem.W.keepIn X.K (.ref f) = true ∧ Room k X.A ∧ FnG X.prog X.w X.K X.mg X.base CX k f fd i.ps (spG X.K X.mg Wr Φ i.key i.ps.length) ∧ (∀ p ∈ i.pos, ∃ dvs dls, Vals dvs dls ∧ Binds X.K fd i.ps dls ∧ ∀ ρ ex H, Reps X.K X.mg ρ ex H p.2 dvs) ∧ ∀ sh ∈ i.kw, KBn X.K fd i.ps sh.n sh.ks (shG sh) (shV sh)
  kd : ∀ x t, Γ.kd.lookup x = some t → KdOk X.K X.mg X.w x t
  pass : Passes CX X E
  wr : Wr E
  wrn : Wr noE
  no : ∀ outer H s e s', CX outer H s noE e s' → False

theorem CxOk.blk {Γ : CK} {CX : CXT} {Wr : XK → Prop} {E : XK} {Φ : CallA} {X : Cx} (C : CxOk Γ CX Wr E Φ X) {scope : Scope} (hk : scope.kind = .function) (s : Shared) (H : Hp) (D : Addr) (cl : List (Str × Addr)) (fp : List Addr) :
    CxOk (Γ.blk scope) CX Wr noE Φ (X.blk s H scope (compEnvC scope cl D X.env) fp) :=
  ⟨⟨C.ok.calm, C.ok.nd, C.ok.un, C.ok.gd, C.ok.sm⟩, C.N, by show relS scope X.env.scope = relS scope Γ.sc; rw [C.sc], hk, fun x h => h, C.bl, C.cs, C.fs, C.kd, fun pins σ H s e s' I h => C.no _ _ _ _ _ h, C.wrn, C.wrn, C.no⟩

section
variable {Γ : CK} {CX : CXT} {Wr : XK → Prop} {E : XK} {Φ : CallA} {X : Cx}
theorem CxOk.vis (C : CxOk Γ CX Wr E Φ X) {x : Str} (h : visB Γ x = true) : Vis X.env.scope x := by
  unfold visB at h
  unfold Vis
  rw [C.sc]
  split at h <;> simp_all
theorem CxOk.gl (C : CxOk Γ CX Wr E Φ X) {x : Str} (h : glB Γ x = true) : Gl X x ∧ (x == ("__debug__" : Str)) = false ∧ x ≠ "__name__" := by
  unfold glB at h
  split at h
  · rename_i e
    simp only [Bool.and_eq_true, Bool.not_eq_true'] at h
    refine ⟨?_, h.1, fun q => ?_⟩
    · unfold Gl Env.kindOf
      rw [C.sc]; exact e
    · subst q
      have := h.2
      simp at this
  · cases h
theorem CxOk.loc (C : CxOk Γ CX Wr E Φ X) {x : Str} (h : locB Γ x = true) : L2.Loc X.env.scope x ∧ (X.fn x = true ∨ X.env.scope.names.lookup x = some .local) := by
  unfold locB at h
  unfold L2.Loc
  rw [C.sc]
  split at h
  · rename_i e; exact ⟨.inl e, .inr e⟩
  · rename_i e; exact ⟨.inr e, .inl (C.fn x h)⟩
  · cases h
theorem CxOk.var (C : CxOk Γ CX Wr E Φ X) {i : Nat} {x : Str} (h : varB Γ i x = true) : X.N[i]? = some x ∧ Vis X.env.scope x ∧ (x == ("__debug__" : Str)) = false ∧ (x == ("__classdict__" : Str)) = false := by
  unfold varB at h
  simp only [Bool.and_eq_true, Bool.not_eq_true', beq_iff_eq] at h
  exact ⟨by rw [C.N]; exact h.1.1.1, C.vis h.1.1.2, h.1.2, h.2⟩
theorem CxOk.store (C : CxOk Γ CX Wr E Φ X) {i : Nat} {x : Str} (h : storeB Γ i x = true) : X.N[i]? = some x ∧ L2.Loc X.env.scope x ∧ (X.fn x = true ∨ X.env.scope.names.lookup x = some .local) := by
  unfold storeB at h
  simp only [Bool.and_eq_true, beq_iff_eq] at h
  exact ⟨by rw [C.N]; exact h.1, C.loc h.2⟩
theorem CxOk.blt (C : CxOk Γ CX Wr E Φ X) {x : Str} (h : blB Γ x = true) : Gl X x ∧ X.mg x = none ∧ (x == ("__debug__" : Str)) = false ∧ x ≠ "__name__" := by
  unfold blB at h
  simp only [Bool.and_eq_true, List.contains_iff_mem] at h
  obtain ⟨h1, h2, h3⟩ := C.gl h.1
  exact ⟨h1, C.bl x h.2, h2, h3⟩
theorem starEach_cons {e : Expr} {es : List Expr} {env : Env} (h : noStar e = true) : starEach (e :: es) env = (false, eval e env) :: starEach es env := by
  cases e <;> first | rfl | cases h
theorem noStar_any {pos : Pos} {env : Env} : ∀ {es : List Expr}, es.all noStar = true → (backTo pos (starEach es env)).any (·.1) = false
  | [], _ => rfl
  | e :: es, h => by
    rw [List.all_cons, Bool.and_eq_true] at h
    rw [starEach_cons h.1]
    show (false || (backTo pos (starEach es env)).any (·.1)) = false
    rw [noStar_any h.2]; rfl
theorem noStar_all {pos : Pos} {env : Env} : ∀ {es : List Expr}, es.all noStar = true → (backTo pos (starEach es env)).all (fun x => !x.1) = true
  | [], _ => rfl
  | e :: es, h => by
    rw [List.all_cons, Bool.and_eq_true] at h
    rw [starEach_cons h.1]
    show (true && (backTo pos (starEach es env)).all (fun x => !x.1)) = true
    rw [noStar_all h.2]; rfl
theorem fold_ok {it : Expr} (h : noSet it = true) (env : Env) (x : Value) : foldedSetIterable it env x = pure x := by
  cases it <;> first | rfl | cases h
theorem noSl_ok {b : Expr} (h : plainIxB b = true) : NoSl b := by
  intro o i
  cases b <;> first | rfl | cases h
theorem CxOk.kdt (C : CxOk Γ CX Wr E Φ X) {x : Str} {t : KTab} (h : kdB Γ x t = true) : KdOk X.K X.mg X.w x t := by
  unfold kdB at h
  split at h
  · rename_i u e
    rw [← tabEq_ok h]
    exact C.kd _ _ e
  · cases h
theorem plainIx_ok {b : Expr} (h : plainIxB b = true) : PlainIx b := by
  intro o i
  cases b <;> first | rfl | cases h
theorem plainT_ok {e : Expr} (h : plainT e = true) (env : Env) (whole : Sem Value) : isTrue e env whole = (do let v ← whole; standAt e.pos; holding [v] (truthy v)) := by
  cases e <;> first | rfl | cases h | (rename_i op a p; cases op <;> first | rfl | cases h)
theorem sg_ck (C : CxOk Γ CX Wr E Φ X) : (∀ {t : Tgt} {e : Expr}, ckG Γ t e = true → PG X e (gT X t)) ∧ (∀ {ts : List Tgt} {es : List Expr}, ckGs Γ ts es = true → PGs X es (gTs X ts) ∧ es.all noStar = true ∧ es.length = ts.length) := by
  have key : ∀ n : Nat, (∀ {t : Tgt} {e : Expr}, sizeOf t ≤ n → ckG Γ t e = true → PG X e (gT X t)) ∧ (∀ {ts : List Tgt} {es : List Expr}, sizeOf ts ≤ n → ckGs Γ ts es = true → PGs X es (gTs X ts) ∧ es.all noStar = true ∧ es.length = ts.length) := by
    intro n
    induction n with
    | zero =>
      refine ⟨fun {t e} h _ => ?_, fun {ts es} h _ => ?_⟩
      · cases t <;> simp at h
      · cases ts <;> simp at h
    | succ n ih =>
      refine ⟨fun {t e} hs h => ?_, fun {ts es} hs h => ?_⟩
      · cases t with
        | nm i =>
          cases e <;> simp only [ckG, Bool.false_eq_true] at h
          obtain ⟨h1, h2, h3⟩ := C.store h
          exact sg_nm C.ok.nd h1 h2 h3
        | tp ts =>
          cases e <;> simp only [ckG, Bool.false_eq_true] at h
          have q := ih.2 (ts := ts) (by simp at hs; omega) h
          exact sg_tp C.ok.calm q.1 q.2.1 q.2.2
      · cases ts with
        | nil =>
          cases es <;> simp only [ckGs, Bool.false_eq_true] at h
          exact ⟨sg_nil, rfl, rfl⟩
        | cons t ts =>
          cases es <;> simp only [ckGs, Bool.false_eq_true, Bool.and_eq_true] at h
          obtain ⟨⟨h1, h2⟩, h3⟩ := h
          have q := ih.2 (ts := ts) (by simp at hs; omega) h3
          have q1 := ih.1 (t := t) (by simp at hs; omega) h2
          exact ⟨sg_cons q1 q.1 h1, by rw [List.all_cons, h1, q.2.1]; rfl, by simp [q.2.2]⟩
  exact ⟨fun {t e} h => (key (sizeOf t)).1 (Nat.le_refl _) h, fun {ts es} h => (key (sizeOf ts)).2 (Nat.le_refl _) h⟩
theorem ckK_ok {v : AV} {k : Const} {j : Nat} {pos : Pos} (h : ckK v k = true) : ∃ v', PE X (.Constant k j pos) (tC v') ∧ ∀ ρ ex H, Rep X.K X.mg ρ ex H v v' := by
  unfold ckK at h
  split at h
  · rw [beq_iff_eq] at h; subst h; exact ⟨_, pe_int, fun _ _ _ => .int _⟩
  · rw [beq_iff_eq] at h; subst h; exact ⟨_, pe_bl, fun _ _ _ => .bl _⟩
  · exact ⟨_, pe_non, fun _ _ _ => .non⟩
  · rw [beq_iff_eq] at h; subst h; exact ⟨_, pe_str, fun _ _ _ => .str _⟩
  · cases h
theorem ty_pe (C : CxOk Γ CX Wr E Φ X) {t : Ty} {e : Expr} (h : tyB Γ t e = true) : (∃ x p, e = .Name x p) ∧ PE X e (tC (.ty (tyN t))) := by
  unfold tyB at h
  split at h
  · rename_i x p
    rw [Bool.and_eq_true, beq_iff_eq] at h
    obtain ⟨h1, h2, h3, h4⟩ := C.blt h.2
    refine ⟨⟨x, p, rfl⟩, pe_tyn h1 h2 (by rw [h.1]; exact ty_boot t) h4 h3⟩
  · cases h
theorem tys_pa (C : CxOk Γ CX Wr E Φ X) : ∀ {ts : List Ty} {es : List Expr}, tysB Γ ts es = true → PA X es (fun _ H Q => Q (ts.map fun t => V.ty (tyN t)) H)
  | [], [], _ => ⟨fun pos pins s σ H Q I h => pa_nil.run pos pins s σ H Q I h⟩
  | [], _ :: _, h => by simp [tysB] at h
  | _ :: _, [], h => by simp [tysB] at h
  | t :: ts, e :: es, h => by
    simp only [tysB, Bool.and_eq_true] at h
    obtain ⟨⟨x, p, rfl⟩, h1⟩ := ty_pe C h.1
    have h2 := tys_pa C h.2
    exact ⟨fun pos pins s σ H Q I hq => (pa_cons h1 h2 rfl).run pos pins s σ H Q I hq⟩
end

theorem filterMap_len : ∀ {kws : List Keyword}, kws.all (fun k => k.arg.isSome) = true → (kws.filterMap (·.arg)).length = kws.length
  | [], _ => rfl
  | ⟨nm, e, p⟩ :: kws, h => by
    rw [List.all_cons, Bool.and_eq_true] at h
    cases nm with
    | none => cases h.1
    | some x =>
      show (x :: kws.filterMap (·.arg)).length = _
      simp [filterMap_len h.2]
theorem key_pe {X : Cx} {k : Key} {c : Const} {j : Nat} {pos : Pos} (h : ckK (keyA k) c = true) : PE X (.Constant c j pos) (tC (kV k)) := by
  cases k with
  | inl i =>
    cases c <;> simp only [keyA, ckK, Bool.false_eq_true] at h
    rw [beq_iff_eq] at h; subst h; exact pe_int
  | inr x =>
    cases c <;> simp only [keyA, ckK, Bool.false_eq_true] at h
    rw [beq_iff_eq] at h; subst h; exact pe_str
/-- all that the check gives, by its fuel -/
structure CkOk (n : Nat) : Prop where
  e : ∀ {Γ CX Wr E Φ X}, CxOk Γ CX Wr E Φ X → ∀ {e' : Exp} {e : Expr}, ckE n Γ e' e = true → PE X e (tE X E Φ e')
  l : ∀ {Γ CX Wr E Φ X}, CxOk Γ CX Wr E Φ X → ∀ {e' : Exp} {e : Expr}, ckL n Γ e' e = true → PE X e (tL X E Φ e')
  p : ∀ {Γ CX Wr E Φ X}, CxOk Γ CX Wr E Φ X → ∀ {e' : Exp} {e : Expr}, ckP n Γ e' e = true → PE X e (tP X E Φ e')
  b : ∀ {Γ CX Wr E Φ X}, CxOk Γ CX Wr E Φ X → ∀ {k : Bool} {e' : Exp} {es : List Expr} {pos : Pos}, ckB n Γ k e' es = true → PE X (.BoolOp (if k then .Or else .And) es pos) (tE X E Φ e')
  t : ∀ {Γ CX Wr E Φ X}, CxOk Γ CX Wr E Φ X → ∀ {t : Tst} {e : Expr}, ckT n Γ t e = true → PT X e (tT X E Φ t)
  w : ∀ {Γ CX Wr E Φ X}, CxOk Γ CX Wr E Φ X → ∀ {k : Bool} {t : Tst} {es : List Expr} {pos : Pos}, ckW n Γ k t es = true → PW X (.BoolOp (if k then .Or else .And) es pos) (tT X E Φ t)
  es : ∀ {Γ CX Wr E Φ X}, CxOk Γ CX Wr E Φ X → ∀ {es' : List Exp} {es : List Expr}, ckEs n Γ es' es = true → PA X es (tEs X E Φ es') ∧ es'.length = es.length
  ps : ∀ {Γ CX Wr E Φ X}, CxOk Γ CX Wr E Φ X → ∀ {es' : List Exp} {es : List Expr}, ckPs n Γ es' es = true → PA X es (tPs X E Φ es')
  o : ∀ {Γ CX Wr E Φ X}, CxOk Γ CX Wr E Φ X → ∀ {a' : Option Exp} {a : Option Expr}, ckO n Γ a' a = true → PO X a (tO X E Φ a')
  f : ∀ {Γ CX Wr E Φ X}, CxOk Γ CX Wr E Φ X → ∀ {ts : List Tst} {es : List Expr}, ckF n Γ ts es = true → PTs X es (tF X E Φ ts)
  i : ∀ {Γ CX Wr E Φ X}, CxOk Γ CX Wr E Φ X → ∀ {i' : Itr} {e : Expr} (pk : Bool) {tg : Expr}, ckI n Γ i' e tg = true → PI X tg e (tI X E Φ pk i')
  kw : ∀ {Γ CX Wr E Φ X}, CxOk Γ CX Wr E Φ X → ∀ {es' : List Exp} {kws : List Keyword}, ckKw n Γ es' kws = true → KwsOk X E Φ es' kws ∧ es'.length = kws.length

theorem ck_zero : CkOk 0 := by
  constructor <;> intros <;> simp_all [ckE, ckL, ckP, ckB, ckT, ckW, ckEs, ckPs, ckO, ckF, ckI, ckKw]
section
variable {n : Nat} (K : CkOk n) {Γ : CK} {CX : CXT} {Wr : XK → Prop} {E : XK} {Φ : CallA} {X : Cx} (C : CxOk Γ CX Wr E Φ X)
include K C
theorem ck_l {e' : Exp} {e : Expr} (h : ckL (n + 1) Γ e' e = true) : PE X e (tL X E Φ e') := by
  unfold ckL at h
  split at h
  · split at h
    · exact sl_lst (K.es C h).1
    · cases h
  · split at h
    · rw [Bool.and_eq_true] at h
      exact sl_cat (K.p C h.1) (K.p C h.2)
    · cases h
  · split at h
    · simp only [Bool.and_eq_true, beq_iff_eq] at h
      obtain ⟨⟨⟨h1, h2⟩, h3⟩, h4⟩ := h
      obtain ⟨g1, g2, g3, g4⟩ := C.blt h2
      subst h1
      exact sl_list rfl C.ok g1 g2 (bi_boot .list) g4 g3 (K.ps C h4) (starEach_cons h3)
    · cases h
  · split at h
    · simp only [Bool.and_eq_true] at h
      obtain ⟨⟨⟨⟨⟨h1, h2⟩, h3⟩, h4⟩, h5⟩, h6⟩ := h
      have B := blkB_ok h2
      exact sl_lc C.ok (K.i C true h3) (by rw [C.N, C.sc]; exact B) (ownOf_map _ _) (fun s H D cl fp => (sg_ck (C.blk B.kind s H D cl fp)).1 h4) (fun s H D cl fp => K.f (C.blk B.kind s H D cl fp) h5)
        (fun s H D cl fp => K.e (C.blk B.kind s H D cl fp) h6) (fold_ok h1 _)
    · cases h
  · split at h
    · simp only [Bool.and_eq_true] at h
      obtain ⟨⟨⟨⟨⟨⟨⟨⟨⟨h1, h0⟩, h2⟩, h3⟩, h4⟩, h5⟩, h7⟩, h8⟩, h9⟩, h6⟩ := h
      have B := blkB_ok h2
      exact sl_lc2 C.ok (K.i C true h3) (by rw [C.N, C.sc]; exact B) (ownOf_map _ _) (fun s H D cl fp => (sg_ck (C.blk B.kind s H D cl fp)).1 h4) (fun s H D cl fp => K.f (C.blk B.kind s H D cl fp) h5)
        (fun s H D cl fp => K.i (C.blk B.kind s H D cl fp) false h7) (fun s H D cl fp => (sg_ck (C.blk B.kind s H D cl fp)).1 h8) (fun s H D cl fp => K.f (C.blk B.kind s H D cl fp) h9)
        (fun s H D cl fp => K.e (C.blk B.kind s H D cl fp) h6) (fold_ok h1 _) (fold_ok h0)
    · cases h
  · cases h
theorem ck_p {e' : Exp} {e : Expr} (h : ckP (n + 1) Γ e' e = true) : PE X e (tP X E Φ e') := by
  unfold ckP at h
  split at h
  · split at h
    · obtain ⟨h1, h2, h3, h4⟩ := C.var h
      exact snd_peek_var h1 h2 h3 h4
    · cases h
  · rename_i hn
    exact snd_peek (K.e C h) fun i q => hn i q
theorem ck_b {k : Bool} {e' : Exp} {es : List Expr} {pos : Pos} (h : ckB (n + 1) Γ k e' es = true) : PE X (.BoolOp (if k then .Or else .And) es pos) (tE X E Φ e') := by
  unfold ckB at h
  split at h
  · cases h
  · exact snd_and1 (K.e C h)
  · split at h
    · rw [Bool.and_eq_true] at h
      exact snd_and (K.e C h.1) (K.b C (k := false) h.2)
    · rw [Bool.and_eq_true] at h
      exact snd_or (K.e C h.1) (K.b C (k := true) h.2)
    · cases h
theorem ck_w {k : Bool} {t : Tst} {es : List Expr} {pos : Pos} (h : ckW (n + 1) Γ k t es = true) : PW X (.BoolOp (if k then .Or else .And) es pos) (tT X E Φ t) := by
  unfold ckW at h
  split at h
  · cases h
  · cases k with
    | false => exact pw_and1 (K.t C h)
    | true => exact pw_or1 (K.t C h)
  · split at h
    · rw [Bool.and_eq_true] at h
      exact sw_and (K.t C h.1) (K.w C (k := false) h.2)
    · rw [Bool.and_eq_true] at h
      exact sw_or (K.t C h.1) (K.w C (k := true) h.2)
    · cases h
theorem ck_es {es' : List Exp} {es : List Expr} (h : ckEs (n + 1) Γ es' es = true) : PA X es (tEs X E Φ es') ∧ es'.length = es.length := by
  unfold ckEs at h
  split at h
  · exact ⟨snd_nil, rfl⟩
  · simp only [Bool.and_eq_true] at h
    have q := K.es C h.2
    exact ⟨snd_cons (K.e C h.1.2) q.1 (starEach_cons h.1.1), by simp [q.2]⟩
  · cases h
theorem ck_ps {es' : List Exp} {es : List Expr} (h : ckPs (n + 1) Γ es' es = true) : PA X es (tPs X E Φ es') := by
  unfold ckPs at h
  split at h
  · exact snd_pnil
  · simp only [Bool.and_eq_true] at h
    exact snd_pcons (K.p C h.1.2) (K.ps C h.2) (starEach_cons h.1.1)
  · cases h
theorem ck_o {a' : Option Exp} {a : Option Expr} (h : ckO (n + 1) Γ a' a = true) : PO X a (tO X E Φ a') := by
  unfold ckO at h
  split at h
  · exact snd_none
  · exact snd_some (K.e C h)
  · cases h
theorem ck_f {ts : List Tst} {es : List Expr} (h : ckF (n + 1) Γ ts es = true) : PTs X es (tF X E Φ ts) := by
  unfold ckF at h
  split at h
  · exact sts_nil
  · exact sts_one (K.t C h)
  · cases h
theorem ck_kw {es' : List Exp} {kws : List Keyword} (h : ckKw (n + 1) Γ es' kws = true) : KwsOk X E Φ es' kws ∧ es'.length = kws.length := by
  unfold ckKw at h
  split at h
  · exact ⟨.nil, rfl⟩
  · rw [Bool.and_eq_true] at h
    have q := K.kw C h.2
    exact ⟨.cons (K.e C h.1) q.1, by simp [q.2]⟩
  · cases h
theorem ck_i {i' : Itr} {e : Expr} (pk : Bool) {tg : Expr} (h : ckI (n + 1) Γ i' e tg = true) : PI X tg e (tI X E Φ pk i') := by
  unfold ckI at h
  split at h
  · rw [Bool.and_eq_true] at h
    exact si_sq (snd_pk (K.e C h.2) (K.p C h.1))
  · split at h
    · simp only [Bool.and_eq_true, beq_iff_eq] at h
      obtain ⟨⟨⟨⟨⟨h1, h2⟩, h3⟩, h4⟩, h5⟩, h6⟩ := h
      obtain ⟨g1, g2, g3, g4⟩ := C.blt h2
      subst h1
      exact si_rg2 g1 g2 (K.e C h5) (K.e C h6) (by rw [starEach_cons h3, starEach_cons h4]; rfl) (by rw [starEach_cons h4]; rfl)
    · simp only [Bool.and_eq_true, beq_iff_eq] at h
      obtain ⟨⟨⟨⟨h1, h2⟩, h3⟩, h4⟩, h5⟩ := h
      obtain ⟨g1, g2, g3, g4⟩ := C.blt h2
      subst h1
      split at h4
      · exact si_rg1 g1 g2 (K.e C h5) (by rw [starEach_cons h3]; rfl)
      · cases h4
    · cases h
  · split at h
    · simp only [Bool.and_eq_true, beq_iff_eq] at h
      obtain ⟨⟨⟨⟨⟨⟨⟨h1, h2⟩, h3⟩, h4⟩, h5⟩, h6⟩, h7⟩, h8⟩ := h
      obtain ⟨g1, g2, g3, g4⟩ := C.blt h2
      subst h1
      exact si_zp g1 g2 (snd_pk (K.e C h6) (K.p C h5)) (snd_pk (K.e C h8) (K.p C h7)) (starEach_cons h3) (starEach_cons h4)
    · cases h
  · split at h
    · simp only [Bool.and_eq_true, beq_iff_eq] at h
      obtain ⟨⟨⟨⟨h1, h2⟩, h3⟩, h4⟩, h5⟩ := h
      obtain ⟨g1, g2, g3, g4⟩ := C.blt h2
      subst h1
      exact si_en g1 g2 (snd_pk (K.e C h5) (K.p C h4)) (starEach_cons h3)
    · cases h
theorem ck_t {t : Tst} {e : Expr} (h : ckT (n + 1) Γ t e = true) : PT X e (tT X E Φ t) := by
  unfold ckT at h
  split at h
  · split at h
    · simp only [Bool.and_eq_true, Bool.not_eq_true'] at h
      obtain ⟨⟨⟨h1, h2⟩, h3⟩, h4⟩ := h
      cases isC_ok h1
      exact st_cmp C.ok (K.p C h3) (K.p C h4) h2
    · simp only [Bool.and_eq_true, Bool.not_eq_true'] at h
      obtain ⟨⟨⟨⟨⟨h1, h2⟩, h3⟩, h4⟩, h5⟩, h6⟩ := h
      cases isC_ok h1
      cases isC_ok h2
      exact st_chain C.ok (K.e C h4) (K.e C h5) (K.e C h6) h3
    · simp only [Bool.and_eq_true, Bool.not_eq_true'] at h
      obtain ⟨⟨⟨⟨h1, h2⟩, h3⟩, h4⟩, h5⟩ := h
      obtain ⟨g1, g2, g3⟩ := C.gl h2
      cases inB_ok h1
      exact st_kin g1 g2 (C.kdt h3) (K.e C h5) h4
    · rw [Bool.and_eq_true] at h
      exact st_val (K.p C h.2) (plainT_ok h.1 _)
  · split at h
    · exact st_not (K.t C h)
    · cases h
  · split at h
    · exact (K.w C (k := false) h).pt
    · exact (K.w C (k := true) h).pt
    · cases h
theorem ck_e {e' : Exp} {e : Expr} (h : ckE (n + 1) Γ e' e = true) : PE X e (tE X E Φ e') := by
  unfold ckE at h
  split at h
  · -- constants
    split at h
    · obtain ⟨v', h1, h2⟩ := ckK_ok (X := X) h
      exact snd_c h1 h2
    · rw [Bool.and_eq_true] at h
      obtain ⟨g1, g2, g3⟩ := C.gl h.1
      obtain h2 := h.2
      split at h2
      · rename_i w hw
        cases avEq_ok h2
        obtain ⟨u, v', m1, m2, m3⟩ := C.cs _ _ hw
        exact snd_c (pe_glob g1 m1 m2 g2) m3
      · cases h2
    · cases h
  · split at h
    · obtain ⟨h1, h2, h3, h4⟩ := C.var h
      exact snd_var h1 h2 h3 h4
    · cases h
  · split at h
    · simp only [Bool.and_eq_true] at h
      cases isB_ok h.1.1
      exact snd_bin (K.e C h.1.2) (K.e C h.2)
    · cases h
  · split at h
    · exact snd_neg (K.e C h)
    · cases h
  · split at h
    · exact snd_not (K.e C h)
    · cases h
  · split at h
    · rw [Bool.and_eq_true] at h
      exact snd_and (K.e C h.1) (K.b C (k := false) h.2)
    · cases h
  · split at h
    · rw [Bool.and_eq_true] at h
      exact snd_or (K.e C h.1) (K.b C (k := true) h.2)
    · cases h
  · split at h
    · simp only [Bool.and_eq_true, Bool.not_eq_true'] at h
      obtain ⟨⟨⟨h1, h2⟩, h3⟩, h4⟩ := h
      cases isC_ok h1
      exact snd_cmp C.ok (K.p C h3) (K.p C h4) h2
    · cases h
  · split at h
    · simp only [Bool.and_eq_true, Bool.not_eq_true'] at h
      obtain ⟨⟨⟨⟨⟨h1, h2⟩, h3⟩, h4⟩, h5⟩, h6⟩ := h
      cases isC_ok h1
      cases isC_ok h2
      exact snd_chain C.ok (K.e C h4) (K.e C h5) (K.e C h6) h3
    · cases h
  · split at h
    · simp only [Bool.and_eq_true] at h
      exact snd_ife (K.t C h.1.1) (K.e C h.1.2) (K.e C h.2)
    · cases h
  · split at h
    · simp only [Bool.and_eq_true, beq_iff_eq] at h
      obtain ⟨⟨⟨⟨h1, h2⟩, h3⟩, h4⟩, h5⟩ := h
      obtain ⟨g1, g2, g3, g4⟩ := C.blt h2
      subst h1
      split at h5
      · obtain ⟨⟨x, p, rfl⟩, q⟩ := ty_pe C h5
        exact snd_isi1 g1 g2 q (K.e C h4) (starEach_cons h3)
      · split at h5
        · simp only [Bool.and_eq_true, decide_eq_true_eq, Bool.not_eq_true', List.isEmpty_eq_false_iff] at h5
          exact snd_isiT g1 g2 (Nat.le_trans h5.1.1 (by decide)) h5.1.2 (tys_pa C h5.2) (K.e C h4) (starEach_cons h3)
        · cases h5
    · cases h
  · split at h
    · exact snd_tup (K.es C h).1
    · cases h
  · exact snd_ofL (K.l C h)
  · exact snd_ofL (K.l C h)
  · exact snd_cell (K.l C h)
  · split at h
    · simp only [Bool.and_eq_true] at h
      exact snd_sub (K.p C h.1.2) (K.e C h.2) (plainIx_ok h.1.1)
    · cases h
  · split at h
    · simp only [Bool.and_eq_true] at h
      exact snd_slice (K.p C h.1.1) (K.o C h.1.2) (K.o C h.2)
    · cases h
  · split at h
    · exact snd_rev (K.p C h)
    · cases h
  · split at h
    · simp only [Bool.and_eq_true] at h
      obtain ⟨h1, h2⟩ := h
      obtain ⟨g1, g2, g3⟩ := C.gl h1
      split at h2
      · rename_i i hi
        simp only [Bool.and_eq_true, beq_iff_eq, List.any_eq_true] at h2
        obtain ⟨k1, p, hp, ⟨k2, k3⟩, k4⟩ := h2
        obtain ⟨f, fd, k, m1, m2, m3, m4, m5, m6⟩ := C.fs _ _ hi
        obtain ⟨dvs, dls, d1, d2, d3⟩ := m5 p hp
        subst k1
        rw [← k3] at m4
        rw [csEq_ok k4]
        exact snd_call0 C.ok m4 C.wr m3 g1 m1 m2 d2 d1 d3 C.pass g2
      · cases h2
    · simp only [Bool.and_eq_true] at h
      obtain ⟨⟨⟨h1, h2⟩, h3⟩, h4⟩ := h
      obtain ⟨g1, g2, g3⟩ := C.gl h1
      split at h2
      · rename_i es _ _ _ pa ps _ _ i hi
        simp only [Bool.and_eq_true, beq_iff_eq, List.any_eq_true] at h2
        obtain ⟨k1, p, hp, ⟨k2, k3⟩, k4⟩ := h2
        obtain ⟨f, fd, k, m1, m2, m3, m4, m5, m6⟩ := C.fs _ _ hi
        obtain ⟨dvs, dls, d1, d2, d3⟩ := m5 p hp
        subst k1
        rw [List.all_cons, Bool.and_eq_true] at h3
        have e : es = es.take (pa :: ps).length ++ p.2.map .c := by rw [← csEq_ok k4]; exact (List.take_append_drop _ _).symm
        rw [e]
        exact snd_call C.ok m4 C.wr m3 g1 m1 m2 d2 d1 d3 C.pass (K.es C h4).1 k3 (K.es C h4).2 g2 (starEach_cons h3.1) (noStar_any h3.2)
      · cases h2
    · cases h
  · split at h
    · simp only [Bool.and_eq_true, Bool.not_eq_true'] at h
      obtain ⟨⟨⟨⟨h1, h2⟩, h3⟩, h4⟩, h5⟩ := h
      obtain ⟨g1, g2, g3⟩ := C.gl h2
      cases inB_ok h1
      exact snd_kin g1 g2 (C.kdt h3) (K.e C h5) h4
    · cases h
  · split at h
    · simp only [Bool.and_eq_true] at h
      obtain ⟨⟨⟨h2, h3⟩, h4⟩, h5⟩ := h
      obtain ⟨g1, g2, g3⟩ := C.gl h2
      exact snd_kget g1 g2 (C.kdt h3) (K.e C h5) (noSl_ok h4)
    · cases h
  · split at h
    · simp only [Bool.and_eq_true, beq_iff_eq] at h
      obtain ⟨⟨⟨⟨⟨⟨⟨h0, h1⟩, h2⟩, h3⟩, h4⟩, h5⟩, h6⟩, h7⟩ := h
      obtain ⟨g1, g2, g3⟩ := C.gl h2
      subst h0
      exact snd_kgetD g1 g2 (C.kdt h3) (K.e C h6) (K.e C h7) ⟨rfl, by rw [starEach_cons h4, starEach_cons h5]; rfl, by simpa using h1, by rw [starEach_cons h4, starEach_cons h5]; rfl⟩
    · cases h
  · split at h
    · simp only [Bool.and_eq_true, beq_iff_eq] at h
      obtain ⟨⟨⟨⟨⟨⟨h1, h2⟩, h3⟩, h4⟩, h5⟩, h6⟩, h7⟩ := h
      obtain ⟨g1, g2, g3, g4⟩ := C.blt h3
      rename_i f _ _ _ x _ _ _ _
      have hb := bi_boot f
      subst h1
      have hid : ∃ id, biId f = .builtin id := by cases f <;> first | exact ⟨_, rfl⟩ | cases h2
      obtain ⟨id, hid⟩ := hid
      exact snd_biD C.ok hid g1 g2 (by rw [hb, hid]) g4 g3 (K.p C h6) (K.e C h7) h5 (starEach_cons h4)
    · cases h
  · split at h
    · simp only [Bool.and_eq_true] at h
      obtain ⟨⟨⟨⟨⟨h1, h2⟩, h3⟩, h4⟩, h5⟩, h6⟩ := h
      obtain ⟨g1, g2, g3⟩ := C.gl h1
      split at h2
      · rename_i es ix _ _ _ pas kw kws _ _ i hi
        simp only [Bool.and_eq_true, beq_iff_eq, List.any_eq_true] at h2
        obtain ⟨⟨k1, k2⟩, sh, hsh, ⟨s1, s2⟩, s3⟩ := h2
        obtain ⟨f, fd, k, m1, m2, m3, m4, m5, m6⟩ := C.fs _ _ hi
        subst k1 s3
        have q5 := K.es C h5
        have q6 := K.kw C h6
        have hlen : (es.drop pas.length).length = sh.ks.length := by
          rw [q6.2, s2]
          exact (filterMap_len h4).symm
        cases pas with
        | nil =>
          exact snd_callK0 C.ok m4 C.wr m3 g1 m1 m2 (m6 sh hsh) (by simpa using s1) C.pass (by simpa using q6.1) (by simp) h4 s2.symm (by simpa using hlen) k2.symm g2
        | cons pa ps =>
          have e : es = es.take (pa :: ps).length ++ es.drop (pa :: ps).length := (List.take_append_drop _ _).symm
          rw [e]
          rw [List.all_cons, Bool.and_eq_true] at h3
          exact snd_callK C.ok m4 C.wr m3 g1 m1 m2 (m6 sh hsh) C.pass q5.1 q6.1 h4 s2.symm (q5.2.trans s1.symm) hlen k2.symm g2 (starEach_cons h3.1) (noStar_any (by rw [List.all_cons, h3.1, h3.2]; rfl))
      · cases h2
    · cases h
  · split at h
    · exact snd_dis0
    · rw [Bool.and_eq_true] at h
      rename_i k v _ _ _ _ _ _ _
      obtain ⟨v', q1, q2⟩ := ckK_ok (X := X) h.2
      exact snd_dis1 (key_pe h.1) q1 q2
    · cases h
  · exact snd_ofL (K.l C h)
  · split at h
    · simp only [Bool.and_eq_true, beq_iff_eq] at h
      obtain ⟨⟨⟨⟨⟨⟨⟨h1, h2⟩, h3⟩, h4⟩, h5⟩, h6⟩, h7⟩, h8⟩ := h
      obtain ⟨a1, a2, a3, a4⟩ := C.blt h3
      obtain ⟨b1, b2, b3, b4⟩ := C.blt h4
      subst h2
      exact snd_rgl2 C.ok h1 a1 a2 b1 b2 (K.e C h7) (K.e C h8) (starEach_cons h5) (starEach_cons h6)
    · simp only [Bool.and_eq_true, beq_iff_eq] at h
      obtain ⟨⟨⟨⟨⟨⟨h1, h2⟩, h3⟩, h4⟩, h5⟩, h6⟩, h7⟩ := h
      obtain ⟨a1, a2, a3, a4⟩ := C.blt h3
      obtain ⟨b1, b2, b3, b4⟩ := C.blt h4
      subst h2
      split at h6
      · exact snd_rgl1 C.ok h1 a1 a2 b1 b2 (K.e C h7) (starEach_cons h5)
      · cases h6
    · cases h
  · split at h
    · simp only [Bool.and_eq_true, beq_iff_eq] at h
      obtain ⟨⟨h1, h2⟩, h3⟩ := h
      subst h1
      exact snd_upper (K.e C h3) rfl (by simpa using h2)
    · cases h
  · split at h
    · simp only [Bool.and_eq_true, beq_iff_eq] at h
      obtain ⟨⟨⟨⟨⟨h1, h2⟩, h3⟩, h4⟩, h5⟩, h6⟩ := h
      obtain ⟨a1, a2, a3, a4⟩ := C.blt h3
      obtain ⟨b1, b2, b3, b4⟩ := C.blt h4
      subst h1 h2
      exact snd_sset C.ok a1 a2 b1 b2 (K.e C h6) (starEach_cons h5)
    · cases h
  · split at h
    · simp only [Bool.and_eq_true, beq_iff_eq] at h
      obtain ⟨⟨⟨h1, h2⟩, h3⟩, h4⟩ := h
      obtain ⟨g1, g2, g3, g4⟩ := C.blt h2
      rw [List.all_cons, Bool.and_eq_true] at h3
      rename_i f _ x _ _ _ _ _
      have hb := bi_boot f
      subst h1
      have hid : (∃ id, biId f = .builtin id) ∨ ∃ id, biId f = .type id := by cases f <;> first | exact .inl ⟨_, rfl⟩ | exact .inr ⟨_, rfl⟩
      rcases hid with ⟨id, hid⟩ | ⟨id, hid⟩
      · exact snd_biB C.ok hid g1 g2 (by rw [hb, hid]) g4 g3 (K.ps C h4) (starEach_cons h3.1) (noStar_any h3.2)
      · exact snd_biT C.ok hid g1 g2 (by rw [hb, hid]) g4 g3 (K.ps C h4) (starEach_cons h3.1) (noStar_any h3.2)
    · cases h
end
theorem ck_ok : ∀ n, CkOk n
  | 0 => ck_zero
  | n + 1 =>
    have K := ck_ok n
    ⟨fun C _ _ h => ck_e K C h, fun C _ _ h => ck_l K C h, fun C _ _ h => ck_p K C h, fun C _ _ _ _ h => ck_b K C h, fun C _ _ h => ck_t K C h, fun C _ _ _ _ h => ck_w K C h, fun C _ _ h => ck_es K C h, fun C _ _ h => ck_ps K C h,
      fun C _ _ h => ck_o K C h, fun C _ _ h => ck_f K C h, fun C _ _ pk _ h => ck_i K C pk h, fun C _ _ h => ck_kw K C h⟩
end G

set_option Elab.async false
set_option linter.all false
set_option maxRecDepth 100000
set_option maxHeartbeats 8000000
/-! GM: the check of statements, what it gives. -/
namespace G
open PySem PySem.Spec PyProof.Rows L2
def isComp : Expr → Bool
  | .ListComp _ _ _ _ => true
  | .SetComp _ _ _ _ => true
  | .DictComp _ _ _ _ _ => true
  | _ => false
def localB (Γ : CK) (x : Str) : Bool := Γ.sc.names.lookup x == some .local
/-- name = comprehension, the store exchanged -/
def swB (Γ : CK) (x : Str) (px : Pos) (scope : Scope) (vpos : Pos) : Bool :=
  (Γ.sc.names.lookup x == some .local) && (px.line == vpos.line) && !(scope.names.any fun (n, k) => n == x && (k == .local || k == .cell))
def swStar : Expr → Bool
  | .Starred .. => true
  | _ => false
def swNames (sc : Scope) (ts : List Expr) : List Str := ts.filterMap fun
    | .Name id pos => if sc.names.lookup id == some .local && pos.line == (ts.head?.map (·.pos.line)).getD 0 then some id else none
    | _ => none
def swV (sc : Scope) (ts vs : List Expr) : Option (List Str) :=
  if (!(ts.length == 2 || ts.length == 3) || vs.length != ts.length) = true then none
  else if vs.any swStar = true then none
  else if ((swNames sc ts).length != ts.length || (swNames sc ts).eraseDups.length != (swNames sc ts).length) = true then none
  else if vs.all (foldedForSure 8) = true then none
  else some (swNames sc ts)
def swOk (vs : List Expr) : Bool := vs.all (foldedForSure 8) || !(vs.all (constantsAlone 8))
theorem swappedStores_tup {ts vs : List Expr} {kt k2 : Nat} {pt p2 : Pos} {env : Env} (hk : env.scope.kind = .function) (h : swOk vs = true) : swappedStores [.Tuple ts kt pt] (.Tuple vs k2 p2) env = pure (swV env.scope ts vs) := by
  have hb : env.blockKind = .function := by unfold Env.blockKind; rw [hk]; rfl
  have hb' : (env.blockKind != .function) = false := by rw [hb]; rfl
  unfold swappedStores swV
  simp only [hb', Bool.or_false]
  by_cases c1 : (!(ts.length == 2 || ts.length == 3) || vs.length != ts.length) = true
  · simp only [c1, if_true]
  · simp only [c1, if_false, Bool.false_eq_true]
    by_cases c2 : vs.any swStar = true
    · exact (if_pos c2).trans (congrArg pure (if_pos c2).symm)
    · refine (if_neg c2).trans (Eq.trans ?_ (congrArg pure (if_neg c2).symm))
      by_cases c3 : ((swNames env.scope ts).length != ts.length || (swNames env.scope ts).eraseDups.length != (swNames env.scope ts).length) = true
      · exact (if_pos c3).trans (congrArg pure (if_pos c3).symm)
      · refine (if_neg c3).trans (Eq.trans ?_ (congrArg pure (if_neg c3).symm))
        by_cases c4 : vs.all (foldedForSure 8) = true
        · exact (if_pos c4).trans (congrArg pure (if_pos c4).symm)
        · refine (if_neg c4).trans (Eq.trans ?_ (congrArg pure (if_neg c4).symm))
          have h' : ¬ vs.all (constantsAlone 8) = true := by
            unfold swOk at h
            simpa [c4] using h
          exact if_neg h'
theorem swapped_none {ts : List Expr} {k : Nat} {p : Pos} {v : Expr} {env : Env} (h : ∀ vs k p, v ≠ .Tuple vs k p) : swappedStores [.Tuple ts k p] v env = pure none := by
  cases v <;> first | rfl | exact absurd rfl (h _ _ _)
theorem swapsWith_no {v : Expr} (h : isComp v = false) (t : Option Expr) (line : Nat) (env : Env) : swapsWith v t line env = pure false := by
  cases v <;> first | rfl | cases h
theorem swapsSole_no {v : Expr} (h : isComp v = false) (t : Expr) (line : Nat) (env : Env) : swapsWithSole [t] v line env = pure false := swapsWith_no h _ _ _
theorem swapsWith_lc {pe : Expr} {gens : List Comprehension} {scope : Scope} {vpos px : Pos} {x : Str} {line : Nat} {env : Env} (hk : env.scope.kind = .function) :
    swapsWith (.ListComp pe gens scope vpos) (some (.Name x px)) line env = pure ((env.scope.names.lookup x == some .local) && (px.line == vpos.line) && !(scope.names.any fun (n, k) => n == x && (k == .local || k == .cell))) := by
  have hb : env.blockKind = .function := by unfold Env.blockKind; rw [hk]; rfl
  have e : swapsWith (.ListComp pe gens scope vpos) (some (.Name x px)) line env = pure (env.blockKind == .function && env.kindOf x == some .local && px.line == vpos.line && !(scope.names.any fun (n, k) => n == x && (k == .local || k == .cell))) := rfl
  rw [e, hb]
  rfl
def isTupE : Expr → Bool
  | .Tuple _ _ _ => true
  | _ => false
def uncell : Exp → Exp
  | .cell e => e
  | e => e
def isL : Exp → Bool
  | .comp _ => true
  | .cell (.comp _) => true
  | _ => false
def fuelE : Nat := 60
def ckMix (Γ : CK) : List Bool → List Exp → List Expr → Bool
  | [], [], [] => true
  | o :: os, e' :: es', e :: es => noStar e && (if o then ckL fuelE Γ e' e else ckE fuelE Γ e' e) && ckMix Γ os es' es
  | _, _, _ => false
mutual
def ckS (Γ : CK) : Nat → Stm → Stmt → Bool
  | 0, _, _ => false
  | n + 1, s, st => match s with
    | .set i e' => (match st with
      | .Assign [.Name x px] v _ => storeB Γ i x && (match v with
        | .ListComp _ _ scope vpos => if swB Γ x px scope vpos then isL e' && ckL fuelE Γ (uncell e') v else ckE fuelE Γ e' v
        | v => !(isComp v) && ckE fuelE Γ e' v)
      | _ => false)
    | .own i e' => (match st with
      | .Assign [.Name x px] v _ => storeB Γ i x && (match v with
        | .ListComp _ _ scope vpos => swB Γ x px scope vpos && ckL fuelE Γ e' v
        | v => !(isComp v) && ckL fuelE Γ e' v)
      | _ => false)
    | .asg t e' => (match st with
      | .Assign [tg] v _ => isTupE tg && ckG Γ t tg && ckE fuelE Γ e' v && (match tg, v with
        | .Tuple ts _ _, .Tuple vs _ _ => swOk vs && (swV Γ.sc ts vs == none)
        | _, _ => true)
      | _ => false)
    | .par i j a b => (match st with
      | .Assign [.Tuple [.Name x px, .Name y py] kt pt] (.Tuple [pa, pb] _ _) _ => !(i == j) && (Γ.N[i]? == some x) && (Γ.N[j]? == some y) && localB Γ x && localB Γ y && ckEs fuelE Γ [a, b] [pa, pb]
          && swOk [pa, pb] && (swV Γ.sc [.Name x px, .Name y py] [pa, pb] == some [x, y])
      | _ => false)
    | .parO i j a b => (match st with
      | .Assign [.Tuple [.Name x px, .Name y py] kt pt] (.Tuple [pa, pb] _ _) _ => !(i == j) && (Γ.N[i]? == some x) && (Γ.N[j]? == some y) && localB Γ x && localB Γ y && ckE fuelE Γ a pa && ckL fuelE Γ b pb && noStar pa && noStar pb
          && swOk [pa, pb] && (swV Γ.sc [.Name x px, .Name y py] [pa, pb] == some [x, y])
      | _ => false)
    | .pars is os es => (match is, st with
      | [i, j], .Assign [.Tuple [.Name x px, .Name y py] kt pt] (.Tuple [pa, pb] _ _) _ => !(i == j) && (Γ.N[i]? == some x) && (Γ.N[j]? == some y) && localB Γ x && localB Γ y && (os.length == 2) && ckMix Γ os es [pa, pb]
          && swOk [pa, pb] && (swV Γ.sc [.Name x px, .Name y py] [pa, pb] == some [x, y])
      | [i, j, l], .Assign [.Tuple [.Name x px, .Name y py, .Name z pz] kt pt] (.Tuple [pa, pb, pc] _ _) _ => !(i == j) && !(i == l) && !(j == l) && (Γ.N[i]? == some x) && (Γ.N[j]? == some y) && (Γ.N[l]? == some z) && localB Γ x && localB Γ y && localB Γ z && (os.length == 3) && ckMix Γ os es [pa, pb, pc]
          && swOk [pa, pb, pc] && (swV Γ.sc [.Name x px, .Name y py, .Name z pz] [pa, pb, pc] == some [x, y, z])
      | _, _ => false)
    | .star i j e' => (match st with
      | .Assign [.Tuple [.Name x px, .Starred (.Name y py) ps] kt pt] v _ => !(i == j) && storeB Γ i x && storeB Γ j y && !(isComp v) && !(isTupE v) && ckE fuelE Γ e' v
      | _ => false)
    | .ext i e' => (match st with
      | .Expr (.Call (.Attribute (.Name x _) m apos) [pa] [] cpos) _ => m == ("extend" : Str) && varB Γ i x && noStar pa && (apos.endLine == cpos.line) && ckE fuelE Γ e' pa
      | _ => false)
    | .sset o k v => (match st with
      | .Assign [.Subscript po pk _] pv _ => plainIxB pk && !(isComp pv) && ckE fuelE Γ o po && ckE fuelE Γ k pk && ckE fuelE Γ v pv
      | _ => false)
    | .app i e' => (match st with
      | .Expr (.Call (.Attribute (.Name x _) m apos) [pa] [] cpos) _ => m == ("append" : Str) && varB Γ i x && noStar pa && (apos.endLine == cpos.line) && ckE fuelE Γ e' pa
      | _ => false)
    | .expr e' => (match st with
      | .Expr e _ => !(isComp e) && ckE fuelE Γ e' e
      | _ => false)
    | .aug i o e' => (match st with
      | .AugAssign (.Name x _) op e _ => storeB Γ i x && isB o op && (match o with
        | .add => true
        | .sub => true
        | _ => false) && ckE fuelE Γ e' e
      | _ => false)
    | .ife t a b => (match st with
      | .If c pa pb _ => ckT fuelE Γ t c && ckSs Γ n a pa && ckSs Γ n b pb
      | _ => false)
    | .for tg it b => (match st with
      | .For ptg pit pb [] _ => ckG Γ tg ptg && noSet pit && ckI fuelE Γ it pit ptg && ckSs Γ n b pb
      | _ => false)
    | .while t b => (match st with
      | .While c pb [] _ => ckT fuelE Γ t c && ckSs Γ n b pb
      | _ => false)
    | .ret e' => (match st with
      | .Return (some e) _ => ckE fuelE Γ e' e
      | _ => false)
    | .retN => (match st with
      | .Return none _ => true
      | _ => false)
    | .pass => (match st with
      | .Pass _ => true
      | .Expr (.Constant (.str _) _ _) _ => true
      | _ => false)
    | .brk => (match st with
      | .Break _ => true
      | _ => false)
    | .cnt => (match st with
      | .Continue _ => true
      | _ => false)
    | .frzd _ s => ckS Γ n s st
    | .never => true
def ckSs (Γ : CK) : Nat → List Stm → List Stmt → Bool
  | 0, _, _ => false
  | n + 1, ss, sts => match ss, sts with
    | [], [] => true
    | s :: ss, st :: sts => ckS Γ n s st && ckSs Γ n ss sts
    | _, _ => false
end
section
variable {Γ : CK} {CX : CXT} {Wr : XK → Prop} {E : XK} {Φ : CallA} {X : Cx}
theorem ck_lset (C : CxOk Γ CX Wr E Φ X) {n i : Nat} {e' : Exp} {pe : Expr} {gens : List Comprehension} {scope : Scope} {vpos px spos : Pos} {x : Str} (hx : storeB Γ i x = true) (hs : swB Γ x px scope vpos = true) (h : ckL (n + 1) Γ e' (.ListComp pe gens scope vpos) = true) :
    PS X (.Assign [.Name x px] (.ListComp pe gens scope vpos) spos) (tAsg (tL X E Φ e') (gName i)) := by
  have K := ck_ok n
  obtain ⟨hN, _, _⟩ := C.store hx
  have hl : X.env.scope.names.lookup x = some .local := by
    unfold swB at hs
    simp only [Bool.and_eq_true, beq_iff_eq] at hs
    rw [C.sc]; exact hs.1.1
  have hsw : ∀ gens, swapsWith (.ListComp pe gens scope vpos) (some (.Name x px)) spos.line X.env = pure true := fun gens => by
    rw [swapsWith_lc (by rw [C.sc]; exact C.kind), C.sc]
    unfold swB at hs
    rw [hs]
  unfold ckL at h
  split at h
  · cases h
  · cases h
  · cases h
  · split at h
    · rename_i heq
      cases heq
      simp only [Bool.and_eq_true] at h
      obtain ⟨⟨⟨⟨⟨h1, h2⟩, h3⟩, h4⟩, h5⟩, h6⟩ := h
      have B := blkB_ok h2
      refine ⟨fun pins s σ H D I hq => (ps_setLc C.ok.calm C.ok.nd hN hl (hsw _) (K.i C true h3) (by rw [C.N, C.sc]; exact B) (fun s H D cl fp => (sg_ck (C.blk B.kind s H D cl fp)).1 h4) (fun s H D cl fp => K.f (C.blk B.kind s H D cl fp) h5)
        (fun s H D cl fp => K.e (C.blk B.kind s H D cl fp) h6) (fold_ok h1 _)).run pins s σ H D I (lc_read (ownOf_map _ _) (show tL X E Φ _ σ H _ from hq))⟩
    · cases h
  · split at h
    · rename_i heq
      cases heq
      simp only [Bool.and_eq_true] at h
      obtain ⟨⟨⟨⟨⟨⟨⟨⟨⟨h1, h0⟩, h2⟩, h3⟩, h4⟩, h5⟩, h7⟩, h8⟩, h9⟩, h6⟩ := h
      have B := blkB_ok h2
      refine ⟨fun pins s σ H D I hq => (ps_setLc2 C.ok.calm C.ok.nd hN hl (hsw _) (K.i C true h3) (by rw [C.N, C.sc]; exact B) (fun i hi => by rw [ownOf_map]; exact List.mem_append_right _ hi) (fun s H D cl fp => (sg_ck (C.blk B.kind s H D cl fp)).1 h4) (fun s H D cl fp => K.f (C.blk B.kind s H D cl fp) h5)
        (fun s H D cl fp => K.i (C.blk B.kind s H D cl fp) false h7) (fun s H D cl fp => (sg_ck (C.blk B.kind s H D cl fp)).1 h8) (fun s H D cl fp => K.f (C.blk B.kind s H D cl fp) h9)
        (fun s H D cl fp => K.e (C.blk B.kind s H D cl fp) h6) (fold_ok h1 _) (fold_ok h0)).run pins s σ H D I (lc2_read (ownOf_map _ _) (show tL X E Φ _ σ H _ from hq))⟩
    · cases h
  · cases h
theorem ps_setTo (C : CxOk Γ CX Wr E Φ X) {i : Nat} {v : Expr} {t : TE} {x : Str} {px pos : Pos} (hx : storeB Γ i x = true) (hv : PE X v t) (hs : swapsWith v (some (.Name x px)) pos.line X.env = pure false) : PS X (.Assign [.Name x px] v pos) (tAsg t (gName i)) := by
  obtain ⟨h1, h2, h3⟩ := C.store hx
  exact ps_set C.ok.nd h1 h2 hv hs h3
theorem isL_cases {e : Exp} (h : isL e = true) : (∃ c, e = .comp c) ∨ ∃ c, e = .cell (.comp c) := by
  cases e with
  | comp c => exact .inl ⟨c, rfl⟩
  | cell a => cases a <;> first | exact .inr ⟨_, rfl⟩ | cases h
  | _ => cases h
theorem ckMix_ok (C : CxOk Γ CX Wr E Φ X) : ∀ {os : List Bool} {es' : List Exp} {es : List Expr}, ckMix Γ os es' es = true → PA X es (tMix X E Φ os es')
  | [], [], [], _ => mix_nil
  | [], [], _ :: _, h => by simp [ckMix] at h
  | [], _ :: _, _, h => by simp [ckMix] at h
  | _ :: _, [], _, h => by simp [ckMix] at h
  | _ :: _, _ :: _, [], h => by simp [ckMix] at h
  | o :: os, e' :: es', e :: es, h => by
    simp only [ckMix, Bool.and_eq_true] at h
    obtain ⟨⟨h1, h2⟩, h3⟩ := h
    have q := ckMix_ok C h3
    have K := ck_ok fuelE
    cases o with
    | true => exact mix_own (K.l C h2) q h1
    | false => exact mix_val (K.e C h2) q h1
theorem cks_ok (C : CxOk Γ CX Wr E Φ X) (hpo : PassesOwn (model X.prog X.w) X.A X.env X.xe) : ∀ n : Nat, (∀ {s : Stm} {st : Stmt}, ckS Γ n s st = true → PS X st (tS X E Φ s)) ∧ (∀ {ss : List Stm} {sts : List Stmt}, ckSs Γ n ss sts = true → PSs X sts (tSs X E Φ ss))
  | 0 => ⟨fun h => by simp [ckS] at h, fun h => by simp [ckSs] at h⟩
  | n + 1 => by
    have ih := cks_ok C hpo n
    have K := ck_ok fuelE
    have hkind : X.env.scope.kind = .function := by rw [C.sc]; exact C.kind
    refine ⟨fun {s st} h => ?_, fun {ss sts} h => ?_⟩
    · unfold ckS at h
      split at h
      · -- set
        split at h
        · rw [Bool.and_eq_true] at h
          obtain ⟨hx, h⟩ := h
          split at h
          · rename_i pe gens scope vpos
            split at h
            · rename_i hs
              rw [Bool.and_eq_true] at h
              have q := fun sp => ck_lset (spos := sp) C hx hs h.2
              rcases isL_cases h.1 with ⟨c, rfl⟩ | ⟨c, rfl⟩
              · exact s_set (asg_ofL (q _))
              · exact s_set (asg_cell (q _))
            · rename_i hs
              refine s_set (ps_setTo C hx (K.e C h) ?_)
              rw [swapsWith_lc hkind, C.sc]
              rw [Bool.not_eq_true] at hs
              unfold swB at hs
              rw [hs]
          · rw [Bool.and_eq_true, Bool.not_eq_true'] at h
            exact s_set (ps_setTo C hx (K.e C h.2) (swapsWith_no h.1 _ _ _))
        · cases h
      · -- own
        split at h
        · rw [Bool.and_eq_true] at h
          obtain ⟨hx, h⟩ := h
          split at h
          · rw [Bool.and_eq_true] at h
            exact s_own (ck_lset C hx h.1 h.2)
          · rw [Bool.and_eq_true, Bool.not_eq_true'] at h
            exact s_own (ps_setTo C hx (K.l C h.2) (swapsWith_no h.1 _ _ _))
        · cases h
      · -- asg
        split at h
        · rename_i tg v pos
          simp only [Bool.and_eq_true] at h
          obtain ⟨⟨⟨h1, h2⟩, h4⟩, h5⟩ := h
          cases tg <;> first | cases h1 | skip
          refine s_asg (ps_asg (K.e C h4) ((sg_ck C).1 h2) (by cases v <;> rfl) ?_ rfl)
          split at h5
          · rename_i heq
            cases heq
            rw [Bool.and_eq_true, beq_iff_eq] at h5
            rw [swappedStores_tup hkind h5.1, C.sc, h5.2]
          · rename_i hn
            exact swapped_none fun vs k p q => hn _ _ _ vs k p rfl q
        · cases h
      · -- par
        split at h
        · simp only [Bool.and_eq_true, Bool.not_eq_true', beq_eq_false_iff_ne, beq_iff_eq] at h
          obtain ⟨⟨⟨⟨⟨⟨⟨h1, h2⟩, h3⟩, h4⟩, h5⟩, h6⟩, h7⟩, h8⟩ := h
          exact s_par (ps_par C.ok.calm C.ok.nd (by rw [C.N]; exact h2) (by rw [C.N]; exact h3) h1 (by rw [C.sc]; simpa [localB] using h4) (by rw [C.sc]; simpa [localB] using h5) (K.es C h6).1 (by rw [swappedStores_tup hkind h7, C.sc, h8]))
        · cases h
      · -- parO
        split at h
        · simp only [Bool.and_eq_true, Bool.not_eq_true', beq_eq_false_iff_ne, beq_iff_eq] at h
          obtain ⟨⟨⟨⟨⟨⟨⟨⟨⟨⟨h1, h2⟩, h3⟩, h4⟩, h5⟩, h6⟩, h6'⟩, n1⟩, n2⟩, h7⟩, h8⟩ := h
          exact s_parO h1 (ps_par C.ok.calm C.ok.nd (by rw [C.N]; exact h2) (by rw [C.N]; exact h3) h1 (by rw [C.sc]; simpa [localB] using h4) (by rw [C.sc]; simpa [localB] using h5) (pa_el (K.e C h6) (K.l C h6') n1 n2) (by rw [swappedStores_tup hkind h7, C.sc, h8]))
        · cases h
      · -- pars
        split at h
        · simp only [Bool.and_eq_true, Bool.not_eq_true', beq_eq_false_iff_ne, beq_iff_eq] at h
          obtain ⟨⟨⟨⟨⟨⟨⟨⟨h1, h2⟩, h3⟩, h4⟩, h5⟩, h6⟩, h7⟩, h8⟩, h9⟩ := h
          exact s_pars2 h6 (ps_par C.ok.calm C.ok.nd (by rw [C.N]; exact h2) (by rw [C.N]; exact h3) h1 (by rw [C.sc]; simpa [localB] using h4) (by rw [C.sc]; simpa [localB] using h5) (ckMix_ok C h7) (by rw [swappedStores_tup hkind h8, C.sc, h9]))
        · simp only [Bool.and_eq_true, Bool.not_eq_true', beq_eq_false_iff_ne, beq_iff_eq] at h
          obtain ⟨⟨⟨⟨⟨⟨⟨⟨⟨⟨⟨⟨h1, h1'⟩, h1''⟩, h2⟩, h3⟩, h3'⟩, h4⟩, h5⟩, h5'⟩, h6⟩, h7⟩, h8⟩, h9⟩ := h
          exact s_pars3 h6 (ps_par3 C.ok.calm C.ok.nd (by rw [C.N]; exact h2) (by rw [C.N]; exact h3) (by rw [C.N]; exact h3') h1 h1' h1'' (by rw [C.sc]; simpa [localB] using h4) (by rw [C.sc]; simpa [localB] using h5) (by rw [C.sc]; simpa [localB] using h5') (ckMix_ok C h7) (by rw [swappedStores_tup hkind h8, C.sc, h9]))
        · cases h
      · -- star
        split at h
        · simp only [Bool.and_eq_true, Bool.not_eq_true', beq_eq_false_iff_ne] at h
          obtain ⟨⟨⟨⟨⟨h1, h2⟩, h3⟩, h4⟩, h5⟩, h6⟩ := h
          obtain ⟨v1, v2, v3⟩ := C.store h2
          obtain ⟨w1, w2, w3⟩ := C.store h3
          have he := K.e C h6
          refine s_star C.ok.calm h1 he (ps_asg he (pg_star C.ok.calm (pgs_cons (pg_name C.ok.nd v1 v2 v3) (pgs_cons (pg_name C.ok.nd w1 w2 w3) pgs_nil)) rfl rfl) (swapsSole_no h4 _ _ _) (swapped_none fun vs k p q => by subst q; cases h5) rfl)
        · cases h
      · -- ext
        split at h
        · simp only [Bool.and_eq_true, beq_iff_eq] at h
          obtain ⟨⟨⟨⟨h1, h2⟩, h3⟩, h4⟩, h5⟩ := h
          obtain ⟨v1, v2, v3, v4⟩ := C.var h2
          subst h1
          refine s_ext (ps_expr (pe_bm PySem.F.plainAttrs_list PySem.F.slot_list_extend PySem.F.type_list_extend mt_extend (pe_var v1 v2 v3 v4) (pa_cons (K.e C h5) pa_nil (starEach_cons h3)) rfl ?_ (by simpa using h4) (starEach_cons h3) rfl) rfl)
          rw [Bool.and_eq_true, Bool.and_eq_true]
          exact ⟨⟨noStar_all (by rw [List.all_cons, h3]; rfl), rfl⟩, rfl⟩
        · cases h
      · -- sset
        split at h
        · simp only [Bool.and_eq_true, Bool.not_eq_true'] at h
          obtain ⟨⟨⟨⟨h1, h2⟩, h3⟩, h4⟩, h5⟩ := h
          refine s_sset (ps_asg (K.e C h5) (pg_sub (K.e C h3) (K.e C h4) set_list ?_) (swapsSole_no h2 _ _ _))
          rename_i pk _ _ _
          intro v
          cases pk <;> first | rfl | cases h1
        · cases h
      · -- app
        split at h
        · simp only [Bool.and_eq_true, beq_iff_eq] at h
          obtain ⟨⟨⟨⟨h1, h2⟩, h3⟩, h4⟩, h5⟩ := h
          obtain ⟨v1, v2, v3, v4⟩ := C.var h2
          subst h1
          refine s_app (ps_expr (pe_bm PySem.F.plainAttrs_list PySem.F.slot_list_append PySem.F.type_list_append mt_append (pe_var v1 v2 v3 v4) (pa_cons (K.e C h5) pa_nil (starEach_cons h3)) rfl ?_ (by simpa using h4) (starEach_cons h3) rfl) rfl)
          rw [Bool.and_eq_true, Bool.and_eq_true]
          exact ⟨⟨noStar_all (by rw [List.all_cons, h3]; rfl), rfl⟩, rfl⟩
        · cases h
      · -- expr
        split at h
        · rw [Bool.and_eq_true, Bool.not_eq_true'] at h
          exact s_expr (K.e C h.2) (swapsWith_no h.1 _ _ _)
        · cases h
      · -- aug
        split at h
        · simp only [Bool.and_eq_true] at h
          obtain ⟨⟨⟨h1, h2⟩, h3⟩, h4⟩ := h
          obtain ⟨v1, v2, v3⟩ := C.store h1
          split at h3
          · cases isB_ok h2
            exact s_aug (ps_aug C.ok.nd v1 v2 (K.e C h4) ip_add v3) (.inl ⟨rfl, rfl⟩)
          · cases isB_ok h2
            exact s_aug (ps_aug C.ok.nd v1 v2 (K.e C h4) ip_sub v3) (.inr ⟨rfl, rfl⟩)
          · cases h3
        · cases h
      · -- if
        split at h
        · simp only [Bool.and_eq_true] at h
          exact s_if (K.t C h.1.1) (ih.2 h.1.2) (ih.2 h.2)
        · cases h
      · -- for
        split at h
        · simp only [Bool.and_eq_true] at h
          exact s_for hpo C.ok.calm (K.i C false h.1.2) ((sg_ck C).1 h.1.1.1) (ih.2 h.2) (fold_ok h.1.1.2 _)
        · cases h
      · -- while
        split at h
        · simp only [Bool.and_eq_true] at h
          exact s_while hpo (K.t C h.1) (ih.2 h.2)
        · cases h
      · split at h
        · exact s_ret (K.e C h)
        · cases h
      · split at h
        · exact s_retN
        · cases h
      · split at h
        · exact s_pass ps_pass
        · exact s_pass ps_doc
        · cases h
      · split at h
        · exact s_brk
        · cases h
      · split at h
        · exact s_cnt
        · cases h
      · exact s_frzd (ih.1 h)
      · exact s_never
    · unfold ckSs at h
      split at h
      · exact ss_nil
      · rw [Bool.and_eq_true] at h
        exact ss_cons (ih.1 h.1) (ih.2 h.2)
      · cases h
end
end G

set_option Elab.async false
set_option linter.all false
set_option maxRecDepth 100000
set_option maxHeartbeats 8000000
/-! GN: the defs of a program, together. -/
namespace G
open PySem PySem.Spec PyProof.Rows L2
theorem lookup_zip : ∀ {ps : List Str} {us : List Value} {n : Str}, n ∈ ps → us.length = ps.length → ∃ v, List.lookup n (ps.zip us) = some v
  | p :: ps, [], _, _, h => by simp at h
  | p :: ps, u :: us, n, hm, h => by
    rw [List.zip_cons_cons, List.lookup_cons]
    cases hb : n == p with
    | true => exact ⟨u, rfl⟩
    | false =>
      rcases List.mem_cons.mp hm with e | e
      · subst e; simp at hb
      · exact lookup_zip e (by simpa using h)
theorem lookup_zip_nil {ps : List Str} {us : List Value} {p : Str} {u : Value} (h : p ∉ ps) : ∀ {qs : List Str}, (∀ q ∈ qs, q ≠ p) → qs.filterMap (fun n => (List.lookup n ((p, u) :: ps.zip us)).map (n, ·)) = qs.filterMap (fun n => (List.lookup n (ps.zip us)).map (n, ·))
  | [], _ => rfl
  | q :: qs, hq => by
    have e : (q == p) = false := by simpa using hq q List.mem_cons_self
    rw [List.filterMap_cons, List.filterMap_cons, List.lookup_cons, e, lookup_zip_nil h fun r hr => hq r (List.mem_cons_of_mem _ hr)]
theorem filterMap_zip : ∀ {ps : List Str} {us : List Value}, ps.Nodup → us.length = ps.length → ps.filterMap (fun n => (List.lookup n (ps.zip us)).map (n, ·)) = ps.zip us
  | [], [], _, _ => rfl
  | p :: ps, u :: us, hn, h => by
    rw [List.nodup_cons] at hn
    rw [List.filterMap_cons, List.zip_cons_cons, List.lookup_cons, beq_self_eq_true]
    show (p, u) :: ps.filterMap _ = _
    rw [lookup_zip_nil hn.1 (fun q hq e => hn.1 (e ▸ hq)), filterMap_zip hn.2 (by simpa using h)]
  | [], _ :: _, _, h => by simp at h
  | _ :: _, [], _, h => by simp at h
theorem bind_plain (x qual : Str) (args : List Arg) (body : List Stmt) (scope : Scope) (kV doc pm : Value) (an : Option Addr) (cdv ct : Value) (us : List Value) (hn : (args.map (·.arg)).Nodup) (hl : us.length = args.length) :
   bindArgs (PySem.W.fnOf x qual ⟨[], args, none, [], [], none, []⟩ body scope .none kV doc pm an cdv ct) ⟨us, []⟩ = pure ((args.map (·.arg)).zip us) := by
  have h1 : ∀ qs : List Str, (∀ q ∈ qs, q ∈ args.map (·.arg)) → (qs.filter fun n => (List.lookup n ((args.map (·.arg)).zip us)).isNone) = [] := fun qs hq => by
    rw [List.filter_eq_nil_iff]
    intro q hm
    obtain ⟨v, e⟩ := lookup_zip (hq q hm) (by simpa using hl)
    rw [e]; simp
  have h2 := filterMap_zip hn (by simpa using hl)
  rw [List.filterMap_map] at h2
  unfold bindArgs PySem.W.fnOf
  simp [seqItems?, hl]
  rw [if_neg (by rw [h1 _ (fun q hq => by simpa using List.mem_of_mem_take hq)]; simp), h2]
  rfl

/-- a def: its name, the names of its places (parameters first), its parameters, its text, its text in the small language -/
structure DefI where
  name : Str
  qual : Str
  N : List Str
  ps : List Str
  args : Arguments
  sbody : List Stmt
  scope : Scope
  body : List Stm
  kw : List Sh := []
  /-- the defaults, the keyword-only ones, how many values are written with which constants behind -/
  dfl : List He.Dv := []
  kwd : List (Str × He.Dv) := []
  pos : List (Nat × List AV) := [(ps.length, [])]
def DefI.dvs (d : DefI) (K : PySem.W.Frag) : List V := d.dfl.map (He.Dv.v K)
def DefI.kws (d : DefI) (K : PySem.W.Frag) : List (Str × V) := d.kwd.map fun q => (q.1, q.2.v K)
def DefI.fn (d : DefI) : Fn := ⟨d.N.length, d.ps.length, d.body⟩
def tabOf (ds : List DefI) : Tab := ds.map fun d => (d.name, d.fn)
def fsOf (ds : List DefI) : List (Str × FnI) := ds.map fun d => (d.name, ⟨d.name, d.ps, d.kw, d.pos⟩)
def fsB (N ps : List Str) (sc : Scope) : Bool := (sc.kind == .function) && !sc.isCoroutine && !sc.isGenerator && decide N.Nodup && (N.take ps.length == ps) && ps.all (fun x => sc.names.lookup x == some .local || sc.names.lookup x == some .cell) && sc.names.all (fun y => !(y.2 == .free))
def argsB : Arguments → List Str → Bool
  | ⟨[], args, none, [], [], none, []⟩, ps => args.map (·.arg) == ps
  | _, _ => false
/-- no defaults, no keyword-only parameters -/
def plainB (d : DefI) : Bool := argsB d.args d.ps && d.dfl.isEmpty && d.kwd.isEmpty && (match d.pos with
  | [(n, [])] => n == d.ps.length
  | _ => false)
def DefI.ck (d : DefI) (bl : List Str) (cs : List (Str × AV)) (fs : List (Str × FnI)) (kd : List (Str × KTab)) : CK := ⟨d.N, d.scope, fun _ => true, bl, cs, fs, kd⟩
def fuelS : Nat := 200
def ckDef (bl : List Str) (cs : List (Str × AV)) (fs : List (Str × FnI)) (kd : List (Str × KTab)) (d : DefI) : Bool :=
  fsB d.N d.ps d.scope && decide d.ps.Nodup && ckSs (d.ck bl cs fs kd) fuelS d.body d.sbody
theorem fsB_ok {N ps : List Str} {sc : Scope} (h : fsB N ps sc = true) : FnScope N ps sc := by
  simp only [fsB, Bool.and_eq_true, Bool.not_eq_true', decide_eq_true_eq, beq_iff_eq, List.all_eq_true, Bool.or_eq_true, beq_eq_false_iff_ne] at h
  obtain ⟨⟨⟨⟨⟨⟨h1, h2⟩, h3⟩, h4⟩, h5⟩, h6⟩, h7⟩ := h
  exact ⟨h1, h2, h3, h4, h5, h6, h7⟩
theorem args_binds {K : PySem.W.Frag} {x qual : Str} {params : Arguments} {body : List Stmt} {scope : Scope} {f : Addr} {fd : FuncData} {ps : List Str} (F : FunD K x qual params body scope [] [] f fd) (hn : ps.Nodup) (h : argsB params ps = true) :
    Binds K fd ps [] ∧ ∀ (s : Shared) (us : List Value), us.length = ps.length → BindsTo s fd ⟨us, []⟩ (ps.zip us) := by
  unfold argsB at h
  split at h
  · rw [beq_iff_eq] at h
    subst h
    exact ⟨F.bindsN fun kV doc pm an cdv ct us hl => bind_plain x qual _ body scope kV doc pm an cdv ct us hn (by simpa using hl), fun s us hl => F.bindsA (fun kV doc pm an cdv ct us hl => bind_plain x qual _ body scope kV doc pm an cdv ct us hn (by simpa using hl)) s us hl⟩
  · cases h
theorem lookup_tab : ∀ {ds : List DefI} {d : DefI}, (ds.map (·.name)).Nodup → d ∈ ds → (tabOf ds).lookup d.name = some d.fn
  | d :: ds, e, hn, hm => by
    rw [List.map_cons, List.nodup_cons] at hn
    show List.lookup e.name ((d.name, d.fn) :: tabOf ds) = _
    rw [List.lookup_cons]
    rcases List.mem_cons.mp hm with q | q
    · subst q; rw [beq_self_eq_true]
    · have : (e.name == d.name) = false := by
        rw [beq_eq_false_iff_ne]
        intro z
        exact hn.1 (List.mem_map.mpr ⟨e, q, z⟩)
      rw [this]
      exact lookup_tab hn.2 q
theorem lookup_fs : ∀ {ds : List DefI} {x : Str} {i : FnI}, (fsOf ds).lookup x = some i → ∃ d ∈ ds, d.name = x ∧ i = ⟨d.name, d.ps, d.kw, d.pos⟩
  | [], _, _, h => by simp [fsOf] at h
  | d :: ds, x, i, h => by
    have h : List.lookup x ((d.name, (⟨d.name, d.ps, d.kw, d.pos⟩ : FnI)) :: fsOf ds) = some i := h
    rw [List.lookup_cons] at h
    cases hb : x == d.name with
    | true =>
      rw [hb] at h
      cases h
      rw [beq_iff_eq] at hb
      exact ⟨d, List.mem_cons_self, hb.symm, rfl⟩
    | false =>
      rw [hb] at h
      obtain ⟨e, h1, h2, h3⟩ := lookup_fs h
      exact ⟨e, List.mem_cons_of_mem _ h1, h2, h3⟩
/-- a call by keywords binds so -/
def KwEq (d : DefI) (sh : Sh) : Prop := ∀ (kV doc pm : Value) (an : Option Addr) (cdv ct : Value) (us ws : List Value), us.length = sh.n → ws.length = sh.ks.length →
  bindArgs (PySem.W.fnOf d.name d.qual d.args d.sbody d.scope .none kV doc pm an cdv ct) ⟨us, sh.ks.zip ws⟩ = pure (d.ps.zip (shG sh us ws))
def DefI.Fun (d : DefI) (K : PySem.W.Frag) (f : Addr) (fd : FuncData) : Prop := FunD K d.name d.qual d.args d.sbody d.scope (d.dvs K) (d.kws K) f fd
def KwOk (d : DefI) (sh : Sh) : Prop := ∀ (K : PySem.W.Frag) (f : Addr) (fd : FuncData), d.Fun K f fd → KBn K fd d.ps sh.n sh.ks (shG sh) (shV sh)
theorem KwEq.ok {d : DefI} {sh : Sh} (h0 : d.dfl = []) (h : KwEq d sh) : KwOk d sh := by
  intro K f fd F
  unfold DefI.Fun DefI.dvs at F
  rw [h0] at F
  obtain ⟨oc, od, dV, kV, doc, pm, an, cdv, ct, osl, rfl, lk, hcd, hD, hK⟩ := F.ex
  rcases hD with ⟨_, rfl⟩ | ⟨e, _⟩
  · exact ⟨fun s us ws _ l1 l2 => .of_eq (h kV doc pm an cdv ct us ws l1 l2), fun r r' => shV_rel sh r r'⟩
  · exact absurd rfl e
/-- a call by place, with these constants behind -/
def PosOk (d : DefI) (p : Nat × List AV) : Prop := ∀ (K : PySem.W.Frag) (f : Addr) (fd : FuncData), d.Fun K f fd → ∃ dvs dls, Vals dvs dls ∧ Binds K fd d.ps dls ∧ ∀ mg ρ ex H, Reps K mg ρ ex H p.2 dvs
theorem plain_fun {d : DefI} {K : PySem.W.Frag} {f : Addr} {fd : FuncData} (h : plainB d = true) (F : d.Fun K f fd) : FunD K d.name d.qual d.args d.sbody d.scope [] [] f fd ∧ argsB d.args d.ps = true ∧ ∀ p ∈ d.pos, p.2 = [] := by
  simp only [plainB, Bool.and_eq_true, List.isEmpty_iff] at h
  obtain ⟨⟨⟨h1, h2⟩, h3⟩, h4⟩ := h
  unfold DefI.Fun DefI.dvs DefI.kws at F
  rw [h2, h3] at F
  refine ⟨F, h1, fun p hp => ?_⟩
  split at h4
  · rename_i e
    rw [e] at hp
    cases List.mem_singleton.mp hp
    rfl
  · cases h4
theorem plain_pos {d : DefI} (hn : d.ps.Nodup) (h : plainB d = true) : ∀ p ∈ d.pos, PosOk d p := fun p hp K f fd F => by
  obtain ⟨F', h1, h2⟩ := plain_fun h F
  refine ⟨[], [], .nil, (args_binds F' hn h1).1, fun _ _ _ _ => ?_⟩
  rw [h2 p hp]
  exact .nil
/-- one keyword-only default, the other parameters written -/
theorem PosOk.kw1 {d : DefI} {n : Nat} {a : Str} {c : He.Dv} {v : AV} (h0 : d.dfl = []) (h1 : d.kwd = [(a, c)]) (hn : d.ps.length = n + 1) (hv : ∀ (K : PySem.W.Frag) mg ρ ex H, Rep K mg ρ ex H v (c.v K))
    (h : ∀ (D : Addr) (doc pm : Value) (an : Option Addr) (cdv ct : Value) (us ks : List Value), us.length = n → ks.length = 1 →
      KwChain D ([a].zip ks) (bindArgs (PySem.W.fnOf d.name d.qual d.args d.sbody d.scope .none (.ref D) doc pm an cdv ct) ⟨us, []⟩) (d.ps.zip (us ++ ks))) : PosOk d (n, [v]) := by
  intro K f fd F
  unfold DefI.Fun DefI.dvs DefI.kws at F
  rw [h0, h1] at F
  obtain ⟨dls, q1, q2⟩ := F.binds0 n (by simp) (by simp [hn]) h
  exact ⟨_, dls, q1, q2, fun mg ρ ex H => .cons (hv K mg ρ ex H) .nil⟩
/-- no exception is wanted -/
def wrN : XK → Prop := fun E => ∀ c d H, E c d H → False
/-- a def as it stands behind the top -/
def Stands (K : PySem.W.Frag) (mg : Str → Option Value) (d : DefI) : Prop := ∃ f fd, mg d.name = some (.ref f) ∧ d.Fun K f fd
section
variable {P : Program} {w : World} {K : PySem.W.Frag} {mg : Str → Option Value} {base : Heap} {ds : List DefI} {bl : List Str} {cs : List (Str × AV)} {kd : List (Str × KTab)}
theorem start_rel {X : Cx} {ρ : List Addr} {ex : Addr → Prop} {ah : AH} {H : Hp} {N : List Str} {avs : List AV} {vs : List V} (hp : HRel X.K X.mg ρ ex ah H) (rs : Reps X.K X.mg ρ ex H avs vs) :
    SR X ρ ex H ρ ex ((L2.start N vs).map fun _ => none) (start N.length avs) ah (L2.start N vs) H := by
  refine ⟨⟨hp, ?_, by simp, fun i s v w e1 e2 e3 => ?_, fun i a e => ?_, fun i j a e1 e2 => ?_⟩, .refl, fun _ x => x, fun i a e => ?_, fun a m => hp.ne m, hp.exOk⟩
  · simp [start, L2.start, rs.length]
  · unfold start at e1
    unfold L2.start at e2
    by_cases hi : i < avs.length
    · rw [List.getElem?_append_left (by simpa using hi), List.getElem?_map] at e1
      rw [List.getElem?_append_left (by simpa [← rs.length] using hi), List.getElem?_map] at e2
      obtain ⟨x, f1, rfl⟩ := Option.map_eq_some_iff.mp e1
      obtain ⟨u, f2, rfl⟩ := Option.map_eq_some_iff.mp e2
      obtain ⟨u', f3, r⟩ := rs.get f1
      rw [f2] at f3; cases f3
      exact ⟨u, rfl, r⟩
    · rw [List.getElem?_append_right (by simpa using hi)] at e1
      have : s = .un := List.eq_of_mem_replicate (List.mem_of_getElem? e1)
      subst this
      trivial
  all_goals
    rw [List.getElem?_map] at *
    simp at *
theorem prog_ok (hsm : (K.lookup sysModules).isSome = true) (hkw : ∀ d ∈ ds, ∀ sh ∈ d.kw, KwOk d sh) (hps : ∀ d ∈ ds, plainB d = true ∨ ∀ p ∈ d.pos, PosOk d p) (hn : (ds.map (·.name)).Nodup) (hs : ∀ d ∈ ds, Stands K mg d) (hb : ∀ x ∈ bl, mg x = none) (hc : ∀ x v, cs.lookup x = some v → ∃ u v', mg x = some u ∧ RelV v' u ∧ ∀ ρ ex H, Rep K mg ρ ex H v v')
    (hkd : ∀ x t, kd.lookup x = some t → KdOk K mg w x t)
    (hk : ds.all (ckDef bl cs (fsOf ds) kd) = true) : ∀ (k : Nat) (d : DefI), d ∈ ds → ∀ (f : Addr) (fd : FuncData), d.Fun K f fd → FnG P w K mg base CX0 k f fd d.ps (spG K mg wrN (callN (tabOf ds) k) d.name d.ps.length)
  | 0, d, _, f, fd, _ => ⟨fun vs H Q E h => h.1, fun A outer s H args us vs Q E hr gd he hbt hv h => by
    obtain ⟨_, _, ρ, ex, ah, avs, _, _, P⟩ := h
    exact P.elim⟩
  | k + 1, d, hd, f, fd, F => by
    have ih := prog_ok hsm hkw hps hn hs hb hc hkd hk k
    have hkk := List.all_eq_true.mp hk d hd
    simp only [ckDef, Bool.and_eq_true, decide_eq_true_eq] at hkk
    obtain ⟨⟨k1, k2⟩, k4⟩ := hkk
    refine FnG.of F (fsB_ok k1) (fun vs H Q E h => h.1) fun cdv A outer s H vs Q E hr gd h => ?_
    refine ⟨tSs (cxOf CX0 P w K mg base d.N d.qual d.scope f cdv A outer s H E).nox noE (callN (tabOf ds) k) d.body, PSs.nox ?_, ?_⟩
    · refine (cks_ok (X := (cxOf CX0 P w K mg base d.N d.qual d.scope f cdv A outer s H E).nox) (E := noE) (Γ := d.ck bl cs (fsOf ds) kd) (CX := CX0) (Wr := wrN) ⟨⟨rfl, (fsB_ok k1).nd, hr.units, gd, hsm⟩, rfl, rfl, (fsB_ok k1).kind, fun _ _ => rfl, hb, hc, fun x i hx => ?_, hkd, fun _ _ _ _ _ _ _ z => z.elim, fun _ _ _ z => z, fun _ _ _ z => z, fun _ _ _ _ _ z => z.elim⟩ PassesOwn.never fuelS).2 k4
      obtain ⟨e, he, rfl, rfl⟩ := lookup_fs hx
      obtain ⟨f', fd', m1, F'⟩ := hs e he
      have hke := List.all_eq_true.mp hk e he
      simp only [ckDef, Bool.and_eq_true, decide_eq_true_eq] at hke
      refine ⟨f', fd', k, m1, F'.kp, hr, ih e he f' fd' F', fun p hp => ?_, fun sh hsh => hkw e he sh hsh K f' fd' F'⟩
      obtain ⟨dvs, dls, d1, d2, d3⟩ := (hps e he).elim (fun q => plain_pos hke.1.2 q p hp K f' fd' F') (fun q => q p hp K f' fd' F')
      exact ⟨dvs, dls, d1, d2, d3 mg⟩
    · obtain ⟨hl, hw, ρ, ex, ah, avs, hp, rs, P0⟩ := h
      simp only [callN, lookup_tab hn hd] at P0
      unfold runFn at P0
      obtain ⟨c, P0⟩ := P0.ite
      rw [Post.bind] at P0
      refine ⟨ρ, ex, H, ρ, ex, _, _, ah, start_rel (X := (cxOf CX0 P w K mg base d.N d.qual d.scope f cdv A outer s H E).nox) hp rs, P0.imp (fun fl h1 P1 => ?_) (fun x h1 k => ?_)⟩
      · cases fl with
        | nx σ1 => exact fun ρ' ex' ws' σ' H' R' st' => P1 ρ' H' .non R'.ext (R'.st.hp.less R'.exL) .non
        | rt v => exact fun ρ' H' v' a hp' r => P1 ρ' H' v' a hp' r
        | bk _ => exact P1.elim
        | ct _ => exact P1.elim
      · exact fun ρ' H' c d a hp r => hw c d H' (k ρ' H' c d a hp r)
end
end G

set_option Elab.async false
set_option linter.all false
set_option maxRecDepth 100000
set_option maxHeartbeats 4000000
/-! GP: what is looked at behind the top: the defs, free names, constants, the row of modules; a law's end. -/
namespace G
open PySem PySem.Spec PyProof.Rows L2
abbrev AlS : Type := He.AlD × Bool × List (Option (List (Option (Str × Int))))
def fragS (g : Addr → Option Obj) (n : Nat) : PySem.W.Frag := He.frG g (sysModules :: He.asD g n)
/-! ### constants of the module -/
mutual
def cvB (K : PySem.W.Frag) : AV → Value → Bool
  | .non, .none => true
  | .bl a, .bool b => a == b
  | .int i, .int j _ => i == j
  | .str x, .str y _ => x == y
  | .tup xs, .ref a => (match K.lookup a with
    | some ⟨.type c, _, .seq its _, _⟩ => decide (c = "tuple") && decide (its.size ≤ sizeLine) && cvBs K xs its.toList
    | _ => false)
  | _, _ => false
def cvBs (K : PySem.W.Frag) : List AV → List Value → Bool
  | [], [] => true
  | x :: xs, u :: us => cvB K x u && cvBs K xs us
  | _, _ => false
end
def CvOk (K : PySem.W.Frag) (x : AV) (u : Value) : Prop := ∃ v', RelV v' u ∧ ∀ mg ρ ex H, Rep K mg ρ ex H x v'
def CvOks (K : PySem.W.Frag) (xs : List AV) (us : List Value) : Prop := ∃ vs, Vals vs us ∧ ∀ mg ρ ex H, Reps K mg ρ ex H xs vs
mutual
theorem cvB_ok {K : PySem.W.Frag} : ∀ {x : AV} {u : Value}, cvB K x u = true → CvOk K x u
  | .non, u, h => by
    cases u <;> simp only [cvB, Bool.false_eq_true] at h
    exact ⟨.non, rfl, fun _ _ _ _ => .non⟩
  | .bl a, u, h => by
    cases u <;> simp only [cvB, Bool.false_eq_true, beq_iff_eq] at h
    subst h
    exact ⟨.bl a, rfl, fun _ _ _ _ => .bl a⟩
  | .int i, u, h => by
    cases u <;> simp only [cvB, Bool.false_eq_true, beq_iff_eq] at h
    subst h
    exact ⟨.int i, ⟨_, rfl⟩, fun _ _ _ _ => .int i⟩
  | .str x, u, h => by
    cases u <;> simp only [cvB, Bool.false_eq_true, beq_iff_eq] at h
    subst h
    exact ⟨.str x, ⟨_, rfl⟩, fun _ _ _ _ => .str x⟩
  | .tup xs, u, h => by
    cases u <;> simp only [cvB, Bool.false_eq_true] at h
    rename_i a
    split at h
    · rename_i q
      simp only [Bool.and_eq_true, decide_eq_true_eq] at h
      obtain ⟨⟨rfl, h2⟩, h3⟩ := h
      obtain ⟨vs, r1, r2⟩ := cvBs_ok h3
      exact ⟨.ref a, rfl, fun mg ρ ex H => .tup (.inr ⟨_, _, _, q, rfl, rfl, h2, r1⟩) (r2 mg ρ ex H)⟩
    · cases h
  | .lst _, u, h => by simp [cvB] at h
  | .dct _ _, u, h => by simp [cvB] at h
  | .ref _, u, h => by simp [cvB] at h
  | .fn _, u, h => by simp [cvB] at h
  | .scr _, u, h => by simp [cvB] at h
theorem cvBs_ok {K : PySem.W.Frag} : ∀ {xs : List AV} {us : List Value}, cvBs K xs us = true → CvOks K xs us
  | [], [], _ => ⟨[], .nil, fun _ _ _ _ => .nil⟩
  | [], _ :: _, h => by simp [cvBs] at h
  | _ :: _, [], h => by simp [cvBs] at h
  | x :: xs, u :: us, h => by
    simp only [cvBs, Bool.and_eq_true] at h
    obtain ⟨v, r1, r2⟩ := cvB_ok h.1
    obtain ⟨vs, r3, r4⟩ := cvBs_ok h.2
    exact ⟨v :: vs, .cons r1 r3, fun mg ρ ex H => .cons (r2 mg ρ ex H) (r4 mg ρ ex H)⟩
end
def csB (K : PySem.W.Frag) (cs : List (Str × AV)) : Bool := cs.all fun q => match PySem.W.nsIn K mainGlobals q.1 with
  | some (some u) => cvB K q.2 u
  | _ => false
theorem csB_ok {K : PySem.W.Frag} {mg : Str → Option Value} {h : Heap} {cs : List (Str × AV)} (X : K.In h) (G : h.Ns mainGlobals mg) (c : csB K cs = true) : ∀ x v, cs.lookup x = some v → ∃ u v', mg x = some u ∧ RelV v' u ∧ ∀ ρ ex H, Rep K mg ρ ex H v v' := by
  intro x v hl
  have hm : (x, v) ∈ cs := by
    clear c
    induction cs with
    | nil => cases hl
    | cons q cs ih =>
      rw [List.lookup_cons] at hl
      cases hb : x == q.1 with
      | true =>
        rw [hb] at hl
        cases hl
        rw [beq_iff_eq] at hb
        rw [hb]; exact List.mem_cons_self
      | false => rw [hb] at hl; exact List.mem_cons_of_mem _ (ih hl)
  have q := List.all_eq_true.mp c _ hm
  dsimp only at q
  split at q
  · rename_i u e
    obtain ⟨v', r1, r2⟩ := cvB_ok q
    exact ⟨u, v', PySem.W.mg_of X G e, r1, r2 mg⟩
  · cases q
/-! ### written dicts -/
/-- the values of a written dict -/
def tabB (K : PySem.W.Frag) (q : Str × KTab) : Bool := PySem.W.nsIn K mainGlobals q.1 == some (some (.ref (He.ga K q.1))) && q.2.all fun p => match PySem.W.nsIn K (He.ga K q.1) p.1 with
  | some (some u) => cvB K p.2 u
  | _ => false
def kdsB (K : PySem.W.Frag) (kd : List (Str × KTab)) : Bool := kd.all (tabB K)
def dicsS (K : PySem.W.Frag) (kd : List (Str × KTab)) : List (Option (List (Option (Str × Int)))) := kd.map fun q => He.dicW K (He.ga K q.1)
def keysS (w : World) (kd : List (Str × KTab)) : List (Option (List (Option (Str × Int)))) := kd.map fun q => some (He.keysIn w.params (q.2.map (·.1)))
theorem nsIn_none {K : PySem.W.Frag} {a : Addr} {P : Params} {ks : List Str} (h : He.dicW K a = some (He.keysIn P ks)) {z : Str} (hz : z ∉ ks) : PySem.W.nsIn K a z = some none := by
  unfold He.dicW at h
  unfold PySem.W.nsIn
  split at h
  · rename_i c es n sl q
    rw [q]
    split at h
    · have e := Option.some.inj h
      have key : ∀ (l : List DictEntry) (ks : List Str), l.map He.keyOf = He.keysIn P ks → z ∉ ks → l.find? (·.key.isStr z) = none ∧ l.any (·.refKey) = false := by
        intro l
        induction l with
        | nil => intro ks _ _; exact ⟨rfl, rfl⟩
        | cons d l ih =>
          intro ks e hz
          cases ks with
          | nil => cases e
          | cons k ks =>
            have e : He.keyOf d :: l.map He.keyOf = some (k, PyData.keyHash P k) :: He.keysIn P ks := e
            injection e with e1 e2
            obtain ⟨h1, h2⟩ := ih ks e2 fun m => hz (List.mem_cons_of_mem _ m)
            unfold He.keyOf at e1
            split at e1
            · rename_i x t ek
              have e3 := Option.some.inj e1
              have e4 := (Prod.mk.inj e3).1
              subst e4
              have hne : (d.key.isStr z) = false := by
                rw [ek]
                have : x ≠ z := fun q => hz (by rw [← q]; exact List.mem_cons_self)
                simp only [Value.isStr]
                simpa using this
              have hrf : d.refKey = false := by
                unfold DictEntry.refKey
                rw [ek]
              exact ⟨by rw [List.find?_cons, hne]; exact h1, by rw [List.any_cons, hrf, h2]; rfl⟩
            · cases e1
      obtain ⟨h1, h2⟩ := key es.toList ks e hz
      simp only [h1, h2]
      rfl
    · cases h
  · cases h
theorem kdsB_ok {K : PySem.W.Frag} {mg : Str → Option Value} {h : Heap} {w : World} {kd : List (Str × KTab)} (X : K.In h) (G : h.Ns mainGlobals mg) (c : kdsB K kd = true) (hd : dicsS K kd = keysS w kd) : ∀ x t, kd.lookup x = some t → KdOk K mg w x t := by
  intro x t hl
  have hm : (x, t) ∈ kd ∧ He.dicW K (He.ga K x) = some (He.keysIn w.params (t.map (·.1))) := by
    clear c
    induction kd with
    | nil => cases hl
    | cons q kd ih =>
      have hd : He.dicW K (He.ga K q.1) :: dicsS K kd = some (He.keysIn w.params (q.2.map (·.1))) :: keysS w kd := hd
      injection hd with d1 d2
      rw [List.lookup_cons] at hl
      cases hb : x == q.1 with
      | true =>
        rw [hb] at hl
        cases hl
        rw [beq_iff_eq] at hb
        subst hb
        exact ⟨List.mem_cons_self, d1⟩
      | false =>
        rw [hb] at hl
        obtain ⟨m1, m2⟩ := ih d2 hl
        exact ⟨List.mem_cons_of_mem _ m1, m2⟩
  obtain ⟨es, n, D⟩ := He.dicW_ok hm.2
  have q := List.all_eq_true.mp c _ hm.1
  simp only [tabB, Bool.and_eq_true, beq_iff_eq] at q
  refine ⟨He.ga K x, es, n, PySem.W.mg_of X G q.1, D, fun z e => ?_, fun z v e => ?_⟩
  · refine nsIn_none hm.2 fun m => ?_
    obtain ⟨p, hp, rfl⟩ := List.mem_map.mp m
    have : (t.lookup p.1).isSome = true := by
      clear q hm hl
      induction t with
      | nil => cases hp
      | cons r t ih =>
        rw [List.lookup_cons]
        cases hb : p.1 == r.1 with
        | true => rfl
        | false =>
          rcases List.mem_cons.mp hp with e0 | m
          · subst e0; simp at hb
          · rw [List.lookup_cons, hb] at e
            exact ih m e (List.mem_map.mpr ⟨p, m, rfl⟩)
    rw [e] at this; cases this
  · have hv : (z, v) ∈ t := by
      clear q hm hl
      induction t with
      | nil => cases e
      | cons r t ih =>
        rw [List.lookup_cons] at e
        cases hb : z == r.1 with
        | true =>
          rw [hb] at e
          cases e
          rw [beq_iff_eq] at hb
          rw [hb]; exact List.mem_cons_self
        | false => rw [hb] at e; exact List.mem_cons_of_mem _ (ih e)
    have q2 := List.all_eq_true.mp q.2 _ hv
    dsimp only at q2
    split at q2
    · rename_i u eu
      obtain ⟨v', r1, r2⟩ := cvB_ok q2
      exact ⟨u, v', eu, r1, r2 mg⟩
    · cases q2
def obsS (n : Nat) (fa : List He.Fa) (fn : List He.DefD) (cs : List (Str × AV)) (kd : List (Str × KTab)) (g : Addr → Option Obj) : AlS := (He.obsD fa fn (fragS g n), ((fragS g n).lookup sysModules).isSome && (csB (fragS g n) cs && kdsB (fragS g n) kd), dicsS (fragS g n) kd)
def SaysS (fa : List He.Fa) (fn : List He.DefD) (cs : List (Str × AV)) (kd : List (Str × KTab)) (w : World) (K : PySem.W.Frag) : Prop := He.SaysD fa fn K ∧ ((K.lookup sysModules).isSome && (csB K cs && kdsB K kd)) = true ∧ dicsS K kd = keysS w kd
def hookS (n : Nat) (fa : List He.Fa) (fn : List He.DefD) (cs : List (Str × AV)) (kd : List (Str × KTab)) : PySem.W.Hook where
  α := AlS
  obs := fun s => obsS n fa fn cs kd s.heap.get?
  val := fun w => (He.valD fn, true, keysS w kd)
  says := fun w h => ∃ K : PySem.W.Frag, K.In h ∧ SaysS fa fn cs kd w K
  of := fun _ _ e => ⟨_, He.frG_in, congrArg (fun z : AlS => z.1) e, congrArg (fun z : AlS => z.2.1) e, congrArg (fun z : AlS => z.2.2) e⟩
  keeps := fun _ _ _ ⟨K, hK, c⟩ k => ⟨K, PySem.W.Frag.In.keeps hK k, c⟩
theorem obsS_eq {n : Nat} {fa : List He.Fa} {fn : List He.DefD} {cs : List (Str × AV)} {kd : List (Str × KTab)} {g : Addr → Option Obj} {s : Shared} (h : ∀ a, g a = s.heap.get? a) : obsS n fa fn cs kd g = (hookS n fa fn cs kd).obs s := by
  have e : g = s.heap.get? := funext h
  rw [e]
  rfl
/-- a def, looked at -/
def DefI.dd (d : DefI) : He.DefD := ⟨(d.name, none), d.name, d.qual, d.args, d.sbody, d.scope, d.dfl, d.kwd⟩
/-- what is asked of the names: the defs, then the free ones -/
def faOf (ds : List DefI) (bl : List Str) : List He.Fa := ds.map (fun d => .glo d.name) ++ bl.map .free
section
variable {K : PySem.W.Frag} {mg : Str → Option Value} {h : Heap} {ds : List DefI} {bl : List Str} {more : List He.Fa} {cs : List (Str × AV)} {kd : List (Str × KTab)} {w : World}
theorem says_fa (c : SaysS (faOf ds bl ++ more) (ds.map DefI.dd) cs kd w K) {f : He.Fa} (hm : f ∈ faOf ds bl ++ more) : f.ok K = true := by
  obtain ⟨i, hi, e⟩ := List.getElem_of_mem hm
  exact c.1.fact i (by rw [List.getElem?_eq_getElem hi, e])
theorem says_stands (KX : K.In h) (Gn : h.Ns mainGlobals mg) (c : SaysS (faOf ds bl ++ more) (ds.map DefI.dd) cs kd w K) : ∀ d ∈ ds, Stands K mg d := fun d hd => by
  have hm : d.dd ∈ ds.map DefI.dd := List.mem_map.mpr ⟨d, hd, rfl⟩
  obtain ⟨i, hi, e⟩ := List.getElem_of_mem hm
  obtain ⟨fd, F⟩ := c.1.def_ i (d := d.dd) (by rw [List.getElem?_eq_getElem hi, e])
  have q := He.glo_ok KX Gn (says_fa c (List.mem_append_left _ (List.mem_append_left _ (List.mem_map.mpr ⟨d, hd, rfl⟩))))
  exact ⟨_, fd, q, F⟩
theorem says_free (KX : K.In h) (Gn : h.Ns mainGlobals mg) (c : SaysS (faOf ds bl ++ more) (ds.map DefI.dd) cs kd w K) : ∀ x ∈ bl, mg x = none := fun x hx =>
  He.free_ok KX Gn (says_fa c (List.mem_append_left _ (List.mem_append_right _ (List.mem_map.mpr ⟨x, hx, rfl⟩))))
end
theorem sqS_of {K : PySem.W.Frag} {H : Hp} {a : Addr} {ns : List Int} (o : Only H) (h : SqL K H a (ns.map V.int)) : SqS K H a ns := by
  rcases h with (h | h) | h
  · rcases o a with z | ⟨ob, xs, z⟩
    · rw [h] at z; cases z
    · rw [h] at z; cases z
  · exact .inl h
  · exact .inr h
/-- THE END: a law whose def comes to True in the small language -/
theorem law_end {l : PySem.W.OpenLaw} {k n : Nat} {q : Program} {loose : List Str} {XP : (Str → Option Value) → Heap → Prop} {d : DefRec} {x : Str} {ds : List DefI} {bl : List Str} {cs : List (Str × AV)} {kd : List (Str × KTab)} {more : List He.Fa} {dl : DefI}
    (hn : l.most = some 63) (hdf : d.params.defaults = []) (hr : Room k callerA) (hm : dl ∈ ds) (hname : d.name = dl.name) (hps : dl.ps = [x])
    (hkw : ∀ d ∈ ds, ∀ sh ∈ d.kw, KwOk d sh) (hpo : ∀ d ∈ ds, plainB d = true ∨ ∀ p ∈ d.pos, PosOk d p) (hpl : plainB dl = true) (hnd : (ds.map (·.name)).Nodup) (hk : ds.all (ckDef bl cs (fsOf ds) kd) = true)
    (hlaw : ∀ ns : List Int, ns.length ≤ 63 → ∃ h, callN (tabOf ds) k dl.name [.scr ns] [] = .ok (.bl true) h) :
    PySem.W.WalkO q loose XP (fun w h => ∃ K : PySem.W.Frag, K.In h ∧ SaysS (faOf ds bl ++ more) (ds.map DefI.dd) cs kd w K) l.row.toRowW d [] (fun f vs => PySem.call f vs) := by
  refine walk_G (k := k) (x := x) hn (by decide) hdf hr fun w mg fa h ⟨K, KX, c⟩ Gn hmg => ?_
  obtain ⟨f, fd, e1, F⟩ := says_stands KX Gn c dl hm
  rw [hname, e1] at hmg
  cases hmg
  have hkl := List.all_eq_true.mp hk dl hm
  simp only [ckDef, Bool.and_eq_true, decide_eq_true_eq] at hkl
  obtain ⟨F0, a1, _⟩ := plain_fun hpl F
  have B := (args_binds F0 hkl.1.2 a1).2
  have c2 := c.2.1
  rw [Bool.and_eq_true, Bool.and_eq_true] at c2
  refine ⟨K, fd, spG K mg wrN (callN (tabOf ds) k) dl.name dl.ps.length, KX, fun s u => ?_, fun H a ns hl hO hS => ?_, fun base hb1 hb2 => ?_⟩
  · have := B s [u] (by rw [hps]; rfl)
    rw [hps] at this
    exact this
  · obtain ⟨h2, e⟩ := hlaw ns hl
    refine ⟨by rw [hps]; rfl, fun _ _ _ z => z, [], (fun _ => False), [], [.scr ns], ⟨rfl, .nil, fun _ m => (by cases m), fun _ z => z.elim, fun n c a e1 _ => (by simp at e1)⟩, .cons (.scr (sqS_of hO hS)) .nil, ?_⟩
    rw [e]
    intro ρ' H' v' _ _ r
    cases r
    rfl
  · have := prog_ok (P := l.prog) (w := w) (K := K) (mg := mg) (base := base) c2.1 hkw hpo hnd (says_stands KX Gn c) (says_free KX Gn c) (csB_ok KX Gn c2.2.1) (kdsB_ok KX Gn c2.2.2 c.2.2) hk k dl hm _ fd F
    rw [hps] at this ⊢
    exact this
end G

set_option Elab.async false
set_option linter.all false
set_option maxRecDepth 100000
set_option maxHeartbeats 4000000
/-! GW: what must hold ahead of a piece, so that it comes to something of which Q holds. -/
namespace GI
open PySem G
inductive OkI {α : Type} : Rs α → (α → AH → Prop) → Prop
  | mk {a : α} {h : AH} {Q : α → AH → Prop} : Q a h → OkI (.ok a h) Q
theorem Ok_ok {α : Type} {a : α} {h : AH} {Q : α → AH → Prop} : OkI (.ok a h) Q = Q a h := propext ⟨fun q => (by cases q; assumption), .mk⟩
theorem Ok_no {α : Type} {Q : α → AH → Prop} : OkI .no Q = False := propext ⟨fun q => (by cases q), fun q => q.elim⟩
theorem Ok_ex {α : Type} {x : Exn} {h : AH} {Q : α → AH → Prop} : OkI (.ex x h) Q = False := propext ⟨fun q => (by cases q), fun q => q.elim⟩
theorem Ok_bind {α β : Type} {r : Rs α} {f : α → AH → Rs β} {Q : β → AH → Prop} : OkI (r.bind f) Q = OkI r fun a h => OkI (f a h) Q := by
  cases r with
  | ok a h => simp only [Rs.bind_ok, Ok_ok]
  | ex x h => simp only [Rs.bind_ex, Ok_ex]
  | no => simp only [Rs.bind_no, Ok_no]
theorem OkI.mono {α : Type} {r : Rs α} {P Q : α → AH → Prop} (p : OkI r P) (i : ∀ a h, P a h → Q a h) : OkI r Q := by
  cases p with
  | mk q => exact .mk (i _ _ q)
theorem OkI.get {α : Type} {r : Rs α} {P : α → AH → Prop} (p : OkI r P) : ∃ a h, r = .ok a h ∧ P a h := by
  cases p with
  | mk q => exact ⟨_, _, rfl, q⟩
theorem Ok_of {α : Type} {r : Rs α} {a : α} {h : AH} {Q : α → AH → Prop} (e : r = .ok a h) (q : Q a h) : OkI r Q := by rw [e]; exact .mk q
theorem Ok_eq {α : Type} {r : Rs α} {a : α} {h : AH} (p : OkI r fun v g => v = a ∧ g = h) : r = .ok a h := by
  obtain ⟨v, g, e, rfl, rfl⟩ := p.get
  exact e
theorem Ok_lift {α : Type} {o : Option α} {h : AH} {Q : α → AH → Prop} {a : α} (e : o = some a) (q : Q a h) : OkI (lift o h) Q := by rw [e]; exact .mk q
theorem Ok_if {α : Type} {c : Prop} [Decidable c] {r s : Rs α} {Q : α → AH → Prop} (hc : c) (q : OkI r Q) : OkI (if c then r else s) Q := by rw [if_pos hc]; exact q
/-- a way by a truth -/
def Br (k : Bool) (A B : Prop) : Prop := match k with
  | true => A
  | false => B
theorem Br_true {A B : Prop} : Br true A B = A := rfl
theorem Br_false {A B : Prop} : Br false A B = B := rfl
theorem Br_of {k : Bool} {A B : Prop} (t : k = true → A) (f : k = false → B) : Br k A B := by
  cases k with
  | true => exact t rfl
  | false => exact f rfl
theorem Br_dec {p : Prop} [Decidable p] {A B : Prop} (t : p → A) (f : ¬ p → B) : Br (decide p) A B := by
  by_cases h : p
  · rw [decide_eq_true h]; exact t h
  · rw [decide_eq_false h]; exact f h
theorem Br_same {k : Bool} {A : Prop} (a : A) : Br k A A := by cases k <;> exact a
/-- what follows a statement -/
def seqK (N : ASt → AH → Prop) (Q : Fl → AH → Prop) (f : Fl) (h : AH) : Prop := match f with
  | .nx σ => N σ h
  | f => Q f h
theorem seqK_nx {N : ASt → AH → Prop} {Q : Fl → AH → Prop} {σ : ASt} {h : AH} : seqK N Q (.nx σ) h = N σ h := rfl
theorem seqK_rt {N : ASt → AH → Prop} {Q : Fl → AH → Prop} {v : AV} {h : AH} : seqK N Q (.rt v) h = Q (.rt v) h := rfl
theorem seqK_bk {N : ASt → AH → Prop} {Q : Fl → AH → Prop} {σ : ASt} {h : AH} : seqK N Q (.bk σ) h = Q (.bk σ) h := rfl
theorem seqK_ct {N : ASt → AH → Prop} {Q : Fl → AH → Prop} {σ : ASt} {h : AH} : seqK N Q (.ct σ) h = Q (.ct σ) h := rfl
/-- what follows a def's body -/
def retK (Q : AV → AH → Prop) (f : Fl) (h : AH) : Prop := match f with
  | .rt v => Q v h
  | .nx _ => Q .non h
  | _ => False
theorem retK_rt {Q : AV → AH → Prop} {v : AV} {h : AH} : retK Q (.rt v) h = Q v h := rfl
theorem retK_nx {Q : AV → AH → Prop} {σ : ASt} {h : AH} : retK Q (.nx σ) h = Q .non h := rfl
theorem retK_bk {Q : AV → AH → Prop} {σ : ASt} {h : AH} : retK Q (.bk σ) h = False := rfl
theorem retK_ct {Q : AV → AH → Prop} {σ : ASt} {h : AH} : retK Q (.ct σ) h = False := rfl
/-- a truth that is asked of a value -/
def blK (K : Bool → Prop) (v : AV) : Prop := ∃ b, v = .bl b ∧ K b
theorem blK_bl {K : Bool → Prop} {b : Bool} : blK K (.bl b) = K b := propext ⟨fun ⟨_, e, q⟩ => (by cases e; exact q), fun q => ⟨_, rfl, q⟩⟩
def inK (K : Int → Prop) (v : AV) : Prop := ∃ b, v = .int b ∧ K b
theorem inK_int {K : Int → Prop} {b : Int} : inK K (.int b) = K b := propext ⟨fun ⟨_, e, q⟩ => (by cases e; exact q), fun q => ⟨_, rfl, q⟩⟩
def lsK (K : List AV → Prop) (v : AV) : Prop := ∃ b, v = .lst b ∧ K b
theorem lsK_lst {K : List AV → Prop} {b : List AV} : lsK K (.lst b) = K b := propext ⟨fun ⟨_, e, q⟩ => (by cases e; exact q), fun q => ⟨_, rfl, q⟩⟩
theorem Ok_blm {α : Type} {v : AV} {f : Bool → Rs α} {Q : α → AH → Prop} (p : blK (fun b => OkI (f b) Q) v) : OkI (match v with | .bl b => f b | _ => .no) Q := by
  obtain ⟨b, rfl, q⟩ := p
  exact q
section
variable {Φ : CallA} {σ : ASt} {h : AH} {Q : AV → AH → Prop}
theorem wE_c {v : AV} : OkI (evE Φ (.c v) σ h) Q = Q v h := by rw [evE, Ok_ok]
theorem wE_var {i : Nat} : OkI (evE Φ (.var i) σ h) Q = OkI (match σ[i]? with
    | some (.vl v) => .ok v h
    | _ => .no) Q := by rw [evE] <;> rfl
theorem wE_bin {o : BOp} {a b : Exp} : OkI (evE Φ (.bin o a b) σ h) Q = OkI (evE Φ a σ h) fun x h => OkI (evE Φ b σ h) fun y h => OkI (opB o x y h) Q := by simp only [evE, Ok_bind]
theorem wE_neg {a : Exp} : OkI (evE Φ (.neg a) σ h) Q = OkI (evE Φ a σ h) fun x h => inK (fun i => Q (.int (-i)) h) x := by
  simp only [evE, Ok_bind]
  congr 1; funext x h
  cases x <;> simp [Ok_ok, Ok_no, inK]
theorem wE_not {a : Exp} : OkI (evE Φ (.not a) σ h) Q = OkI (evE Φ a σ h) fun x h => blK (fun b => Q (.bl (!b)) h) x := by
  simp only [evE, Ok_bind]
  congr 1; funext x h
  cases x <;> simp [Ok_ok, Ok_no, blK]
theorem wE_and {a b : Exp} : OkI (evE Φ (.and a b) σ h) Q = OkI (evE Φ a σ h) fun x h => blK (fun k => Br k (OkI (evE Φ b σ h) Q) (Q (.bl false) h)) x := by
  simp only [evE, Ok_bind]
  congr 1; funext x h
  cases x <;> simp [Ok_no, blK]
  rename_i k
  cases k <;> simp [Ok_ok, Br]
theorem wE_or {a b : Exp} : OkI (evE Φ (.or a b) σ h) Q = OkI (evE Φ a σ h) fun x h => blK (fun k => Br k (Q (.bl true) h) (OkI (evE Φ b σ h) Q)) x := by
  simp only [evE, Ok_bind]
  congr 1; funext x h
  cases x <;> simp [Ok_no, blK]
  rename_i k
  cases k <;> simp [Ok_ok, Br]
theorem wE_cmp {o : COp} {a b : Exp} : OkI (evE Φ (.cmp o a b) σ h) Q = OkI (peek a σ h (evE Φ a σ h)) fun x h => OkI (peek b σ h (evE Φ b σ h)) fun y h => OkI (lift (opC o x y h) h) fun k h => Q (.bl k) h := by
  simp only [evE, Ok_bind]
  congr 1; funext x h; congr 1; funext y h
  cases opC o x y h <;> simp [Ok_ok, Ok_no]
theorem wE_chain {o p : COp} {a b c : Exp} : OkI (evE Φ (.chain o p a b c) σ h) Q = OkI (evE Φ a σ h) fun x h => OkI (evE Φ b σ h) fun y h => OkI (lift (opC o x y h) h) fun k h => Br k (OkI (evE Φ c σ h) fun z h => OkI (lift (opC p y z h) h) fun k h => Q (.bl k) h) (Q (.bl false) h) := by
  simp only [evE, Ok_bind]
  congr 1; funext x h; congr 1; funext y h; congr 1; funext k h
  cases k
  · simp [Ok_ok, Br]
  · simp only [Ok_bind, Br]
    congr 1; funext z h
    cases opC p y z h <;> simp [Ok_ok, Ok_no]
theorem wE_ife {t : Tst} {a b : Exp} : OkI (evE Φ (.ife t a b) σ h) Q = OkI (evT Φ t σ h) fun k h => Br k (OkI (evE Φ a σ h) Q) (OkI (evE Φ b σ h) Q) := by
  simp only [evE, Ok_bind]
  congr 1; funext k h
  cases k <;> rfl
theorem wE_isi {a : Exp} {ts : List Ty} : OkI (evE Φ (.isi a ts) σ h) Q = OkI (evE Φ a σ h) fun x h => OkI (lift (hasTys x ts) h) fun k h => Q (.bl k) h := by
  simp only [evE, Ok_bind]
  congr 1; funext x h
  cases hasTys x ts <;> simp [Ok_ok, Ok_no]
theorem wE_tup {es : List Exp} : OkI (evE Φ (.tup es) σ h) Q = OkI (evEs Φ es σ h) fun xs h => OkI (if xs.length ≤ sizeLine then .ok (.tup xs) h else .no) Q := by simp only [evE, Ok_bind]
theorem wE_lst {es : List Exp} : OkI (evE Φ (.lst es) σ h) Q = OkI (evEs Φ es σ h) fun xs h => OkI (if xs.length ≤ sizeLine then .ok (.lst xs) h else .no) Q := by simp only [evE, Ok_bind]
theorem wE_sub {a i : Exp} : OkI (evE Φ (.sub a i) σ h) Q = OkI (peek a σ h (evE Φ a σ h)) fun x h => OkI (evE Φ i σ h) fun k h => OkI (lift (opSub x k h) h) Q := by simp only [evE, Ok_bind]
theorem wE_slice {a : Exp} {lo hi : Option Exp} : OkI (evE Φ (.slice a lo hi) σ h) Q = OkI (peek a σ h (evE Φ a σ h)) fun x h => OkI (evO Φ lo σ h) fun l h => OkI (evO Φ hi σ h) fun u h => OkI (lift (opSlice x l u h) h) Q := by simp only [evE, Ok_bind]
theorem wE_rev {a : Exp} : OkI (evE Φ (.rev a) σ h) Q = OkI (peek a σ h (evE Φ a σ h)) fun x h => OkI (match x with
    | .tup xs => .ok (.tup xs.reverse) h
    | .lst xs => .ok (.lst xs.reverse) h
    | _ => .no) Q := by simp only [evE, Ok_bind] <;> rfl
theorem wE_call {f : Str} {es : List Exp} : OkI (evE Φ (.call f es) σ h) Q = OkI (evEs Φ es σ h) fun xs h => OkI (Φ f xs h) Q := by simp only [evE, Ok_bind]
theorem wE_callK {f : Str} {es : List Exp} {ix : List Nat} : OkI (evE Φ (.callK f es ix) σ h) Q = OkI (evEs Φ es σ h) fun xs h => OkI (Φ f (ix.map fun i => xs.getD i .non) h) Q := by simp only [evE, Ok_bind]
theorem wE_bi {f : Bi} {es : List Exp} : OkI (evE Φ (.bi f es) σ h) Q = OkI (evPs Φ es σ h) fun xs h => OkI (opBi f xs h) Q := by simp only [evE, Ok_bind]
theorem wE_biD {f : Bi} {e d : Exp} : OkI (evE Φ (.biD f e d) σ h) Q = OkI (peek e σ h (evE Φ e σ h)) fun x h => OkI (evE Φ d σ h) fun y h => OkI (opBiD f x y h) Q := by simp only [evE, Ok_bind]
theorem Ok_noEx {α : Type} {r : Rs α} {Q : α → AH → Prop} : OkI (noEx r) Q = OkI r Q := by cases r <;> simp [noEx, Ok_no, Ok_ex]
theorem wE_comp {c : Cmp} : OkI (evE Φ (.comp c) σ h) Q = OkI (evC Φ c true σ h) fun xs h => OkI (if xs.length ≤ sizeLine then .ok (.lst xs) h else .no) Q := by simp only [evE, Ok_bind, Ok_noEx]
def stK (K : Str → Prop) (v : AV) : Prop := ∃ b, v = .str b ∧ K b
theorem stK_str {K : Str → Prop} {b : Str} : stK K (.str b) = K b := propext ⟨fun ⟨_, e, q⟩ => (by cases e; exact q), fun q => ⟨_, rfl, q⟩⟩
def tcK (K : AV → List AV → Prop) (v : AV) : Prop := ∃ b c, v = .tup (b :: c) ∧ K b c
theorem tcK_tup {K : AV → List AV → Prop} {b : AV} {c : List AV} : tcK K (.tup (b :: c)) = K b c := propext ⟨fun ⟨_, _, e, q⟩ => (by cases e; exact q), fun q => ⟨_, _, rfl, q⟩⟩
theorem wE_kin {n : Bool} {a : Exp} {t : List (Str × AV)} : OkI (evE Φ (.kin n a t) σ h) Q = OkI (evE Φ a σ h) fun x h => stK (fun z => Q (.bl (if n then !(t.lookup z).isSome else (t.lookup z).isSome)) h) x := by
  simp only [evE, Ok_bind]
  congr 1; funext x h
  cases x <;> simp [Ok_ok, Ok_no, stK]
theorem wE_kget {a : Exp} {t : List (Str × AV)} : OkI (evE Φ (.kget t a) σ h) Q = OkI (evE Φ a σ h) fun x h => stK (fun z => OkI (lift (t.lookup z) h) Q) x := by
  simp only [evE, Ok_bind]
  congr 1; funext x h
  cases x <;> simp [Ok_no, stK]
theorem wE_kgetD {a d : Exp} {t : List (Str × AV)} : OkI (evE Φ (.kgetD t a d) σ h) Q = OkI (evE Φ a σ h) fun x h => OkI (evE Φ d σ h) fun y h => stK (fun z => Q ((t.lookup z).getD y) h) x := by
  simp only [evE, Ok_bind]
  congr 1; funext x h; congr 1; funext y h
  cases x <;> simp [Ok_ok, Ok_no, stK]
theorem wE_cell {a : Exp} : OkI (evE Φ (.cell a) σ h) Q = OkI (evE Φ a σ h) fun x h => lsK (fun xs => Q (.ref h.length) (h ++ [.lst xs])) x := by
  simp only [evE, Ok_bind]
  congr 1; funext x h
  cases x <;> simp [Ok_ok, Ok_no, lsK]
theorem wE_cat {a b : Exp} : OkI (evE Φ (.cat a b) σ h) Q = OkI (peek a σ h (evE Φ a σ h)) fun x h => OkI (peek b σ h (evE Φ b σ h)) fun y h => OkI (match x, y with
    | .lst xs, .lst ys => if xs.length + ys.length ≤ sizeLine then .ok (.lst (xs ++ ys)) h else .no
    | _, _ => .no) Q := by simp only [evE, Ok_bind] <;> rfl
theorem wE_rgl {k : Bool} {a b : Exp} : OkI (evE Φ (.rgl k a b) σ h) Q = OkI (evE Φ a σ h) fun x h => OkI (evE Φ b σ h) fun y h => OkI (match x, y with
    | .int i, .int j => if 0 ≤ i ∧ i ≤ 16777216 ∧ 0 ≤ j ∧ j ≤ 16777216 then .ok (if k then .tup (rangeA i j) else .lst (rangeA i j)) h else .no
    | _, _ => .no) Q := by simp only [evE, Ok_bind] <;> rfl
theorem wE_upper {a : Exp} : OkI (evE Φ (.upper a) σ h) Q = OkI (evE Φ a σ h) fun x h => OkI (match x with
    | .str z => if z.length ≤ 5592405 then .ok (.str (Txt.upper z)) h else .no
    | _ => .no) Q := by simp only [evE, Ok_bind] <;> rfl
theorem wE_sset {a : Exp} : OkI (evE Φ (.sset a) σ h) Q = OkI (evE Φ a σ h) fun x h => OkI (match x with
    | .tup xs => (match intsOf xs with
      | some ns => if ns.length < 64 then .ok (.lst ((sortSet ns).map .int)) h else .no
      | none => .no)
    | .lst xs => (match intsOf xs with
      | some ns => if ns.length < 64 then .ok (.lst ((sortSet ns).map .int)) h else .no
      | none => .no)
    | _ => .no) Q := by simp only [evE, Ok_bind] <;> rfl
theorem wE_dis {ks : List L2.Key} {vs : List AV} : OkI (evE Φ (.dis ks vs) σ h) Q = OkI (if ks.length ≤ 1 ∧ vs.length = ks.length then .ok (.dct (ks.map keyA) vs) h else .no) Q := by rw [evE]
theorem wEs_nil {Q : List AV → AH → Prop} : OkI (evEs Φ [] σ h) Q = Q [] h := by rw [evEs, Ok_ok]
theorem wEs_cons {e : Exp} {es : List Exp} {Q : List AV → AH → Prop} : OkI (evEs Φ (e :: es) σ h) Q = OkI (evE Φ e σ h) fun x h => OkI (evEs Φ es σ h) fun xs h => Q (x :: xs) h := by simp only [evEs, Ok_bind, Ok_ok]
theorem wPs_nil {Q : List AV → AH → Prop} : OkI (evPs Φ [] σ h) Q = Q [] h := by rw [evPs, Ok_ok]
theorem wPs_cons {e : Exp} {es : List Exp} {Q : List AV → AH → Prop} : OkI (evPs Φ (e :: es) σ h) Q = OkI (peek e σ h (evE Φ e σ h)) fun x h => OkI (evPs Φ es σ h) fun xs h => Q (x :: xs) h := by simp only [evPs, Ok_bind, Ok_ok]
theorem wO_none {Q : Option Int → AH → Prop} : OkI (evO Φ none σ h) Q = Q none h := by rw [evO, Ok_ok]
theorem wO_some {e : Exp} {Q : Option Int → AH → Prop} : OkI (evO Φ (some e) σ h) Q = OkI (evE Φ e σ h) fun x h => inK (fun i => Q (some i) h) x := by
  simp only [evO, Ok_bind]
  congr 1; funext x h
  cases x <;> simp [Ok_ok, Ok_no, inK]
theorem peek_var {i : Nat} {r : Rs AV} : peek (.var i) σ h r = match σ[i]? with
    | some (.ol xs) => .ok (.lst xs) h
    | _ => r := rfl
theorem wT_e {e : Exp} {Q : Bool → AH → Prop} : OkI (evT Φ (.e e) σ h) Q = OkI (peek e σ h (evE Φ e σ h)) fun x h => OkI (lift (truth h x) h) Q := by simp only [evT, Ok_bind]
theorem wT_and {a b : Tst} {Q : Bool → AH → Prop} : OkI (evT Φ (.and a b) σ h) Q = OkI (evT Φ a σ h) fun k h => Br k (OkI (evT Φ b σ h) Q) (Q false h) := by
  simp only [evT, Ok_bind]
  congr 1; funext k h
  cases k <;> simp [Br, Ok_ok]
theorem wT_or {a b : Tst} {Q : Bool → AH → Prop} : OkI (evT Φ (.or a b) σ h) Q = OkI (evT Φ a σ h) fun k h => Br k (Q true h) (OkI (evT Φ b σ h) Q) := by
  simp only [evT, Ok_bind]
  congr 1; funext k h
  cases k <;> simp [Br, Ok_ok]
theorem wT_not {a : Tst} {Q : Bool → AH → Prop} : OkI (evT Φ (.not a) σ h) Q = OkI (evT Φ a σ h) fun k h => Q (!k) h := by simp only [evT, Ok_bind, Ok_ok]
theorem wF_nil {Q : Bool → AH → Prop} : OkI (evF Φ [] σ h) Q = Q true h := by rw [evF, Ok_ok]
theorem wF_cons {t : Tst} {ts : List Tst} {Q : Bool → AH → Prop} : OkI (evF Φ (t :: ts) σ h) Q = OkI (evT Φ t σ h) fun k h => Br k (OkI (evF Φ ts σ h) Q) (Q false h) := by
  simp only [evF, Ok_bind]
  congr 1; funext k h
  cases k <;> simp [Br, Ok_ok]
theorem wI_sq {e : Exp} {pk : Bool} {Q : List AV → AH → Prop} : OkI (evI Φ (.sq e) pk σ h) Q = OkI (if pk then peek e σ h (evE Φ e σ h) else evE Φ e σ h) fun x h => OkI (lift (witems x) h) Q := by simp only [evI, Ok_bind]
theorem wI_rg {a b : Exp} {pk : Bool} {Q : List AV → AH → Prop} : OkI (evI Φ (.rg a b) pk σ h) Q = OkI (evE Φ a σ h) fun x h => OkI (evE Φ b σ h) fun y h => inK (fun i => inK (fun j => (-(2 ^ 62) ≤ i ∧ i < 2 ^ 62 ∧ -(2 ^ 62) ≤ j ∧ j < 2 ^ 62) ∧ Q (rangeA i j) h) y) x := by
  simp only [evI, Ok_bind]
  congr 1; funext x h; congr 1; funext y h
  cases x <;> cases y <;> simp only [inK, Ok_no, reduceCtorEq, false_and, exists_false, and_false, exists_const]
  rename_i i j
  by_cases c : (-(2 ^ 62) ≤ i ∧ i < 2 ^ 62 ∧ -(2 ^ 62) ≤ j ∧ j < 2 ^ 62)
  · rw [if_pos c, Ok_ok]; apply propext; exact ⟨fun q => ⟨_, rfl, _, rfl, c, q⟩, fun ⟨_, e, _, f, _, q⟩ => (by cases e; cases f; exact q)⟩
  · rw [if_neg c, Ok_no]; apply propext; exact ⟨fun q => q.elim, fun ⟨_, e, _, f, d, _⟩ => (by cases e; cases f; exact c d)⟩
theorem wI_en {e : Exp} {pk : Bool} {Q : List AV → AH → Prop} : OkI (evI Φ (.en e) pk σ h) Q = OkI (if pk then peek e σ h (evE Φ e σ h) else evE Φ e σ h) fun x h => OkI (lift (vitems x) h) fun xs h => Q (enumA 0 xs) h := by simp only [evI, Ok_bind, Ok_ok]
theorem wI_zp {a b : Exp} {pk : Bool} {Q : List AV → AH → Prop} : OkI (evI Φ (.zp a b) pk σ h) Q = OkI (if pk then peek a σ h (evE Φ a σ h) else evE Φ a σ h) fun x h => OkI (if pk then peek b σ h (evE Φ b σ h) else evE Φ b σ h) fun y h => OkI (lift (zipK x y) h) Q := by simp only [evI, Ok_bind]
theorem wC_elt {e : Exp} {pk : Bool} {Q : List AV → AH → Prop} : OkI (evC Φ (.elt e) pk σ h) Q = OkI (evE Φ e σ h) fun x h => Q [x] h := by
  unfold evC; simp only [Ok_bind, Ok_ok]
/-- the body of a comprehension's loop -/
def bodyC (Φ : CallA) (ifs : List Tst) (c : Cmp) (σ : ASt) (h : AH) : Rs (List AV) := (evF Φ ifs σ h).bind fun k h => match k with
  | true => evC Φ c false σ h
  | false => .ok [] h
theorem w_bodyC {ifs : List Tst} {c : Cmp} {Q : List AV → AH → Prop} : OkI (bodyC Φ ifs c σ h) Q = OkI (evF Φ ifs σ h) fun k h => Br k (OkI (evC Φ c false σ h) Q) (Q [] h) := by
  simp only [bodyC, Ok_bind]
  congr 1; funext k h
  cases k <;> simp [Br, Ok_ok]
theorem wC_cl {tg : Tgt} {it : Itr} {ifs : List Tst} {c : Cmp} {pk : Bool} {Q : List AV → AH → Prop} : OkI (evC Φ (.cl tg it ifs c) pk σ h) Q = OkI (evI Φ it pk σ h) fun xs h => OkI (compL tg (bodyC Φ ifs c) xs (wipeA σ (tgSlots tg ++ cmpSlots c)) h) Q := by
  unfold evC; simp only [Ok_bind] <;> rfl
end
section
variable {Φ : CallA} {σ : ASt} {h : AH} {Q : Fl → AH → Prop}
theorem wSs_nil : OkI (evSs Φ [] σ h) Q = Q (.nx σ) h := by rw [evSs, Ok_ok]
/-- the rest of a suite -/
def RestK (Φ : CallA) (ss : List Stm) (Q : Fl → AH → Prop) (σ : ASt) (h : AH) : Prop := OkI (evSs Φ ss σ h) Q
theorem RestK_ap {ss : List Stm} : RestK Φ ss Q σ h = OkI (evSs Φ ss σ h) Q := rfl
/-- the ways of an if -/
def IfK (Φ : CallA) (a b : List Stm) (σ : ASt) (Q : Fl → AH → Prop) (k : Bool) (h : AH) : Prop := match k with
  | true => OkI (evSs Φ a σ h) Q
  | false => OkI (evSs Φ b σ h) Q
theorem IfK_true {a b : List Stm} : IfK Φ a b σ Q true h = OkI (evSs Φ a σ h) Q := rfl
theorem IfK_false {a b : List Stm} : IfK Φ a b σ Q false h = OkI (evSs Φ b σ h) Q := rfl
theorem IfK_of {a b : List Stm} {k : Bool} (t : k = true → OkI (evSs Φ a σ h) Q) (f : k = false → OkI (evSs Φ b σ h) Q) : IfK Φ a b σ Q k h := by
  cases k with
  | true => exact t rfl
  | false => exact f rfl
theorem IfK_dec {a b : List Stm} {p : Prop} [Decidable p] (t : p → OkI (evSs Φ a σ h) Q) (f : ¬ p → OkI (evSs Φ b σ h) Q) : IfK Φ a b σ Q (decide p) h := by
  by_cases c : p
  · rw [decide_eq_true c]; exact t c
  · rw [decide_eq_false c]; exact f c
theorem wSs_cons {s : Stm} {ss : List Stm} : OkI (evSs Φ (s :: ss) σ h) Q = OkI (evS Φ s σ h) (seqK (RestK Φ ss Q) Q) := by
  rw [evSs, Ok_bind]
  congr 1; funext f h
  cases f <;> simp [seqK, Ok_ok, RestK]
theorem wS_set {i : Nat} {e : Exp} : OkI (evS Φ (.set i e) σ h) Q = OkI (evE Φ e σ h) fun x h => i < σ.length ∧ Q (.nx (σ.set i (.vl x))) h := by
  simp only [evS, Ok_bind, setSlot]
  congr 1; funext x h
  by_cases c : i < σ.length <;> simp [c, Ok_ok, Ok_no]
theorem wS_own {i : Nat} {e : Exp} : OkI (evS Φ (.own i e) σ h) Q = OkI (evE Φ e σ h) fun x h => lsK (fun xs => i < σ.length ∧ Q (.nx (σ.set i (.ol xs))) h) x := by
  simp only [evS, Ok_bind, setSlot]
  congr 1; funext x h
  cases x <;> simp only [Ok_no, lsK, reduceCtorEq, false_and, exists_false]
  by_cases c : i < σ.length <;> simp [c, Ok_ok, Ok_no]
theorem wS_asg {t : Tgt} {e : Exp} : OkI (evS Φ (.asg t e) σ h) Q = OkI (evE Φ e σ h) fun x h => OkI (lift (asgT t x σ) h) fun σ h => Q (.nx σ) h := by simp only [evS, Ok_bind, Ok_ok]
theorem wS_par {i j : Nat} {a b : Exp} : OkI (evS Φ (.par i j a b) σ h) Q = OkI (evE Φ a σ h) fun x h => OkI (evE Φ b σ h) fun y h => (i < σ.length ∧ j < σ.length) ∧ Q (.nx ((σ.set i (.vl x)).set j (.vl y))) h := by
  simp only [evS, Ok_bind, setSlot]
  congr 1; funext x h; congr 1; funext y h
  by_cases c : i < σ.length <;> by_cases d : j < σ.length <;> simp [c, d, Ok_ok, Ok_no]
theorem wS_parO {i j : Nat} {a b : Exp} : OkI (evS Φ (.parO i j a b) σ h) Q = OkI (evE Φ a σ h) fun x h => OkI (evE Φ b σ h) fun y h => lsK (fun ys => (i < σ.length ∧ j < σ.length) ∧ Q (.nx ((σ.set i (.vl x)).set j (.ol ys))) h) y := by
  simp only [evS, Ok_bind, setSlot]
  congr 1; funext x h; congr 1; funext y h
  cases y <;> simp only [Ok_no, lsK, reduceCtorEq, false_and, exists_false]
  by_cases c : i < σ.length <;> by_cases d : j < σ.length <;> simp [c, d, Ok_ok, Ok_no]
theorem wS_pars {is : List Nat} {os : List Bool} {es : List Exp} : OkI (evS Φ (.pars is os es) σ h) Q = OkI (evEs Φ es σ h) fun xs h => OkI (lift (setAll σ is os xs) h) fun σ h => Q (.nx σ) h := by simp only [evS, Ok_bind, Ok_ok]
theorem wS_star {i j : Nat} {e : Exp} : OkI (evS Φ (.star i j e) σ h) Q = OkI (evE Φ e σ h) fun x h => tcK (fun y ys => (i < σ.length ∧ j < σ.length) ∧ Q (.nx ((σ.set i (.vl y)).set j (.ol ys))) h) x := by
  simp only [evS, Ok_bind, setSlot]
  congr 1; funext x h
  cases x
  case tup xs =>
    cases xs with
    | nil => simp [Ok_no, tcK]
    | cons y ys =>
      rw [tcK_tup]
      by_cases c : i < σ.length <;> by_cases d : j < σ.length <;> simp [c, d, Ok_ok, Ok_no, Ok_bind]
  all_goals simp only [Ok_no, tcK, reduceCtorEq, false_and, exists_false]
theorem wS_ext {i : Nat} {e : Exp} : OkI (evS Φ (.ext i e) σ h) Q = OkI (match σ[i]? with
    | some (.ol xs) => (evE Φ e σ h).bind fun x h => (match x with
      | .lst ys => if xs.length + ys.length ≤ sizeLine then .ok (.nx (σ.set i (.ol (xs ++ ys)))) h else .no
      | _ => .no)
    | _ => .no) Q := by rw [evS] <;> rfl
theorem wS_sset {o i e : Exp} : OkI (evS Φ (.sset o i e) σ h) Q = OkI (evE Φ e σ h) fun v h => OkI (evE Φ o σ h) fun x h => OkI (evE Φ i σ h) fun k h => OkI (match x, k with
    | .ref n, .int z => (match h[n]? with
      | some (.lst xs) => (match L2.ixN xs.length z with
        | some j => .ok (.nx σ) (h.set n (.lst (xs.set j v)))
        | none => .no)
      | _ => .no)
    | _, _ => .no) Q := by simp only [evS, Ok_bind] <;> rfl
theorem wS_app {i : Nat} {e : Exp} : OkI (evS Φ (.app i e) σ h) Q = OkI (match σ[i]? with
    | some (.ol xs) => (evE Φ e σ h).bind fun x h => if xs.length < sizeLine then .ok (.nx (σ.set i (.ol (xs ++ [x])))) h else .no
    | _ => .no) Q := by rw [evS] <;> rfl
theorem wS_expr {e : Exp} : OkI (evS Φ (.expr e) σ h) Q = OkI (evE Φ e σ h) fun x h => Q (.nx σ) h := by simp only [evS, Ok_bind, Ok_ok]
theorem wS_aug {i : Nat} {o : BOp} {e : Exp} : OkI (evS Φ (.aug i o e) σ h) Q = OkI (match σ[i]? with
    | some (.vl x) => (evE Φ e σ h).bind fun y h => (match o, x, y with
      | .add, .int a, .int b => .ok (.nx (σ.set i (.vl (.int (a + b))))) h
      | .sub, .int a, .int b => .ok (.nx (σ.set i (.vl (.int (a - b))))) h
      | _, _, _ => .no)
    | _ => .no) Q := by rw [evS] <;> rfl
theorem wS_ife {t : Tst} {a b : List Stm} : OkI (evS Φ (.ife t a b) σ h) Q = OkI (evT Φ t σ h) (IfK Φ a b σ Q) := by
  simp only [evS, Ok_bind]
  congr 1; funext k h
  cases k <;> rfl
theorem wS_for {tg : Tgt} {it : Itr} {b : List Stm} : OkI (evS Φ (.for tg it b) σ h) Q = OkI (evI Φ it false σ h) fun xs h => OkI (forL tg (evSs Φ b) xs σ h) Q := by simp only [evS, Ok_bind]
theorem wS_while {t : Tst} {b : List Stm} : OkI (evS Φ (.while t b) σ h) Q = OkI (whileN (evT Φ t) (evSs Φ b) turns σ h) Q := by rw [evS]
theorem wS_ret {e : Exp} : OkI (evS Φ (.ret e) σ h) Q = OkI (evE Φ e (σ.map frz) h) fun x h => Q (.rt x) h := by simp only [evS, Ok_bind, Ok_ok]
theorem wS_retN : OkI (evS Φ .retN σ h) Q = Q (.rt .non) h := by rw [evS, Ok_ok]
theorem wS_pass : OkI (evS Φ .pass σ h) Q = Q (.nx σ) h := by rw [evS, Ok_ok]
theorem wS_brk : OkI (evS Φ .brk σ h) Q = Q (.bk σ) h := by rw [evS, Ok_ok]
theorem wS_cnt : OkI (evS Φ .cnt σ h) Q = Q (.ct σ) h := by rw [evS, Ok_ok]
theorem wS_frzd {is : List Nat} {s : Stm} : OkI (evS Φ (.frzd is s) σ h) Q = OkI (evS Φ s (frzAt σ is) h) Q := by rw [evS]
end
theorem w_run {Φ : CallA} {f : Fn} {vs : List AV} {h : AH} {Q : AV → AH → Prop} (hl : vs.length = f.pars) (q : OkI (evSs Φ f.body (start f.slots vs) h) (retK Q)) : OkI (runFn Φ f vs h) Q := by
  unfold runFn
  rw [if_pos hl, Ok_bind]
  refine q.mono fun r h' p => ?_
  cases r <;> simp only [retK] at p <;> first | exact p.elim | exact .mk p
/-! ### loops -/
theorem forL_ok {tg : Tgt} {body : ASt → AH → Rs Fl} {Q : Fl → AH → Prop} (I : Nat → ASt → AH → Prop) : ∀ {xs : List AV} {k : Nat} {σ : ASt} {h : AH}, I k σ h →
    (∀ i (hi : i < xs.length) σ h, I (k + i) σ h → ∃ σ1, asgT tg xs[i] σ = some σ1 ∧ OkI (body σ1 h) fun f h1 => match f with
      | .nx σ2 => I (k + i + 1) σ2 h1
      | .ct σ2 => I (k + i + 1) σ2 h1
      | .bk σ2 => Q (.nx σ2) h1
      | .rt v => Q (.rt v) h1) → (∀ σ h, I (k + xs.length) σ h → Q (.nx σ) h) → OkI (forL tg body xs σ h) Q
  | [], k, σ, h, i0, _, hd => by rw [forL]; exact .mk (hd σ h i0)
  | x :: xs, k, σ, h, i0, hs, hd => by
    obtain ⟨σ1, e1, p⟩ := hs 0 (by simp) σ h i0
    simp only [List.getElem_cons_zero] at e1
    rw [forL, e1, lift_some, Rs.bind_ok, Ok_bind]
    have rek : ∀ {σ2 h2}, I (k + 0 + 1) σ2 h2 → OkI (forL tg body xs σ2 h2) Q := fun {σ2 h2} p => by
      refine forL_ok I (k := k + 1) p (fun i hi σ h q => ?_) (fun σ h q => hd σ h (by rw [List.length_cons]; rw [show k + (xs.length + 1) = k + 1 + xs.length by omega]; exact q))
      have := hs (i + 1) (by simp; omega) σ h (by rw [show k + (i + 1) = k + 1 + i by omega]; exact q)
      simp only [List.getElem_cons_succ] at this
      rw [show k + 1 + i + 1 = k + (i + 1) + 1 by omega]
      exact this
    refine p.mono fun f h1 p => ?_
    cases f with
    | nx σ2 => exact rek p
    | ct σ2 => exact rek p
    | bk σ2 => exact .mk p
    | rt v => exact .mk p
theorem w_for {tg : Tgt} {body : ASt → AH → Rs Fl} {Q : Fl → AH → Prop} {xs : List AV} {σ : ASt} {h : AH} (I : Nat → ASt → AH → Prop) (h0 : I 0 σ h)
    (hs : ∀ i (hi : i < xs.length) σ h, I i σ h → ∃ σ1, asgT tg xs[i] σ = some σ1 ∧ OkI (body σ1 h) fun f h1 => match f with
      | .nx σ2 => I (i + 1) σ2 h1
      | .ct σ2 => I (i + 1) σ2 h1
      | .bk σ2 => Q (.nx σ2) h1
      | .rt v => Q (.rt v) h1) (hd : ∀ σ h, I xs.length σ h → Q (.nx σ) h) : OkI (forL tg body xs σ h) Q :=
  forL_ok I (k := 0) h0 (fun i hi σ h q => by simpa using hs i hi σ h (by simpa using q)) (by simpa using hd)
theorem compL_ok {tg : Tgt} {body : ASt → AH → Rs (List AV)} {σ : ASt} (I : Nat → List AV → AH → Prop) : ∀ {xs : List AV} {k : Nat} {acc : List AV} {h : AH} {Q : List AV → AH → Prop}, I k acc h →
    (∀ i (hi : i < xs.length) acc h, I (k + i) acc h → ∃ σ1, asgT tg xs[i] σ = some σ1 ∧ OkI (body σ1 h) fun ys h1 => I (k + i + 1) (acc ++ ys) h1) → (∀ ys h, I (k + xs.length) (acc ++ ys) h → Q ys h) → OkI (compL tg body xs σ h) Q
  | [], k, acc, h, Q, i0, _, hd => by rw [compL]; exact .mk (hd [] h (by simpa using i0))
  | x :: xs, k, acc, h, Q, i0, hs, hd => by
    obtain ⟨σ1, e1, p⟩ := hs 0 (by simp) acc h i0
    simp only [List.getElem_cons_zero] at e1
    rw [compL, e1, lift_some, Rs.bind_ok, Ok_bind]
    refine p.mono fun ys h1 p => ?_
    rw [Ok_bind]
    refine compL_ok I (k := k + 1) (acc := acc ++ ys) p (fun i hi acc h q => ?_) (fun zs h q => ?_)
    · have := hs (i + 1) (by simp; omega) acc h (by rw [show k + (i + 1) = k + 1 + i by omega]; exact q)
      simp only [List.getElem_cons_succ] at this
      rw [show k + 1 + i + 1 = k + (i + 1) + 1 by omega]
      exact this
    · rw [Ok_ok]
      refine hd (ys ++ zs) h ?_
      rw [List.length_cons, show k + (xs.length + 1) = k + 1 + xs.length by omega, ← List.append_assoc]
      exact q
theorem w_comp {tg : Tgt} {body : ASt → AH → Rs (List AV)} {σ : ASt} {xs : List AV} {h : AH} {Q : List AV → AH → Prop} (I : Nat → List AV → AH → Prop) (h0 : I 0 [] h)
    (hs : ∀ i (hi : i < xs.length) acc h, I i acc h → ∃ σ1, asgT tg xs[i] σ = some σ1 ∧ OkI (body σ1 h) fun ys h1 => I (i + 1) (acc ++ ys) h1) (hd : ∀ ys h, I xs.length ys h → Q ys h) : OkI (compL tg body xs σ h) Q :=
  compL_ok I (k := 0) (acc := []) h0 (fun i hi σ h q => by simpa using hs i hi σ h (by simpa using q)) (by simpa using hd)
/-- one that turns nothing: a list for each item -/
theorem compL_flat {tg : Tgt} {body : ASt → AH → Rs (List AV)} {σ : ASt} {h : AH} (f : AV → List AV) : ∀ {xs : List AV}, (∀ x ∈ xs, ∃ σ1, asgT tg x σ = some σ1 ∧ OkI (body σ1 h) fun ys h1 => ys = f x ∧ h1 = h) → compL tg body xs σ h = .ok (xs.flatMap f) h
  | [], _ => rfl
  | x :: xs, hb => by
    obtain ⟨σ1, e1, p⟩ := hb x (by simp)
    rw [compL, e1, lift_some, Rs.bind_ok, Ok_eq p, Rs.bind_ok, compL_flat f fun y hy => hb y (List.mem_cons_of_mem _ hy)]
    rfl
theorem w_flat {tg : Tgt} {body : ASt → AH → Rs (List AV)} {σ : ASt} {h : AH} {xs : List AV} {Q : List AV → AH → Prop} (f : AV → List AV) (hb : ∀ x ∈ xs, ∃ σ1, asgT tg x σ = some σ1 ∧ OkI (body σ1 h) fun ys h1 => ys = f x ∧ h1 = h) (q : Q (xs.flatMap f) h) : OkI (compL tg body xs σ h) Q :=
  Ok_of (compL_flat f hb) q
theorem flat_map {α β : Type} (f : α → β) : ∀ xs : List α, xs.flatMap (fun x => [f x]) = xs.map f
  | [] => rfl
  | x :: xs => by simp [flat_map f xs]
/-- a value for each item -/
theorem w_map {tg : Tgt} {body : ASt → AH → Rs (List AV)} {σ : ASt} {h : AH} {xs : List AV} {Q : List AV → AH → Prop} (f : AV → AV) (hb : ∀ x ∈ xs, ∃ σ1, asgT tg x σ = some σ1 ∧ OkI (body σ1 h) fun ys h1 => ys = [f x] ∧ h1 = h) (q : Q (xs.map f) h) : OkI (compL tg body xs σ h) Q :=
  w_flat (fun x => [f x]) hb (by rw [flat_map]; exact q)
theorem flat_filt {α : Type} (p : α → Bool) : ∀ xs : List α, xs.flatMap (fun x => if p x = true then [x] else []) = xs.filter p
  | [] => rfl
  | x :: xs => by
    rw [List.flatMap_cons, flat_filt p xs, List.filter_cons]
    cases p x <;> simp
/-- the items of which p holds -/
theorem w_filt {tg : Tgt} {body : ASt → AH → Rs (List AV)} {σ : ASt} {h : AH} {xs : List AV} {Q : List AV → AH → Prop} (p : AV → Bool) (hb : ∀ x ∈ xs, ∃ σ1, asgT tg x σ = some σ1 ∧ OkI (body σ1 h) fun ys h1 => ys = (if p x = true then [x] else []) ∧ h1 = h) (q : Q (xs.filter p) h) : OkI (compL tg body xs σ h) Q :=
  w_flat (fun x => if p x = true then [x] else []) hb (by rw [flat_filt]; exact q)
/-- a while, by a measure -/
theorem w_while {t : ASt → AH → Rs Bool} {body : ASt → AH → Rs Fl} {Q : Fl → AH → Prop} (I : Nat → ASt → AH → Prop)
    (hs : ∀ m σ h, I m σ h → OkI (t σ h) fun k h1 => Br k (OkI (body σ h1) fun f h2 => match f with
      | .nx σ2 => ∃ m', m' < m ∧ I m' σ2 h2
      | .ct σ2 => ∃ m', m' < m ∧ I m' σ2 h2
      | .bk σ2 => Q (.nx σ2) h2
      | .rt v => Q (.rt v) h2) (Q (.nx σ) h1)) : ∀ {n m : Nat} {σ : ASt} {h : AH}, I m σ h → m < n → OkI (whileN t body n σ h) Q
  | 0, m, _, _, _, hn => by omega
  | n + 1, m, σ, h, i0, hn => by
    rw [whileN, Ok_bind]
    refine (hs m σ h i0).mono fun k h1 p => ?_
    cases k with
    | false => exact .mk p
    | true =>
      simp only [Ok_bind]
      refine OkI.mono p fun f h2 p => ?_
      cases f with
      | nx σ2 => obtain ⟨m', l, q⟩ := p; exact w_while I hs q (by omega)
      | ct σ2 => obtain ⟨m', l, q⟩ := p; exact w_while I hs q (by omega)
      | bk σ2 => exact .mk p
      | rt v => exact .mk p
end GI
namespace G
open PySem
/-- a truth's type that names what simp is to leave alone -/
abbrev Pr.{u} {α : Sort u} (_ : α) : Type := Prop
/-- r comes to something of which Q holds -/
def Rs.Ok {α : Type} (r : Rs α) (Q : α → AH → Prop) : Pr Q := GI.OkI r Q
theorem Rs.Ok.mk {α : Type} {a : α} {h : AH} {Q : α → AH → Prop} (q : Q a h) : Rs.Ok (.ok a h) Q := GI.OkI.mk q
theorem Rs.Ok.get {α : Type} {r : Rs α} {P : α → AH → Prop} (p : Rs.Ok r P) : ∃ a h, r = .ok a h ∧ P a h := by
  cases (show GI.OkI r P from p) with
  | mk q => exact ⟨_, _, rfl, q⟩
theorem Ok_ok {α : Type} {a : α} {h : AH} {Q : α → AH → Prop} : Rs.Ok (.ok a h) Q = Q a h := propext (Iff.intro (fun q => by
  obtain ⟨b, g, e, q⟩ := q.get
  cases e
  exact q) (fun q => .mk q))
theorem Ok_no {α : Type} {Q : α → AH → Prop} : Rs.Ok .no Q = False := propext (Iff.intro (fun q => by
  obtain ⟨b, g, e, q⟩ := q.get
  cases e) (fun q => q.elim))
theorem Ok_ex {α : Type} {x : Exn} {h : AH} {Q : α → AH → Prop} : Rs.Ok (.ex x h) Q = False := propext (Iff.intro (fun q => by
  obtain ⟨b, g, e, q⟩ := q.get
  cases e) (fun q => q.elim))
theorem Rs.Ok.mono {α : Type} {r : Rs α} {P Q : α → AH → Prop} (p : Rs.Ok r P) (i : ∀ a h, P a h → Q a h) : Rs.Ok r Q := by
  obtain ⟨a, h, rfl, q⟩ := p.get
  exact .mk (i _ _ q)
theorem Ok_bind {α β : Type} {r : Rs α} {f : α → AH → Rs β} {Q : β → AH → Prop} : Rs.Ok (r.bind f) Q = Rs.Ok r fun a h => Rs.Ok (f a h) Q := by
  first
    | exact GI.Ok_bind
    | (intros; exact GI.Ok_bind)
    | (intros; apply GI.Ok_bind <;> assumption)
theorem Ok_of {α : Type} {r : Rs α} {a : α} {h : AH} {Q : α → AH → Prop} (e : r = .ok a h) (q : Q a h) : Rs.Ok r Q := by
  first
    | exact GI.Ok_of
    | (intros; exact GI.Ok_of)
    | (intros; apply GI.Ok_of <;> assumption)
theorem Ok_eq {α : Type} {r : Rs α} {a : α} {h : AH} (p : Rs.Ok r fun v g => v = a ∧ g = h) : r = .ok a h := by
  first
    | exact GI.Ok_eq
    | (intros; exact GI.Ok_eq)
    | (intros; apply GI.Ok_eq <;> assumption)
theorem Ok_lift {α : Type} {o : Option α} {h : AH} {Q : α → AH → Prop} {a : α} (e : o = some a) (q : Q a h) : Rs.Ok (lift o h) Q := by
  first
    | exact GI.Ok_lift
    | (intros; exact GI.Ok_lift)
    | (intros; apply GI.Ok_lift <;> assumption)
theorem Ok_if {α : Type} {c : Prop} [Decidable c] {r s : Rs α} {Q : α → AH → Prop} (hc : c) (q : Rs.Ok r Q) : Rs.Ok (if c then r else s) Q := by
  first
    | exact GI.Ok_if
    | (intros; exact GI.Ok_if)
    | (intros; apply GI.Ok_if <;> assumption)
/-- a way by a truth -/
def Br (k : Bool) (A B : Prop) : Pr (A, B) := match k with
  | true => A
  | false => B
theorem Br_true {A B : Prop} : Br true A B = A := by
  first
    | exact GI.Br_true
    | (intros; exact GI.Br_true)
    | (intros; apply GI.Br_true <;> assumption)
theorem Br_false {A B : Prop} : Br false A B = B := by
  first
    | exact GI.Br_false
    | (intros; exact GI.Br_false)
    | (intros; apply GI.Br_false <;> assumption)
theorem Br_of {k : Bool} {A B : Prop} (t : k = true → A) (f : k = false → B) : Br k A B := by
  first
    | exact GI.Br_of
    | (intros; exact GI.Br_of)
    | (intros; apply GI.Br_of <;> assumption)
theorem Br_dec {p : Prop} [Decidable p] {A B : Prop} (t : p → A) (f : ¬ p → B) : Br (decide p) A B := by
  first
    | exact GI.Br_dec
    | (intros; exact GI.Br_dec)
    | (intros; apply GI.Br_dec <;> assumption)
theorem Br_same {k : Bool} {A : Prop} (a : A) : Br k A A := by
  first
    | exact GI.Br_same
    | (intros; exact GI.Br_same)
    | (intros; apply GI.Br_same <;> assumption)
/-- what follows a statement -/
def seqK (N : ASt → AH → Prop) (Q : Fl → AH → Prop) (f : Fl) (h : AH) : Prop := match f with
  | .nx σ => N σ h
  | f => Q f h
theorem seqK_nx {N : ASt → AH → Prop} {Q : Fl → AH → Prop} {σ : ASt} {h : AH} : seqK N Q (.nx σ) h = N σ h := by
  first
    | exact GI.seqK_nx
    | (intros; exact GI.seqK_nx)
    | (intros; apply GI.seqK_nx <;> assumption)
theorem seqK_rt {N : ASt → AH → Prop} {Q : Fl → AH → Prop} {v : AV} {h : AH} : seqK N Q (.rt v) h = Q (.rt v) h := by
  first
    | exact GI.seqK_rt
    | (intros; exact GI.seqK_rt)
    | (intros; apply GI.seqK_rt <;> assumption)
theorem seqK_bk {N : ASt → AH → Prop} {Q : Fl → AH → Prop} {σ : ASt} {h : AH} : seqK N Q (.bk σ) h = Q (.bk σ) h := by
  first
    | exact GI.seqK_bk
    | (intros; exact GI.seqK_bk)
    | (intros; apply GI.seqK_bk <;> assumption)
theorem seqK_ct {N : ASt → AH → Prop} {Q : Fl → AH → Prop} {σ : ASt} {h : AH} : seqK N Q (.ct σ) h = Q (.ct σ) h := by
  first
    | exact GI.seqK_ct
    | (intros; exact GI.seqK_ct)
    | (intros; apply GI.seqK_ct <;> assumption)
/-- what follows a def's body -/
def retK (Q : AV → AH → Prop) (f : Fl) (h : AH) : Prop := match f with
  | .rt v => Q v h
  | .nx _ => Q .non h
  | _ => False
theorem retK_rt {Q : AV → AH → Prop} {v : AV} {h : AH} : retK Q (.rt v) h = Q v h := by
  first
    | exact GI.retK_rt
    | (intros; exact GI.retK_rt)
    | (intros; apply GI.retK_rt <;> assumption)
theorem retK_nx {Q : AV → AH → Prop} {σ : ASt} {h : AH} : retK Q (.nx σ) h = Q .non h := by
  first
    | exact GI.retK_nx
    | (intros; exact GI.retK_nx)
    | (intros; apply GI.retK_nx <;> assumption)
theorem retK_bk {Q : AV → AH → Prop} {σ : ASt} {h : AH} : retK Q (.bk σ) h = False := by
  first
    | exact GI.retK_bk
    | (intros; exact GI.retK_bk)
    | (intros; apply GI.retK_bk <;> assumption)
theorem retK_ct {Q : AV → AH → Prop} {σ : ASt} {h : AH} : retK Q (.ct σ) h = False := by
  first
    | exact GI.retK_ct
    | (intros; exact GI.retK_ct)
    | (intros; apply GI.retK_ct <;> assumption)
/-- a truth that is asked of a value -/
def blK (K : Bool → Prop) (v : AV) : Prop := ∃ b, v = .bl b ∧ K b
theorem blK_bl {K : Bool → Prop} {b : Bool} : blK K (.bl b) = K b := by
  first
    | exact GI.blK_bl
    | (intros; exact GI.blK_bl)
    | (intros; apply GI.blK_bl <;> assumption)
def inK (K : Int → Prop) (v : AV) : Prop := ∃ b, v = .int b ∧ K b
theorem inK_int {K : Int → Prop} {b : Int} : inK K (.int b) = K b := by
  first
    | exact GI.inK_int
    | (intros; exact GI.inK_int)
    | (intros; apply GI.inK_int <;> assumption)
def lsK (K : List AV → Prop) (v : AV) : Prop := ∃ b, v = .lst b ∧ K b
theorem lsK_lst {K : List AV → Prop} {b : List AV} : lsK K (.lst b) = K b := by
  first
    | exact GI.lsK_lst
    | (intros; exact GI.lsK_lst)
    | (intros; apply GI.lsK_lst <;> assumption)
theorem Ok_blm {α : Type} {v : AV} {f : Bool → Rs α} {Q : α → AH → Prop} (p : blK (fun b => Rs.Ok (f b) Q) v) : Rs.Ok (match v with | .bl b => f b | _ => .no) Q := by
  first
    | exact GI.Ok_blm
    | (intros; exact GI.Ok_blm)
    | (intros; apply GI.Ok_blm <;> assumption)
section
variable {Φ : CallA} {σ : ASt} {h : AH} {Q : AV → AH → Prop}
theorem wE_c {v : AV} : Rs.Ok (evE Φ (.c v) σ h) Q = Q v h := by
  first
    | exact GI.wE_c
    | (intros; exact GI.wE_c)
    | (intros; apply GI.wE_c <;> assumption)
theorem wE_var {i : Nat} : Rs.Ok (evE Φ (.var i) σ h) Q = Rs.Ok (match σ[i]? with
    | some (.vl v) => .ok v h
    | _ => .no) Q := by
  first
    | exact GI.wE_var
    | (intros; exact GI.wE_var)
    | (intros; apply GI.wE_var <;> assumption)
theorem wE_bin {o : BOp} {a b : Exp} : Rs.Ok (evE Φ (.bin o a b) σ h) Q = Rs.Ok (evE Φ a σ h) fun x h => Rs.Ok (evE Φ b σ h) fun y h => Rs.Ok (opB o x y h) Q := by
  first
    | exact GI.wE_bin
    | (intros; exact GI.wE_bin)
    | (intros; apply GI.wE_bin <;> assumption)
theorem wE_neg {a : Exp} : Rs.Ok (evE Φ (.neg a) σ h) Q = Rs.Ok (evE Φ a σ h) fun x h => inK (fun i => Q (.int (-i)) h) x := by
  first
    | exact GI.wE_neg
    | (intros; exact GI.wE_neg)
    | (intros; apply GI.wE_neg <;> assumption)
theorem wE_not {a : Exp} : Rs.Ok (evE Φ (.not a) σ h) Q = Rs.Ok (evE Φ a σ h) fun x h => blK (fun b => Q (.bl (!b)) h) x := by
  first
    | exact GI.wE_not
    | (intros; exact GI.wE_not)
    | (intros; apply GI.wE_not <;> assumption)
theorem wE_and {a b : Exp} : Rs.Ok (evE Φ (.and a b) σ h) Q = Rs.Ok (evE Φ a σ h) fun x h => blK (fun k => Br k (Rs.Ok (evE Φ b σ h) Q) (Q (.bl false) h)) x := by
  first
    | exact GI.wE_and
    | (intros; exact GI.wE_and)
    | (intros; apply GI.wE_and <;> assumption)
theorem wE_or {a b : Exp} : Rs.Ok (evE Φ (.or a b) σ h) Q = Rs.Ok (evE Φ a σ h) fun x h => blK (fun k => Br k (Q (.bl true) h) (Rs.Ok (evE Φ b σ h) Q)) x := by
  first
    | exact GI.wE_or
    | (intros; exact GI.wE_or)
    | (intros; apply GI.wE_or <;> assumption)
theorem wE_cmp {o : COp} {a b : Exp} : Rs.Ok (evE Φ (.cmp o a b) σ h) Q = Rs.Ok (peek a σ h (evE Φ a σ h)) fun x h => Rs.Ok (peek b σ h (evE Φ b σ h)) fun y h => Rs.Ok (lift (opC o x y h) h) fun k h => Q (.bl k) h := by
  first
    | exact GI.wE_cmp
    | (intros; exact GI.wE_cmp)
    | (intros; apply GI.wE_cmp <;> assumption)
theorem wE_chain {o p : COp} {a b c : Exp} : Rs.Ok (evE Φ (.chain o p a b c) σ h) Q = Rs.Ok (evE Φ a σ h) fun x h => Rs.Ok (evE Φ b σ h) fun y h => Rs.Ok (lift (opC o x y h) h) fun k h => Br k (Rs.Ok (evE Φ c σ h) fun z h => Rs.Ok (lift (opC p y z h) h) fun k h => Q (.bl k) h) (Q (.bl false) h) := by
  first
    | exact GI.wE_chain
    | (intros; exact GI.wE_chain)
    | (intros; apply GI.wE_chain <;> assumption)
theorem wE_ife {t : Tst} {a b : Exp} : Rs.Ok (evE Φ (.ife t a b) σ h) Q = Rs.Ok (evT Φ t σ h) fun k h => Br k (Rs.Ok (evE Φ a σ h) Q) (Rs.Ok (evE Φ b σ h) Q) := by
  first
    | exact GI.wE_ife
    | (intros; exact GI.wE_ife)
    | (intros; apply GI.wE_ife <;> assumption)
theorem wE_isi {a : Exp} {ts : List Ty} : Rs.Ok (evE Φ (.isi a ts) σ h) Q = Rs.Ok (evE Φ a σ h) fun x h => Rs.Ok (lift (hasTys x ts) h) fun k h => Q (.bl k) h := by
  first
    | exact GI.wE_isi
    | (intros; exact GI.wE_isi)
    | (intros; apply GI.wE_isi <;> assumption)
theorem wE_tup {es : List Exp} : Rs.Ok (evE Φ (.tup es) σ h) Q = Rs.Ok (evEs Φ es σ h) fun xs h => Rs.Ok (if xs.length ≤ sizeLine then .ok (.tup xs) h else .no) Q := by
  first
    | exact GI.wE_tup
    | (intros; exact GI.wE_tup)
    | (intros; apply GI.wE_tup <;> assumption)
theorem wE_lst {es : List Exp} : Rs.Ok (evE Φ (.lst es) σ h) Q = Rs.Ok (evEs Φ es σ h) fun xs h => Rs.Ok (if xs.length ≤ sizeLine then .ok (.lst xs) h else .no) Q := by
  first
    | exact GI.wE_lst
    | (intros; exact GI.wE_lst)
    | (intros; apply GI.wE_lst <;> assumption)
theorem wE_sub {a i : Exp} : Rs.Ok (evE Φ (.sub a i) σ h) Q = Rs.Ok (peek a σ h (evE Φ a σ h)) fun x h => Rs.Ok (evE Φ i σ h) fun k h => Rs.Ok (lift (opSub x k h) h) Q := by
  first
    | exact GI.wE_sub
    | (intros; exact GI.wE_sub)
    | (intros; apply GI.wE_sub <;> assumption)
theorem wE_slice {a : Exp} {lo hi : Option Exp} : Rs.Ok (evE Φ (.slice a lo hi) σ h) Q = Rs.Ok (peek a σ h (evE Φ a σ h)) fun x h => Rs.Ok (evO Φ lo σ h) fun l h => Rs.Ok (evO Φ hi σ h) fun u h => Rs.Ok (lift (opSlice x l u h) h) Q := by
  first
    | exact GI.wE_slice
    | (intros; exact GI.wE_slice)
    | (intros; apply GI.wE_slice <;> assumption)
theorem wE_rev {a : Exp} : Rs.Ok (evE Φ (.rev a) σ h) Q = Rs.Ok (peek a σ h (evE Φ a σ h)) fun x h => Rs.Ok (match x with
    | .tup xs => .ok (.tup xs.reverse) h
    | .lst xs => .ok (.lst xs.reverse) h
    | _ => .no) Q := by
  first
    | exact GI.wE_rev
    | (intros; exact GI.wE_rev)
    | (intros; apply GI.wE_rev <;> assumption)
theorem wE_call {f : Str} {es : List Exp} : Rs.Ok (evE Φ (.call f es) σ h) Q = Rs.Ok (evEs Φ es σ h) fun xs h => Rs.Ok (Φ f xs h) Q := by
  first
    | exact GI.wE_call
    | (intros; exact GI.wE_call)
    | (intros; apply GI.wE_call <;> assumption)
theorem wE_callK {f : Str} {es : List Exp} {ix : List Nat} : Rs.Ok (evE Φ (.callK f es ix) σ h) Q = Rs.Ok (evEs Φ es σ h) fun xs h => Rs.Ok (Φ f (ix.map fun i => xs.getD i .non) h) Q := by
  first
    | exact GI.wE_callK
    | (intros; exact GI.wE_callK)
    | (intros; apply GI.wE_callK <;> assumption)
theorem wE_biD {f : Bi} {e d : Exp} : Rs.Ok (evE Φ (.biD f e d) σ h) Q = Rs.Ok (peek e σ h (evE Φ e σ h)) fun x h => Rs.Ok (evE Φ d σ h) fun y h => Rs.Ok (opBiD f x y h) Q := by
  first
    | exact GI.wE_biD
    | (intros; exact GI.wE_biD)
    | (intros; apply GI.wE_biD <;> assumption)
theorem wE_bi {f : Bi} {es : List Exp} : Rs.Ok (evE Φ (.bi f es) σ h) Q = Rs.Ok (evPs Φ es σ h) fun xs h => Rs.Ok (opBi f xs h) Q := by
  first
    | exact GI.wE_bi
    | (intros; exact GI.wE_bi)
    | (intros; apply GI.wE_bi <;> assumption)
theorem Ok_noEx {α : Type} {r : Rs α} {Q : α → AH → Prop} : Rs.Ok (noEx r) Q = Rs.Ok r Q := by
  first
    | exact GI.Ok_noEx
    | (intros; exact GI.Ok_noEx)
    | (intros; apply GI.Ok_noEx <;> assumption)
theorem wE_comp {c : Cmp} : Rs.Ok (evE Φ (.comp c) σ h) Q = Rs.Ok (evC Φ c true σ h) fun xs h => Rs.Ok (if xs.length ≤ sizeLine then .ok (.lst xs) h else .no) Q := by
  first
    | exact GI.wE_comp
    | (intros; exact GI.wE_comp)
    | (intros; apply GI.wE_comp <;> assumption)
def stK (K : Str → Prop) (v : AV) : Prop := ∃ b, v = .str b ∧ K b
theorem stK_str {K : Str → Prop} {b : Str} : stK K (.str b) = K b := by
  first
    | exact GI.stK_str
    | (intros; exact GI.stK_str)
    | (intros; apply GI.stK_str <;> assumption)
def tcK (K : AV → List AV → Prop) (v : AV) : Prop := ∃ b c, v = .tup (b :: c) ∧ K b c
theorem tcK_tup {K : AV → List AV → Prop} {b : AV} {c : List AV} : tcK K (.tup (b :: c)) = K b c := by
  first
    | exact GI.tcK_tup
    | (intros; exact GI.tcK_tup)
    | (intros; apply GI.tcK_tup <;> assumption)
theorem wE_kin {n : Bool} {a : Exp} {t : List (Str × AV)} : Rs.Ok (evE Φ (.kin n a t) σ h) Q = Rs.Ok (evE Φ a σ h) fun x h => stK (fun z => Q (.bl (if n then !(t.lookup z).isSome else (t.lookup z).isSome)) h) x := by
  first
    | exact GI.wE_kin
    | (intros; exact GI.wE_kin)
    | (intros; apply GI.wE_kin <;> assumption)
theorem wE_kget {a : Exp} {t : List (Str × AV)} : Rs.Ok (evE Φ (.kget t a) σ h) Q = Rs.Ok (evE Φ a σ h) fun x h => stK (fun z => Rs.Ok (lift (t.lookup z) h) Q) x := by
  first
    | exact GI.wE_kget
    | (intros; exact GI.wE_kget)
    | (intros; apply GI.wE_kget <;> assumption)
theorem wE_kgetD {a d : Exp} {t : List (Str × AV)} : Rs.Ok (evE Φ (.kgetD t a d) σ h) Q = Rs.Ok (evE Φ a σ h) fun x h => Rs.Ok (evE Φ d σ h) fun y h => stK (fun z => Q ((t.lookup z).getD y) h) x := by
  first
    | exact GI.wE_kgetD
    | (intros; exact GI.wE_kgetD)
    | (intros; apply GI.wE_kgetD <;> assumption)
theorem wE_cell {a : Exp} : Rs.Ok (evE Φ (.cell a) σ h) Q = Rs.Ok (evE Φ a σ h) fun x h => lsK (fun xs => Q (.ref h.length) (h ++ [.lst xs])) x := by
  first
    | exact GI.wE_cell
    | (intros; exact GI.wE_cell)
    | (intros; apply GI.wE_cell <;> assumption)
theorem wE_cat {a b : Exp} : Rs.Ok (evE Φ (.cat a b) σ h) Q = Rs.Ok (peek a σ h (evE Φ a σ h)) fun x h => Rs.Ok (peek b σ h (evE Φ b σ h)) fun y h => Rs.Ok (match x, y with
    | .lst xs, .lst ys => if xs.length + ys.length ≤ sizeLine then .ok (.lst (xs ++ ys)) h else .no
    | _, _ => .no) Q := by
  first
    | exact GI.wE_cat
    | (intros; exact GI.wE_cat)
    | (intros; apply GI.wE_cat <;> assumption)
theorem wE_rgl {k : Bool} {a b : Exp} : Rs.Ok (evE Φ (.rgl k a b) σ h) Q = Rs.Ok (evE Φ a σ h) fun x h => Rs.Ok (evE Φ b σ h) fun y h => Rs.Ok (match x, y with
    | .int i, .int j => if 0 ≤ i ∧ i ≤ 16777216 ∧ 0 ≤ j ∧ j ≤ 16777216 then .ok (if k then .tup (rangeA i j) else .lst (rangeA i j)) h else .no
    | _, _ => .no) Q := by
  first
    | exact GI.wE_rgl
    | (intros; exact GI.wE_rgl)
    | (intros; apply GI.wE_rgl <;> assumption)
theorem wE_upper {a : Exp} : Rs.Ok (evE Φ (.upper a) σ h) Q = Rs.Ok (evE Φ a σ h) fun x h => Rs.Ok (match x with
    | .str z => if z.length ≤ 5592405 then .ok (.str (Txt.upper z)) h else .no
    | _ => .no) Q := by
  first
    | exact GI.wE_upper
    | (intros; exact GI.wE_upper)
    | (intros; apply GI.wE_upper <;> assumption)
theorem wE_sset {a : Exp} : Rs.Ok (evE Φ (.sset a) σ h) Q = Rs.Ok (evE Φ a σ h) fun x h => Rs.Ok (match x with
    | .tup xs => (match intsOf xs with
      | some ns => if ns.length < 64 then .ok (.lst ((sortSet ns).map .int)) h else .no
      | none => .no)
    | .lst xs => (match intsOf xs with
      | some ns => if ns.length < 64 then .ok (.lst ((sortSet ns).map .int)) h else .no
      | none => .no)
    | _ => .no) Q := by
  first
    | exact GI.wE_sset
    | (intros; exact GI.wE_sset)
    | (intros; apply GI.wE_sset <;> assumption)
theorem wE_dis {ks : List L2.Key} {vs : List AV} : Rs.Ok (evE Φ (.dis ks vs) σ h) Q = Rs.Ok (if ks.length ≤ 1 ∧ vs.length = ks.length then .ok (.dct (ks.map keyA) vs) h else .no) Q := by
  first
    | exact GI.wE_dis
    | (intros; exact GI.wE_dis)
    | (intros; apply GI.wE_dis <;> assumption)
theorem wEs_nil {Q : List AV → AH → Prop} : Rs.Ok (evEs Φ [] σ h) Q = Q [] h := by
  first
    | exact GI.wEs_nil
    | (intros; exact GI.wEs_nil)
    | (intros; apply GI.wEs_nil <;> assumption)
theorem wEs_cons {e : Exp} {es : List Exp} {Q : List AV → AH → Prop} : Rs.Ok (evEs Φ (e :: es) σ h) Q = Rs.Ok (evE Φ e σ h) fun x h => Rs.Ok (evEs Φ es σ h) fun xs h => Q (x :: xs) h := by
  first
    | exact GI.wEs_cons
    | (intros; exact GI.wEs_cons)
    | (intros; apply GI.wEs_cons <;> assumption)
theorem wPs_nil {Q : List AV → AH → Prop} : Rs.Ok (evPs Φ [] σ h) Q = Q [] h := by
  first
    | exact GI.wPs_nil
    | (intros; exact GI.wPs_nil)
    | (intros; apply GI.wPs_nil <;> assumption)
theorem wPs_cons {e : Exp} {es : List Exp} {Q : List AV → AH → Prop} : Rs.Ok (evPs Φ (e :: es) σ h) Q = Rs.Ok (peek e σ h (evE Φ e σ h)) fun x h => Rs.Ok (evPs Φ es σ h) fun xs h => Q (x :: xs) h := by
  first
    | exact GI.wPs_cons
    | (intros; exact GI.wPs_cons)
    | (intros; apply GI.wPs_cons <;> assumption)
theorem wO_none {Q : Option Int → AH → Prop} : Rs.Ok (evO Φ none σ h) Q = Q none h := by
  first
    | exact GI.wO_none
    | (intros; exact GI.wO_none)
    | (intros; apply GI.wO_none <;> assumption)
theorem wO_some {e : Exp} {Q : Option Int → AH → Prop} : Rs.Ok (evO Φ (some e) σ h) Q = Rs.Ok (evE Φ e σ h) fun x h => inK (fun i => Q (some i) h) x := by
  first
    | exact GI.wO_some
    | (intros; exact GI.wO_some)
    | (intros; apply GI.wO_some <;> assumption)
theorem peek_var {i : Nat} {r : Rs AV} : peek (.var i) σ h r = match σ[i]? with
    | some (.ol xs) => .ok (.lst xs) h
    | _ => r := by
  first
    | exact GI.peek_var
    | (intros; exact GI.peek_var)
    | (intros; apply GI.peek_var <;> assumption)
theorem wT_e {e : Exp} {Q : Bool → AH → Prop} : Rs.Ok (evT Φ (.e e) σ h) Q = Rs.Ok (peek e σ h (evE Φ e σ h)) fun x h => Rs.Ok (lift (truth h x) h) Q := by
  first
    | exact GI.wT_e
    | (intros; exact GI.wT_e)
    | (intros; apply GI.wT_e <;> assumption)
theorem wT_and {a b : Tst} {Q : Bool → AH → Prop} : Rs.Ok (evT Φ (.and a b) σ h) Q = Rs.Ok (evT Φ a σ h) fun k h => Br k (Rs.Ok (evT Φ b σ h) Q) (Q false h) := by
  first
    | exact GI.wT_and
    | (intros; exact GI.wT_and)
    | (intros; apply GI.wT_and <;> assumption)
theorem wT_or {a b : Tst} {Q : Bool → AH → Prop} : Rs.Ok (evT Φ (.or a b) σ h) Q = Rs.Ok (evT Φ a σ h) fun k h => Br k (Q true h) (Rs.Ok (evT Φ b σ h) Q) := by
  first
    | exact GI.wT_or
    | (intros; exact GI.wT_or)
    | (intros; apply GI.wT_or <;> assumption)
theorem wT_not {a : Tst} {Q : Bool → AH → Prop} : Rs.Ok (evT Φ (.not a) σ h) Q = Rs.Ok (evT Φ a σ h) fun k h => Q (!k) h := by
  first
    | exact GI.wT_not
    | (intros; exact GI.wT_not)
    | (intros; apply GI.wT_not <;> assumption)
theorem wF_nil {Q : Bool → AH → Prop} : Rs.Ok (evF Φ [] σ h) Q = Q true h := by
  first
    | exact GI.wF_nil
    | (intros; exact GI.wF_nil)
    | (intros; apply GI.wF_nil <;> assumption)
theorem wF_cons {t : Tst} {ts : List Tst} {Q : Bool → AH → Prop} : Rs.Ok (evF Φ (t :: ts) σ h) Q = Rs.Ok (evT Φ t σ h) fun k h => Br k (Rs.Ok (evF Φ ts σ h) Q) (Q false h) := by
  first
    | exact GI.wF_cons
    | (intros; exact GI.wF_cons)
    | (intros; apply GI.wF_cons <;> assumption)
theorem wI_sq {e : Exp} {pk : Bool} {Q : List AV → AH → Prop} : Rs.Ok (evI Φ (.sq e) pk σ h) Q = Rs.Ok (if pk then peek e σ h (evE Φ e σ h) else evE Φ e σ h) fun x h => Rs.Ok (lift (witems x) h) Q := by
  first
    | exact GI.wI_sq
    | (intros; exact GI.wI_sq)
    | (intros; apply GI.wI_sq <;> assumption)
theorem wI_rg {a b : Exp} {pk : Bool} {Q : List AV → AH → Prop} : Rs.Ok (evI Φ (.rg a b) pk σ h) Q = Rs.Ok (evE Φ a σ h) fun x h => Rs.Ok (evE Φ b σ h) fun y h => inK (fun i => inK (fun j => (-(2 ^ 62) ≤ i ∧ i < 2 ^ 62 ∧ -(2 ^ 62) ≤ j ∧ j < 2 ^ 62) ∧ Q (rangeA i j) h) y) x := by
  first
    | exact GI.wI_rg
    | (intros; exact GI.wI_rg)
    | (intros; apply GI.wI_rg <;> assumption)
theorem wI_en {e : Exp} {pk : Bool} {Q : List AV → AH → Prop} : Rs.Ok (evI Φ (.en e) pk σ h) Q = Rs.Ok (if pk then peek e σ h (evE Φ e σ h) else evE Φ e σ h) fun x h => Rs.Ok (lift (vitems x) h) fun xs h => Q (enumA 0 xs) h := by
  first
    | exact GI.wI_en
    | (intros; exact GI.wI_en)
    | (intros; apply GI.wI_en <;> assumption)
theorem wI_zp {a b : Exp} {pk : Bool} {Q : List AV → AH → Prop} : Rs.Ok (evI Φ (.zp a b) pk σ h) Q = Rs.Ok (if pk then peek a σ h (evE Φ a σ h) else evE Φ a σ h) fun x h => Rs.Ok (if pk then peek b σ h (evE Φ b σ h) else evE Φ b σ h) fun y h => Rs.Ok (lift (zipK x y) h) Q := by
  first
    | exact GI.wI_zp
    | (intros; exact GI.wI_zp)
    | (intros; apply GI.wI_zp <;> assumption)
theorem wC_elt {e : Exp} {pk : Bool} {Q : List AV → AH → Prop} : Rs.Ok (evC Φ (.elt e) pk σ h) Q = Rs.Ok (evE Φ e σ h) fun x h => Q [x] h := by
  first
    | exact GI.wC_elt
    | (intros; exact GI.wC_elt)
    | (intros; apply GI.wC_elt <;> assumption)
/-- the body of a comprehension's loop -/
def bodyC (Φ : CallA) (ifs : List Tst) (c : Cmp) (σ : ASt) (h : AH) : Rs (List AV) := (evF Φ ifs σ h).bind fun k h => match k with
  | true => evC Φ c false σ h
  | false => .ok [] h
theorem w_bodyC {ifs : List Tst} {c : Cmp} {Q : List AV → AH → Prop} : Rs.Ok (bodyC Φ ifs c σ h) Q = Rs.Ok (evF Φ ifs σ h) fun k h => Br k (Rs.Ok (evC Φ c false σ h) Q) (Q [] h) := by
  first
    | exact GI.w_bodyC
    | (intros; exact GI.w_bodyC)
    | (intros; apply GI.w_bodyC <;> assumption)
theorem wC_cl {tg : Tgt} {it : Itr} {ifs : List Tst} {c : Cmp} {pk : Bool} {Q : List AV → AH → Prop} : Rs.Ok (evC Φ (.cl tg it ifs c) pk σ h) Q = Rs.Ok (evI Φ it pk σ h) fun xs h => Rs.Ok (compL tg (bodyC Φ ifs c) xs (wipeA σ (tgSlots tg ++ cmpSlots c)) h) Q := by
  first
    | exact GI.wC_cl
    | (intros; exact GI.wC_cl)
    | (intros; apply GI.wC_cl <;> assumption)
end
section
variable {Φ : CallA} {σ : ASt} {h : AH} {Q : Fl → AH → Prop}
theorem wSs_nil : Rs.Ok (evSs Φ [] σ h) Q = Q (.nx σ) h := by
  first
    | exact GI.wSs_nil
    | (intros; exact GI.wSs_nil)
    | (intros; apply GI.wSs_nil <;> assumption)
/-- the rest of a suite -/
def RestK (Φ : CallA) (ss : List Stm) (Q : Fl → AH → Prop) (σ : ASt) (h : AH) : Prop := Rs.Ok (evSs Φ ss σ h) Q
theorem RestK_ap {ss : List Stm} : RestK Φ ss Q σ h = Rs.Ok (evSs Φ ss σ h) Q := by
  first
    | exact GI.RestK_ap
    | (intros; exact GI.RestK_ap)
    | (intros; apply GI.RestK_ap <;> assumption)
/-- the ways of an if -/
def IfK (Φ : CallA) (a b : List Stm) (σ : ASt) (Q : Fl → AH → Prop) (k : Bool) (h : AH) : Prop := match k with
  | true => Rs.Ok (evSs Φ a σ h) Q
  | false => Rs.Ok (evSs Φ b σ h) Q
theorem IfK_true {a b : List Stm} : IfK Φ a b σ Q true h = Rs.Ok (evSs Φ a σ h) Q := by
  first
    | exact GI.IfK_true
    | (intros; exact GI.IfK_true)
    | (intros; apply GI.IfK_true <;> assumption)
theorem IfK_false {a b : List Stm} : IfK Φ a b σ Q false h = Rs.Ok (evSs Φ b σ h) Q := by
  first
    | exact GI.IfK_false
    | (intros; exact GI.IfK_false)
    | (intros; apply GI.IfK_false <;> assumption)
theorem IfK_of {a b : List Stm} {k : Bool} (t : k = true → Rs.Ok (evSs Φ a σ h) Q) (f : k = false → Rs.Ok (evSs Φ b σ h) Q) : IfK Φ a b σ Q k h := by
  first
    | exact GI.IfK_of
    | (intros; exact GI.IfK_of)
    | (intros; apply GI.IfK_of <;> assumption)
theorem IfK_dec {a b : List Stm} {p : Prop} [Decidable p] (t : p → Rs.Ok (evSs Φ a σ h) Q) (f : ¬ p → Rs.Ok (evSs Φ b σ h) Q) : IfK Φ a b σ Q (decide p) h := by
  first
    | exact GI.IfK_dec
    | (intros; exact GI.IfK_dec)
    | (intros; apply GI.IfK_dec <;> assumption)
theorem wSs_cons {s : Stm} {ss : List Stm} : Rs.Ok (evSs Φ (s :: ss) σ h) Q = Rs.Ok (evS Φ s σ h) (seqK (RestK Φ ss Q) Q) := by
  first
    | exact GI.wSs_cons
    | (intros; exact GI.wSs_cons)
    | (intros; apply GI.wSs_cons <;> assumption)
theorem wS_set {i : Nat} {e : Exp} : Rs.Ok (evS Φ (.set i e) σ h) Q = Rs.Ok (evE Φ e σ h) fun x h => i < σ.length ∧ Q (.nx (σ.set i (.vl x))) h := by
  first
    | exact GI.wS_set
    | (intros; exact GI.wS_set)
    | (intros; apply GI.wS_set <;> assumption)
theorem wS_own {i : Nat} {e : Exp} : Rs.Ok (evS Φ (.own i e) σ h) Q = Rs.Ok (evE Φ e σ h) fun x h => lsK (fun xs => i < σ.length ∧ Q (.nx (σ.set i (.ol xs))) h) x := by
  first
    | exact GI.wS_own
    | (intros; exact GI.wS_own)
    | (intros; apply GI.wS_own <;> assumption)
theorem wS_asg {t : Tgt} {e : Exp} : Rs.Ok (evS Φ (.asg t e) σ h) Q = Rs.Ok (evE Φ e σ h) fun x h => Rs.Ok (lift (asgT t x σ) h) fun σ h => Q (.nx σ) h := by
  first
    | exact GI.wS_asg
    | (intros; exact GI.wS_asg)
    | (intros; apply GI.wS_asg <;> assumption)
theorem wS_par {i j : Nat} {a b : Exp} : Rs.Ok (evS Φ (.par i j a b) σ h) Q = Rs.Ok (evE Φ a σ h) fun x h => Rs.Ok (evE Φ b σ h) fun y h => (i < σ.length ∧ j < σ.length) ∧ Q (.nx ((σ.set i (.vl x)).set j (.vl y))) h := by
  first
    | exact GI.wS_par
    | (intros; exact GI.wS_par)
    | (intros; apply GI.wS_par <;> assumption)
theorem wS_parO {i j : Nat} {a b : Exp} : Rs.Ok (evS Φ (.parO i j a b) σ h) Q = Rs.Ok (evE Φ a σ h) fun x h => Rs.Ok (evE Φ b σ h) fun y h => lsK (fun ys => (i < σ.length ∧ j < σ.length) ∧ Q (.nx ((σ.set i (.vl x)).set j (.ol ys))) h) y := by
  first
    | exact GI.wS_parO
    | (intros; exact GI.wS_parO)
    | (intros; apply GI.wS_parO <;> assumption)
theorem wS_pars {is : List Nat} {os : List Bool} {es : List Exp} : Rs.Ok (evS Φ (.pars is os es) σ h) Q = Rs.Ok (evEs Φ es σ h) fun xs h => Rs.Ok (lift (setAll σ is os xs) h) fun σ h => Q (.nx σ) h := by
  first
    | exact GI.wS_pars
    | (intros; exact GI.wS_pars)
    | (intros; apply GI.wS_pars <;> assumption)
theorem wS_star {i j : Nat} {e : Exp} : Rs.Ok (evS Φ (.star i j e) σ h) Q = Rs.Ok (evE Φ e σ h) fun x h => tcK (fun y ys => (i < σ.length ∧ j < σ.length) ∧ Q (.nx ((σ.set i (.vl y)).set j (.ol ys))) h) x := by
  first
    | exact GI.wS_star
    | (intros; exact GI.wS_star)
    | (intros; apply GI.wS_star <;> assumption)
theorem wS_ext {i : Nat} {e : Exp} : Rs.Ok (evS Φ (.ext i e) σ h) Q = Rs.Ok (match σ[i]? with
    | some (.ol xs) => (evE Φ e σ h).bind fun x h => (match x with
      | .lst ys => if xs.length + ys.length ≤ sizeLine then .ok (.nx (σ.set i (.ol (xs ++ ys)))) h else .no
      | _ => .no)
    | _ => .no) Q := by
  first
    | exact GI.wS_ext
    | (intros; exact GI.wS_ext)
    | (intros; apply GI.wS_ext <;> assumption)
theorem wS_sset {o i e : Exp} : Rs.Ok (evS Φ (.sset o i e) σ h) Q = Rs.Ok (evE Φ e σ h) fun v h => Rs.Ok (evE Φ o σ h) fun x h => Rs.Ok (evE Φ i σ h) fun k h => Rs.Ok (match x, k with
    | .ref n, .int z => (match h[n]? with
      | some (.lst xs) => (match L2.ixN xs.length z with
        | some j => .ok (.nx σ) (h.set n (.lst (xs.set j v)))
        | none => .no)
      | _ => .no)
    | _, _ => .no) Q := by
  first
    | exact GI.wS_sset
    | (intros; exact GI.wS_sset)
    | (intros; apply GI.wS_sset <;> assumption)
theorem wS_app {i : Nat} {e : Exp} : Rs.Ok (evS Φ (.app i e) σ h) Q = Rs.Ok (match σ[i]? with
    | some (.ol xs) => (evE Φ e σ h).bind fun x h => if xs.length < sizeLine then .ok (.nx (σ.set i (.ol (xs ++ [x])))) h else .no
    | _ => .no) Q := by
  first
    | exact GI.wS_app
    | (intros; exact GI.wS_app)
    | (intros; apply GI.wS_app <;> assumption)
theorem wS_expr {e : Exp} : Rs.Ok (evS Φ (.expr e) σ h) Q = Rs.Ok (evE Φ e σ h) fun x h => Q (.nx σ) h := by
  first
    | exact GI.wS_expr
    | (intros; exact GI.wS_expr)
    | (intros; apply GI.wS_expr <;> assumption)
theorem wS_aug {i : Nat} {o : BOp} {e : Exp} : Rs.Ok (evS Φ (.aug i o e) σ h) Q = Rs.Ok (match σ[i]? with
    | some (.vl x) => (evE Φ e σ h).bind fun y h => (match o, x, y with
      | .add, .int a, .int b => .ok (.nx (σ.set i (.vl (.int (a + b))))) h
      | .sub, .int a, .int b => .ok (.nx (σ.set i (.vl (.int (a - b))))) h
      | _, _, _ => .no)
    | _ => .no) Q := by
  first
    | exact GI.wS_aug
    | (intros; exact GI.wS_aug)
    | (intros; apply GI.wS_aug <;> assumption)
theorem wS_ife {t : Tst} {a b : List Stm} : Rs.Ok (evS Φ (.ife t a b) σ h) Q = Rs.Ok (evT Φ t σ h) (IfK Φ a b σ Q) := by
  first
    | exact GI.wS_ife
    | (intros; exact GI.wS_ife)
    | (intros; apply GI.wS_ife <;> assumption)
theorem wS_for {tg : Tgt} {it : Itr} {b : List Stm} : Rs.Ok (evS Φ (.for tg it b) σ h) Q = Rs.Ok (evI Φ it false σ h) fun xs h => Rs.Ok (forL tg (evSs Φ b) xs σ h) Q := by
  first
    | exact GI.wS_for
    | (intros; exact GI.wS_for)
    | (intros; apply GI.wS_for <;> assumption)
theorem wS_while {t : Tst} {b : List Stm} : Rs.Ok (evS Φ (.while t b) σ h) Q = Rs.Ok (whileN (evT Φ t) (evSs Φ b) turns σ h) Q := by
  first
    | exact GI.wS_while
    | (intros; exact GI.wS_while)
    | (intros; apply GI.wS_while <;> assumption)
theorem wS_ret {e : Exp} : Rs.Ok (evS Φ (.ret e) σ h) Q = Rs.Ok (evE Φ e (σ.map frz) h) fun x h => Q (.rt x) h := by
  first
    | exact GI.wS_ret
    | (intros; exact GI.wS_ret)
    | (intros; apply GI.wS_ret <;> assumption)
theorem wS_retN : Rs.Ok (evS Φ .retN σ h) Q = Q (.rt .non) h := by
  first
    | exact GI.wS_retN
    | (intros; exact GI.wS_retN)
    | (intros; apply GI.wS_retN <;> assumption)
theorem wS_pass : Rs.Ok (evS Φ .pass σ h) Q = Q (.nx σ) h := by
  first
    | exact GI.wS_pass
    | (intros; exact GI.wS_pass)
    | (intros; apply GI.wS_pass <;> assumption)
theorem wS_brk : Rs.Ok (evS Φ .brk σ h) Q = Q (.bk σ) h := by
  first
    | exact GI.wS_brk
    | (intros; exact GI.wS_brk)
    | (intros; apply GI.wS_brk <;> assumption)
theorem wS_cnt : Rs.Ok (evS Φ .cnt σ h) Q = Q (.ct σ) h := by
  first
    | exact GI.wS_cnt
    | (intros; exact GI.wS_cnt)
    | (intros; apply GI.wS_cnt <;> assumption)
theorem wS_frzd {is : List Nat} {s : Stm} : Rs.Ok (evS Φ (.frzd is s) σ h) Q = Rs.Ok (evS Φ s (frzAt σ is) h) Q := by
  first
    | exact GI.wS_frzd
    | (intros; exact GI.wS_frzd)
    | (intros; apply GI.wS_frzd <;> assumption)
end
theorem w_run {Φ : CallA} {f : Fn} {vs : List AV} {h : AH} {Q : AV → AH → Prop} (hl : vs.length = f.pars) (q : Rs.Ok (evSs Φ f.body (start f.slots vs) h) (retK Q)) : Rs.Ok (runFn Φ f vs h) Q := by
  first
    | exact GI.w_run
    | (intros; exact GI.w_run)
    | (intros; apply GI.w_run <;> assumption)
/-! ### loops -/
theorem forL_ok {tg : Tgt} {body : ASt → AH → Rs Fl} {Q : Fl → AH → Prop} (I : Nat → ASt → AH → Prop) : ∀ {xs : List AV} {k : Nat} {σ : ASt} {h : AH}, I k σ h →
    (∀ i (hi : i < xs.length) σ h, I (k + i) σ h → ∃ σ1, asgT tg xs[i] σ = some σ1 ∧ Rs.Ok (body σ1 h) fun f h1 => match f with
      | .nx σ2 => I (k + i + 1) σ2 h1
      | .ct σ2 => I (k + i + 1) σ2 h1
      | .bk σ2 => Q (.nx σ2) h1
      | .rt v => Q (.rt v) h1) → (∀ σ h, I (k + xs.length) σ h → Q (.nx σ) h) → Rs.Ok (forL tg body xs σ h) Q := by
  first
    | exact GI.forL_ok
    | (intros; exact GI.forL_ok)
    | (intros; apply GI.forL_ok <;> assumption)
theorem w_for {tg : Tgt} {body : ASt → AH → Rs Fl} {Q : Fl → AH → Prop} {xs : List AV} {σ : ASt} {h : AH} (I : Nat → ASt → AH → Prop) (h0 : I 0 σ h)
    (hs : ∀ i (hi : i < xs.length) σ h, I i σ h → ∃ σ1, asgT tg xs[i] σ = some σ1 ∧ Rs.Ok (body σ1 h) fun f h1 => match f with
      | .nx σ2 => I (i + 1) σ2 h1
      | .ct σ2 => I (i + 1) σ2 h1
      | .bk σ2 => Q (.nx σ2) h1
      | .rt v => Q (.rt v) h1) (hd : ∀ σ h, I xs.length σ h → Q (.nx σ) h) : Rs.Ok (forL tg body xs σ h) Q := by
  first
    | exact GI.w_for
    | (intros; exact GI.w_for)
    | (intros; apply GI.w_for <;> assumption)
theorem compL_ok {tg : Tgt} {body : ASt → AH → Rs (List AV)} {σ : ASt} (I : Nat → List AV → AH → Prop) : ∀ {xs : List AV} {k : Nat} {acc : List AV} {h : AH} {Q : List AV → AH → Prop}, I k acc h →
    (∀ i (hi : i < xs.length) acc h, I (k + i) acc h → ∃ σ1, asgT tg xs[i] σ = some σ1 ∧ Rs.Ok (body σ1 h) fun ys h1 => I (k + i + 1) (acc ++ ys) h1) → (∀ ys h, I (k + xs.length) (acc ++ ys) h → Q ys h) → Rs.Ok (compL tg body xs σ h) Q := by
  first
    | exact GI.compL_ok
    | (intros; exact GI.compL_ok)
    | (intros; apply GI.compL_ok <;> assumption)
theorem w_comp {tg : Tgt} {body : ASt → AH → Rs (List AV)} {σ : ASt} {xs : List AV} {h : AH} {Q : List AV → AH → Prop} (I : Nat → List AV → AH → Prop) (h0 : I 0 [] h)
    (hs : ∀ i (hi : i < xs.length) acc h, I i acc h → ∃ σ1, asgT tg xs[i] σ = some σ1 ∧ Rs.Ok (body σ1 h) fun ys h1 => I (i + 1) (acc ++ ys) h1) (hd : ∀ ys h, I xs.length ys h → Q ys h) : Rs.Ok (compL tg body xs σ h) Q := by
  first
    | exact GI.w_comp
    | (intros; exact GI.w_comp)
    | (intros; apply GI.w_comp <;> assumption)
/-- one that turns nothing: a list for each item -/
theorem compL_flat {tg : Tgt} {body : ASt → AH → Rs (List AV)} {σ : ASt} {h : AH} (f : AV → List AV) : ∀ {xs : List AV}, (∀ x ∈ xs, ∃ σ1, asgT tg x σ = some σ1 ∧ Rs.Ok (body σ1 h) fun ys h1 => ys = f x ∧ h1 = h) → compL tg body xs σ h = .ok (xs.flatMap f) h := by
  first
    | exact GI.compL_flat
    | (intros; exact GI.compL_flat)
    | (intros; apply GI.compL_flat <;> assumption)
theorem w_flat {tg : Tgt} {body : ASt → AH → Rs (List AV)} {σ : ASt} {h : AH} {xs : List AV} {Q : List AV → AH → Prop} (f : AV → List AV) (hb : ∀ x ∈ xs, ∃ σ1, asgT tg x σ = some σ1 ∧ Rs.Ok (body σ1 h) fun ys h1 => ys = f x ∧ h1 = h) (q : Q (xs.flatMap f) h) : Rs.Ok (compL tg body xs σ h) Q := by
  first
    | exact GI.w_flat
    | (intros; exact GI.w_flat)
    | (intros; apply GI.w_flat <;> assumption)
theorem flat_map {α β : Type} (f : α → β) : ∀ xs : List α, xs.flatMap (fun x => [f x]) = xs.map f := by
  first
    | exact GI.flat_map
    | (intros; exact GI.flat_map)
    | (intros; apply GI.flat_map <;> assumption)
/-- a value for each item -/
theorem w_map {tg : Tgt} {body : ASt → AH → Rs (List AV)} {σ : ASt} {h : AH} {xs : List AV} {Q : List AV → AH → Prop} (f : AV → AV) (hb : ∀ x ∈ xs, ∃ σ1, asgT tg x σ = some σ1 ∧ Rs.Ok (body σ1 h) fun ys h1 => ys = [f x] ∧ h1 = h) (q : Q (xs.map f) h) : Rs.Ok (compL tg body xs σ h) Q := by
  first
    | exact GI.w_map
    | (intros; exact GI.w_map)
    | (intros; apply GI.w_map <;> assumption)
theorem flat_filt {α : Type} (p : α → Bool) : ∀ xs : List α, xs.flatMap (fun x => if p x = true then [x] else []) = xs.filter p := by
  first
    | exact GI.flat_filt
    | (intros; exact GI.flat_filt)
    | (intros; apply GI.flat_filt <;> assumption)
/-- the items of which p holds -/
theorem w_filt {tg : Tgt} {body : ASt → AH → Rs (List AV)} {σ : ASt} {h : AH} {xs : List AV} {Q : List AV → AH → Prop} (p : AV → Bool) (hb : ∀ x ∈ xs, ∃ σ1, asgT tg x σ = some σ1 ∧ Rs.Ok (body σ1 h) fun ys h1 => ys = (if p x = true then [x] else []) ∧ h1 = h) (q : Q (xs.filter p) h) : Rs.Ok (compL tg body xs σ h) Q := by
  first
    | exact GI.w_filt
    | (intros; exact GI.w_filt)
    | (intros; apply GI.w_filt <;> assumption)
/-- a while, by a measure -/
theorem w_while {t : ASt → AH → Rs Bool} {body : ASt → AH → Rs Fl} {Q : Fl → AH → Prop} (I : Nat → ASt → AH → Prop)
    (hs : ∀ m σ h, I m σ h → Rs.Ok (t σ h) fun k h1 => Br k (Rs.Ok (body σ h1) fun f h2 => match f with
      | .nx σ2 => ∃ m', m' < m ∧ I m' σ2 h2
      | .ct σ2 => ∃ m', m' < m ∧ I m' σ2 h2
      | .bk σ2 => Q (.nx σ2) h2
      | .rt v => Q (.rt v) h2) (Q (.nx σ) h1)) : ∀ {n m : Nat} {σ : ASt} {h : AH}, I m σ h → m < n → Rs.Ok (whileN t body n σ h) Q := by
  first
    | exact GI.w_while
    | (intros; exact GI.w_while)
    | (intros; apply GI.w_while <;> assumption)
/-! ### small facts of operations -/
theorem opB_add {i j : Int} {h : AH} : opB .add (.int i) (.int j) h = .ok (.int (i + j)) h := rfl
theorem opB_sub {i j : Int} {h : AH} : opB .sub (.int i) (.int j) h = .ok (.int (i - j)) h := rfl
theorem opB_mod {i j : Int} {h : AH} (hj : 0 < j) : opB .mod (.int i) (.int j) h = .ok (.int (i % j)) h := by simp [opB, hj]
theorem opB_fdiv {i j : Int} {h : AH} (hj : 0 < j) (hj2 : j < 1073741824) : opB .fdiv (.int i) (.int j) h = .ok (.int (i / j)) h := by simp [opB, hj, hj2]
theorem opB_mulL {i j : Int} {h : AH} (hj : -(2 ^ 64) < i ∧ i < 2 ^ 64) : opB .mul (.int i) (.int j) h = .ok (.int (i * j)) h := if_pos (.inl hj)
theorem opB_mulR {i j : Int} {h : AH} (hj : -(2 ^ 64) < j ∧ j < 2 ^ 64) : opB .mul (.int i) (.int j) h = .ok (.int (i * j)) h := if_pos (.inr hj)
theorem opB_tup {as bs : List AV} {h : AH} (hl : as.length + bs.length ≤ sizeLine) : opB .add (.tup as) (.tup bs) h = .ok (.tup (as ++ bs)) h := if_pos hl
theorem opB_lst {as bs : List AV} {h : AH} (hl : as.length + bs.length ≤ sizeLine) : opB .add (.lst as) (.lst bs) h = .ok (.lst (as ++ bs)) h := if_pos hl
theorem opB_str {a b : Str} {h : AH} (hl : a.length + b.length ≤ sizeLine) : opB .add (.str a) (.str b) h = .ok (.str (a ++ b)) h := if_pos hl
theorem opC_lt {i j : Int} {h : AH} : opC .lt (.int i) (.int j) h = some (decide (i < j)) := rfl
theorem opC_gt {i j : Int} {h : AH} : opC .gt (.int i) (.int j) h = some (decide (j < i)) := rfl
theorem opC_le {i j : Int} {h : AH} : opC .le (.int i) (.int j) h = some (decide (i ≤ j)) := by
  show some (!decide (j < i)) = _
  rw [← decide_not]; congr 1; exact decide_eq_decide.mpr (by omega)
theorem opC_ge {i j : Int} {h : AH} : opC .ge (.int i) (.int j) h = some (decide (j ≤ i)) := by
  show some (!decide (i < j)) = _
  rw [← decide_not]; congr 1; exact decide_eq_decide.mpr (by omega)
theorem opC_eq {x y : AV} {h : AH} : opC .eq x y h = eqD x y := rfl
theorem opC_ne {x y : AV} {h : AH} : opC .ne x y h = (eqD x y).map not := rfl
theorem eqD_int {a b : Int} : eqD (.int a) (.int b) = some (decide (a = b)) := by
  simp only [eqD, dep, Nat.zero_le, if_true, pyEq, Nat.min_self]
  by_cases h : a = b <;> simp [h]
theorem eqD_str {a b : Str} : eqD (.str a) (.str b) = some (a == b) := by
  simp only [eqD, dep, Nat.zero_le, if_true, pyEq, Nat.min_self]
theorem eqD_nil {zs : List AV} : eqD (.lst zs) (.lst []) = some zs.isEmpty := by
  unfold eqD
  rw [if_pos (Nat.le_trans (Nat.min_le_right _ _) (by decide))]
  cases zs <;> simp [pyEq, pyEqs]
theorem eqD_tnil {zs : List AV} : eqD (.tup zs) (.tup []) = some zs.isEmpty := by
  unfold eqD
  rw [if_pos (Nat.le_trans (Nat.min_le_right _ _) (by decide))]
  cases zs <;> simp [pyEq, pyEqs]
theorem pyEqs_ints : ∀ (as bs : List Int), pyEqs (as.map AV.int) (bs.map AV.int) = some (decide (as = bs))
  | [], [] => rfl
  | [], b :: bs => by simp [pyEqs]
  | a :: as, [] => by simp [pyEqs]
  | a :: as, b :: bs => by
    simp only [List.map_cons, pyEqs, pyEq, Option.bind_some, pyEqs_ints as bs, Option.map_some, List.cons.injEq]
    by_cases h : a = b <;> simp [h]
theorem dep_ints : ∀ as : List Int, deps (as.map AV.int) = 0
  | [] => rfl
  | a :: as => by simp [deps, dep, dep_ints as]
theorem eqD_ints {as bs : List Int} : eqD (.lst (as.map AV.int)) (.lst (bs.map AV.int)) = some (decide (as = bs)) := by
  unfold eqD
  rw [if_pos (by simp [dep, dep_ints])]
  simp only [pyEq, List.length_map, pyEqs_ints]
  by_cases h : as.length = bs.length
  · rw [if_pos h]
  · rw [if_neg h]
    have : as ≠ bs := fun e => h (by rw [e])
    simp [this]
theorem eqD_tints {as bs : List Int} : eqD (.tup (as.map AV.int)) (.tup (bs.map AV.int)) = some (decide (as = bs)) := by
  unfold eqD
  rw [if_pos (by simp [dep, dep_ints])]
  simp only [pyEq, pyEqs_ints]
theorem pyIn_ints (x : Int) : ∀ ns : List Int, pyIn (.int x) (ns.map AV.int) = some (decide (x ∈ ns))
  | [] => rfl
  | y :: ys => by
    simp only [List.map_cons, pyIn, eqD_int, Option.bind_some, pyIn_ints x ys, Option.map_some, List.mem_cons]
    congr 1
    by_cases h : y = x
    · subst h; simp
    · have : ¬ x = y := fun e => h e.symm
      simp [h, this]
theorem opC_memT {x : Int} {ns : List Int} {h : AH} : opC .mem (.int x) (.tup (ns.map AV.int)) h = some (decide (x ∈ ns)) := by simp only [opC, items, Option.bind_some, pyIn_ints]
theorem opC_nmemT {x : Int} {ns : List Int} {h : AH} : opC .nmem (.int x) (.tup (ns.map AV.int)) h = some (!decide (x ∈ ns)) := by simp only [opC, items, Option.bind_some, pyIn_ints, Option.map_some]
theorem opC_memL {x : Int} {ns : List Int} {h : AH} : opC .mem (.int x) (.lst (ns.map AV.int)) h = some (decide (x ∈ ns)) := by simp only [opC, items, Option.bind_some, pyIn_ints]
theorem opC_nmemL {x : Int} {ns : List Int} {h : AH} : opC .nmem (.int x) (.lst (ns.map AV.int)) h = some (!decide (x ∈ ns)) := by simp only [opC, items, Option.bind_some, pyIn_ints, Option.map_some]
theorem opC_is {x y : AV} {h : AH} : opC .is x y h = opIs x y := rfl
theorem opC_isn {x y : AV} {h : AH} : opC .isn x y h = (opIs x y).map not := rfl
theorem opIs_non : opIs .non .non = some true := rfl
theorem opIs_bb {a b : Bool} : opIs (.bl a) (.bl b) = some (decide (a = b)) := rfl
theorem opIs_bl {a : Bool} : opIs (.bl a) .non = some false := rfl
theorem opIs_int {i : Int} : opIs (.int i) .non = some false := rfl
theorem opIs_str {z : Str} : opIs (.str z) .non = some false := rfl
theorem opIs_tup {xs : List AV} : opIs (.tup xs) .non = some false := rfl
theorem opIs_lst {xs : List AV} : opIs (.lst xs) .non = some false := rfl
theorem eqD_ts {xs : List AV} {z : Str} : eqD (.tup xs) (.str z) = some false := by
  unfold eqD
  rw [if_pos (by simp [dep])]
  rfl
theorem truth_bl {h : AH} {b : Bool} : truth h (.bl b) = some b := rfl
theorem truth_int {h : AH} {i : Int} : truth h (.int i) = some (i != 0) := rfl
theorem truth_non {h : AH} : truth h .non = some false := rfl
theorem truth_tup {h : AH} {xs : List AV} : truth h (.tup xs) = some (!xs.isEmpty) := rfl
theorem truth_lst {h : AH} {xs : List AV} : truth h (.lst xs) = some (!xs.isEmpty) := rfl
theorem slT {xs : List AV} {lo hi : Option Int} {h : AH} : opSlice (.tup xs) lo hi h = some (.tup (cutL xs lo hi)) := rfl
theorem slL {xs : List AV} {lo hi : Option Int} {h : AH} : opSlice (.lst xs) lo hi h = some (.lst (cutL xs lo hi)) := rfl
theorem zipK_tup {xs ys : List AV} : zipK (.tup xs) (.tup ys) = some (zipA xs ys) := rfl
theorem zipK_lst {xs ys : List AV} : zipK (.lst xs) (.lst ys) = some (zipA xs ys) := rfl
theorem cut_from {α : Type} (xs : List α) (k : Nat) : cutL xs (some (k : Int)) none = xs.drop k := by
  unfold cutL
  rw [HT.sIx_nat, HT.sIx_none]
  rw [List.take_of_length_le (by rw [List.length_drop]; omega)]
  by_cases h : k ≤ xs.length
  · rw [Nat.min_eq_left h]
  · rw [Nat.min_eq_right (by omega), List.drop_of_length_le (Nat.le_refl _), List.drop_of_length_le (by omega)]
theorem cut_to {α : Type} (xs : List α) (k : Nat) : cutL xs none (some (k : Int)) = xs.take k := by
  unfold cutL
  rw [HT.sIx_nat, HT.sIx_none, List.drop_zero, Nat.sub_zero]
  by_cases h : k ≤ xs.length
  · rw [Nat.min_eq_left h]
  · rw [Nat.min_eq_right (by omega), List.take_of_length_le (Nat.le_refl _), List.take_of_length_le (by omega)]
theorem cut1 {α : Type} (xs : List α) : cutL xs (some 1) none = xs.drop 1 := cut_from xs 1
theorem zip_mem : ∀ {xs ys : List AV} {z : AV}, z ∈ zipA xs ys → ∃ x y, x ∈ xs ∧ y ∈ ys ∧ z = .tup [x, y]
  | [], ys, _, h => by cases ys <;> simp [zipA] at h
  | x :: xs, [], _, h => by simp [zipA] at h
  | x :: xs, y :: ys, z, h => by
    simp only [zipA, List.mem_cons] at h
    rcases h with h | h
    · exact ⟨x, y, by simp, by simp, h⟩
    · obtain ⟨a, b, h1, h2, h3⟩ := zip_mem h
      exact ⟨a, b, by simp [h1], by simp [h2], h3⟩
theorem zipA_len : ∀ xs ys : List AV, (zipA xs ys).length = min xs.length ys.length
  | [], ys => by cases ys <;> simp [zipA]
  | x :: xs, [] => by simp [zipA]
  | x :: xs, y :: ys => by simp only [zipA, List.length_cons, zipA_len xs ys]; omega
theorem frz_un : frz .un = .un := rfl
theorem frz_vl {v : AV} : frz (.vl v) = .vl v := rfl
theorem frz_ol {xs : List AV} : frz (.ol xs) = .vl (.lst xs) := rfl
theorem atI_nat {α : Type} {xs : List α} {k : Nat} (h : k < xs.length) : L2.atI xs (k : Int) = some xs[k] := by
  unfold L2.atI L2.ixN
  rw [if_pos (by omega), if_pos (by omega)]
  simp [h]
theorem atI_mem {α : Type} {xs : List α} {r : Int} (h0 : 0 ≤ r) (h1 : r < xs.length) : ∃ v, L2.atI xs r = some v ∧ v ∈ xs := by
  have hr : r.toNat < xs.length := by omega
  refine ⟨xs[r.toNat], ?_, List.getElem_mem _⟩
  unfold L2.atI L2.ixN
  rw [if_pos h0, if_pos h1]
  simp [hr]
theorem atI_zero {α : Type} {x : α} {xs : List α} : L2.atI (x :: xs) 0 = some x := by
  have := atI_nat (xs := x :: xs) (k := 0) (by simp)
  simpa using this
theorem atI_one {α : Type} {x y : α} {xs : List α} : L2.atI (x :: y :: xs) 1 = some y := by
  have := atI_nat (xs := x :: y :: xs) (k := 1) (by simp)
  simpa using this
theorem atI_two {α : Type} {x y z : α} {xs : List α} : L2.atI (x :: y :: z :: xs) 2 = some z := by
  have := atI_nat (xs := x :: y :: z :: xs) (k := 2) (by simp)
  simpa using this
theorem sub_tup {xs : List AV} {r : Int} {h : AH} : opSub (.tup xs) (.int r) h = L2.atI xs r := by simp only [opSub, items, Option.bind_some]
theorem sub_lst {xs : List AV} {r : Int} {h : AH} : opSub (.lst xs) (.int r) h = L2.atI xs r := by simp only [opSub, items, Option.bind_some]
theorem sub_ref {h : AH} {n : Nat} {xs : List AV} (e : h[n]? = some (.lst xs)) (k : Int) : opSub (.ref n) (.int k) h = L2.atI xs k := by simp only [opSub, items, e, Option.bind_some]
theorem bi_lenT {xs : List AV} {h : AH} : opBi .len [.tup xs] h = .ok (.int xs.length) h := rfl
theorem bi_lenL {xs : List AV} {h : AH} : opBi .len [.lst xs] h = .ok (.int xs.length) h := rfl
theorem bi_lenS {ns : List Int} {h : AH} : opBi .len [.scr ns] h = .ok (.int ns.length) h := rfl
theorem bi_tup {xs : List AV} {h : AH} : opBi .tuple [.lst xs] h = .ok (.tup xs) h := rfl
theorem bi_tupT {xs : List AV} {h : AH} : opBi .tuple [.tup xs] h = .ok (.tup xs) h := rfl
theorem bi_list {xs : List AV} {h : AH} : opBi .list [.tup xs] h = .ok (.lst xs) h := rfl
theorem bi_listL {xs : List AV} {h : AH} : opBi .list [.lst xs] h = .ok (.lst xs) h := rfl
theorem bi_all {xs : List AV} {h : AH} : opBi .all [.lst xs] h = lift ((boolsOf xs).map fun bs => .bl (bs.all id)) h := rfl
theorem bi_any {xs : List AV} {h : AH} : opBi .any [.lst xs] h = lift ((boolsOf xs).map fun bs => .bl (bs.any id)) h := rfl
theorem bi_min {i j : Int} {h : AH} : opBi .min [.int i, .int j] h = .ok (.int (if j < i then j else i)) h := rfl
theorem bi_max {i j : Int} {h : AH} : opBi .max [.int i, .int j] h = .ok (.int (if j > i then j else i)) h := rfl
theorem bi_sum {xs : List AV} {h : AH} : opBi .sum [.lst xs] h = lift ((intsOf xs).map fun ns => .int ns.sum) h := rfl
/-- max of ints, or the default -/
def maxDf (d : Int) : List Int → Int
  | [] => d
  | n :: ns => ns.foldl max n
theorem bi_repr {v : AV} {h : AH} : opBi .repr [v] h = lift ((opRepr v).map .str) h := by cases v <;> rfl
theorem bools_bl : ∀ bs : List Bool, boolsOf (bs.map AV.bl) = some bs
  | [] => rfl
  | b :: bs => by simp [boolsOf, bools_bl bs]
theorem bools_f {α : Type} (f : α → Bool) (xs : List α) : boolsOf (xs.map fun x => AV.bl (f x)) = some (xs.map f) := by
  rw [show (xs.map fun x => AV.bl (f x)) = (xs.map f).map AV.bl by rw [List.map_map]; rfl, bools_bl]
theorem ints_int : ∀ ns : List Int, intsOf (ns.map AV.int) = some ns
  | [] => rfl
  | n :: ns => by simp [intsOf, ints_int ns]
theorem bi_maxD {ns : List Int} {d : Int} {h : AH} : opBiD .max (.lst (ns.map AV.int)) (.int d) h = .ok (.int (maxDf d ns)) h := by
  unfold opBiD
  simp only [litems, Option.bind_some, ints_int]
  cases ns <;> rfl
theorem bi_maxD0 {d : Int} {h : AH} : opBiD .max (.lst []) (.int d) h = .ok (.int d) h := rfl
theorem wit_tup {xs : List AV} : witems (.tup xs) = some xs := rfl
theorem wit_lst {xs : List AV} : witems (.lst xs) = some xs := rfl
theorem wit_str {z : Str} : witems (.str z) = some (strA z) := rfl
theorem zipK_stl {z : Str} {ys : List AV} : zipK (.str z) (.lst ys) = some (zipA (strA z) ys) := rfl
theorem bi_intb {b : Bool} {h : AH} : opBi .int [.bl b] h = .ok (.int (if b then 1 else 0)) h := rfl
theorem asgT_tl {ts : List Tgt} {xs : List AV} {σ : ASt} : asgT (.tp ts) (.lst xs) σ = asgTs ts xs σ := by rw [asgT]
theorem setAll_nil {σ : ASt} : setAll σ [] [] [] = some σ := by rw [setAll]
theorem setAll_v {σ : ASt} {i : Nat} {is : List Nat} {os : List Bool} {x : AV} {xs : List AV} (h : i < σ.length) : setAll σ (i :: is) (false :: os) (x :: xs) = setAll (σ.set i (.vl x)) is os xs := by
  rw [setAll]; unfold setSlot; rw [if_pos h]; rfl
theorem setAll_o {σ : ASt} {i : Nat} {is : List Nat} {os : List Bool} {ys : List AV} {xs : List AV} (h : i < σ.length) : setAll σ (i :: is) (true :: os) (.lst ys :: xs) = setAll (σ.set i (.ol ys)) is os xs := by
  rw [setAll]; unfold setSlot; rw [if_pos h]; rfl
theorem vit_tup {xs : List AV} : vitems (.tup xs) = some xs := rfl
theorem vit_lst {xs : List AV} : vitems (.lst xs) = some xs := rfl
theorem asg_nm {i : Nat} {x : AV} {σ : ASt} (hi : i < σ.length) : asgT (.nm i) x σ = some (σ.set i (.vl x)) := by simp [asgT, hi]
theorem asgT_tp {ts : List Tgt} {xs : List AV} {σ : ASt} : asgT (.tp ts) (.tup xs) σ = asgTs ts xs σ := by rw [asgT]
theorem asgTs_nil {σ : ASt} : asgTs [] [] σ = some σ := by rw [asgTs]
theorem asgTs_cons {t : Tgt} {ts : List Tgt} {x : AV} {xs : List AV} {σ : ASt} : asgTs (t :: ts) (x :: xs) σ = (asgT t x σ).bind (asgTs ts xs) := by rw [asgTs]
theorem rangeA_len (M : Nat) : (rangeA 0 (M : Int)).length = M := by simp [rangeA]
theorem rangeA_at {a b : Int} {i : Nat} (hi : i < (rangeA a b).length) : (rangeA a b)[i] = .int (a + i) := by simp [rangeA]
theorem sl1000 : 1000 ≤ sizeLine := by decide
theorem szle {n : Nat} (h : n ≤ 1000) : n ≤ sizeLine := Nat.le_trans h sl1000
theorem szlt {n : Nat} (h : n < 1000) : n < sizeLine := Nat.lt_of_lt_of_le h sl1000
theorem Ok_sz {α : Type} {n : Nat} {r s : Rs α} {Q : α → AH → Prop} (hn : n ≤ 1000) : Rs.Ok (if n ≤ sizeLine then r else s) Q = Rs.Ok r Q := by rw [if_pos (szle hn)]
theorem Ok_sz2 {α : Type} {n m : Nat} {r s : Rs α} {Q : α → AH → Prop} (hn : n + m ≤ 1000) : Rs.Ok (if n + m ≤ sizeLine then r else s) Q = Rs.Ok r Q := by rw [if_pos (szle hn)]
theorem Ok_szl {α : Type} {n : Nat} {r s : Rs α} {Q : α → AH → Prop} (hn : n < 1000) : Rs.Ok (if n < sizeLine then r else s) Q = Rs.Ok r Q := by rw [if_pos (szlt hn)]
theorem opB_tupK {as bs : List AV} {h : AH} (hl : as.length + bs.length ≤ 1000) : opB .add (.tup as) (.tup bs) h = .ok (.tup (as ++ bs)) h := if_pos (szle hl)
theorem opB_lstK {as bs : List AV} {h : AH} (hl : as.length + bs.length ≤ 1000) : opB .add (.lst as) (.lst bs) h = .ok (.lst (as ++ bs)) h := if_pos (szle hl)
theorem opB_strK {a b : Str} {h : AH} (hl : a.length + b.length ≤ 1000) : opB .add (.str a) (.str b) h = .ok (.str (a ++ b)) h := if_pos (szle hl)
theorem Ok_ifc {α : Type} {c : Prop} [Decidable c] {r s : Rs α} {Q : α → AH → Prop} (hc : c) : Rs.Ok (if c then r else s) Q = Rs.Ok r Q := by rw [if_pos hc]
theorem start_eq {n : Nat} {vs : List AV} : start n vs = vs.map .vl ++ List.replicate (n - vs.length) .un := rfl
theorem callN_step {T : Tab} {f : Str} {fn : Fn} (e : T.lookup f = some fn) (n : Nat) (vs : List AV) (h : AH) : callN T (n + 1) f vs h = runFn (callN T n) fn vs h := by simp only [callN, e]
/-- all at once -/
def WA := (And.intro @wE_c (And.intro @wE_var (And.intro @wE_bin (And.intro @wE_neg (And.intro @wE_not (And.intro @wE_and (And.intro @wE_or (And.intro @wE_cmp (And.intro @wE_chain (And.intro @wE_ife (And.intro @wE_isi (And.intro @wE_tup (And.intro @wE_lst (And.intro @wE_sub (And.intro @wE_slice (And.intro @wE_rev (And.intro @wE_call (And.intro @wE_callK (And.intro @wE_biD (And.intro @wE_bi (And.intro @wE_comp (And.intro @wE_kin (And.intro @wE_kget (And.intro @wE_kgetD (And.intro @wE_cell (And.intro @wE_cat (And.intro @wE_rgl (And.intro @wE_upper (And.intro @wE_sset (And.intro @wE_dis (And.intro @wEs_nil (And.intro @wEs_cons (And.intro @wPs_nil (And.intro @wPs_cons (And.intro @wO_none (And.intro @wO_some (And.intro @wT_e (And.intro @wT_and (And.intro @wT_or (And.intro @wT_not (And.intro @wF_nil (And.intro @wF_cons (And.intro @wI_sq (And.intro @wI_rg (And.intro @wI_en (And.intro @wI_zp (And.intro @wC_elt (And.intro @wC_cl (And.intro @wSs_nil (And.intro @wSs_cons (And.intro @wS_set (And.intro @wS_own (And.intro @wS_asg (And.intro @wS_par (And.intro @wS_parO (And.intro @wS_pars (And.intro @wS_star (And.intro @wS_ext (And.intro @wS_sset (And.intro @wS_app (And.intro @wS_expr (And.intro @wS_aug (And.intro @wS_ife (And.intro @wS_for (And.intro @wS_while (And.intro @wS_ret (And.intro @wS_retN (And.intro @wS_pass (And.intro @wS_brk (And.intro @wS_cnt (And.intro @wS_frzd @w_bodyC)))))))))))))))))))))))))))))))))))))))))))))))))))))))))))))))))))))))
def WB := (And.intro @Ok_ok (And.intro @atI_zero (And.intro @atI_one (And.intro @atI_two (And.intro @Ok_no (And.intro @Ok_ex (And.intro @Ok_bind (And.intro @Ok_sz (And.intro @Ok_sz2 (And.intro @Ok_szl (And.intro @Ok_ifc (And.intro @Br_true (And.intro @Br_false (And.intro @RestK_ap (And.intro @IfK_true (And.intro @IfK_false (And.intro @seqK_nx (And.intro @seqK_rt (And.intro @seqK_bk (And.intro @seqK_ct (And.intro @retK_rt (And.intro @retK_nx (And.intro @retK_bk (And.intro @retK_ct (And.intro @blK_bl (And.intro @inK_int (And.intro @lsK_lst (And.intro @List.getElem?_cons_zero.{0} (And.intro @List.getElem?_cons_succ.{0} (And.intro @List.set_cons_zero.{0} (And.intro @List.set_cons_succ.{0} (And.intro @List.getD_cons_zero.{0} (And.intro @List.getD_cons_succ.{0} (And.intro @List.length_cons.{0} (And.intro @List.length_nil.{0} (And.intro @List.map_cons.{0,0} (And.intro @List.map_nil.{0,0} (And.intro @List.length_map.{0,0} (And.intro @List.length_append.{0} (And.intro @frz_un (And.intro @frz_vl (And.intro @frz_ol (And.intro @lift_some (And.intro @lift_none (And.intro @Rs.bind_ok (And.intro @Bool.false_eq_true (And.intro @truth_bl (And.intro @truth_int (And.intro @truth_non (And.intro @truth_tup (And.intro @truth_lst (And.intro @slT (And.intro @slL (And.intro @cut1 (And.intro @zipK_tup (And.intro @zipK_lst (And.intro @opB_add (And.intro @opB_sub (And.intro @opB_mod (And.intro @opB_fdiv (And.intro @opB_tupK (And.intro @opB_lstK (And.intro @opC_lt (And.intro @opC_gt (And.intro @opC_le (And.intro @opC_ge (And.intro @opC_eq (And.intro @opC_ne (And.intro @opC_is (And.intro @opC_isn (And.intro @opIs_non (And.intro @opIs_bb (And.intro @opIs_bl (And.intro @opIs_int (And.intro @opIs_str (And.intro @opIs_tup (And.intro @opIs_lst (And.intro @eqD_ts (And.intro @opC_memT (And.intro @opC_nmemT (And.intro @opC_memL (And.intro @opC_nmemL (And.intro @eqD_int (And.intro @eqD_str (And.intro @eqD_nil (And.intro @eqD_tnil (And.intro @eqD_ints (And.intro @eqD_tints (And.intro @bi_lenT (And.intro @bi_lenL (And.intro @bi_lenS (And.intro @bi_tup (And.intro @bi_tupT (And.intro @bi_list (And.intro @bi_listL (And.intro @bi_all (And.intro @bi_any (And.intro @bi_min (And.intro @bi_max (And.intro @bi_repr (And.intro @bi_sum (And.intro @bi_intb (And.intro @stK_str (And.intro @tcK_tup (And.intro @wit_tup (And.intro @wit_lst (And.intro @wit_str (And.intro @zipK_stl (And.intro @asgT_tl (And.intro @setAll_nil (And.intro @setAll_v (And.intro @setAll_o (And.intro @bools_bl (And.intro @bools_f (And.intro @ints_int (And.intro @sub_tup (And.intro @sub_lst (And.intro @vit_tup (And.intro @vit_lst (And.intro @Bool.not_true (And.intro @Bool.not_false (And.intro @Bool.and_true (And.intro @Bool.true_and (And.intro @Bool.false_and (And.intro @Bool.and_false (And.intro @Bool.or_true (And.intro @Bool.true_or (And.intro @Bool.false_or (And.intro @Bool.or_false (And.intro @Option.map_some.{0,0} (And.intro @Option.map_none.{0,0} (And.intro @Option.bind_some.{0,0} (And.intro @Nat.zero_le (And.intro @Nat.le_refl (And.intro @and_self (And.intro @true_and (And.intro @and_true (And.intro @List.cons_append.{0} (And.intro @List.nil_append.{0} (And.intro @List.append_nil.{0} (And.intro @List.all_cons.{0} (And.intro @List.all_nil.{0} (And.intro @decide_true (And.intro @decide_false (And.intro @beq_self_eq_true.{0} (And.intro @asg_nm (And.intro @asgT_tp (And.intro @asgTs_nil (And.intro @asgTs_cons @start_eq)))))))))))))))))))))))))))))))))))))))))))))))))))))))))))))))))))))))))))))))))))))))))))))))))))))))))))))))))))))))))))))))))))))))))))))))))))))
end G

set_option linter.all false
set_option maxRecDepth 100000
set_option maxHeartbeats 4000000
/-! SC: what the defs of charts come to, in whatever table they stand. -/
namespace S
open PySem G
abbrev tN (ns : List Int) : AV := .tup (ns.map AV.int)
abbrev lN (ns : List Int) : AV := .lst (ns.map AV.int)
def known : AV → Bool
  | .ref _ => false
  | .fn _ => false
  | .scr _ => false
  | _ => true
def whole : AV → Bool
  | .int _ => true
  | _ => false
def within (lo hi : Int) : AV → Bool
  | .int i => decide (lo ≤ i ∧ i ≤ hi)
  | _ => false
theorem within_int {lo hi : Int} {v : AV} (h : within lo hi v = true) : ∃ i, v = .int i ∧ lo ≤ i ∧ i ≤ hi := by
  cases v <;> first | (simp [within] at h; done) | exact ⟨_, rfl, by simpa [within] using h⟩
def ltV : AV → AV → Bool
  | .int a, .int b => decide (a < b)
  | _, _ => false
def rise : List AV → Bool
  | x :: y :: r => ltV x y && rise (y :: r)
  | _ => true
def pairLt : AV → Bool
  | .tup [x, y] => ltV x y
  | _ => false
theorem rise_zip : ∀ xs : List AV, ((zipA xs (xs.drop 1)).map pairLt).all id = rise xs
  | [] => rfl
  | [x] => rfl
  | x :: y :: r => by
    have e := rise_zip (y :: r)
    simp only [List.drop_succ_cons, List.drop_zero] at e ⊢
    simp only [zipA, List.map_cons, List.all_cons, rise, pairLt]
    rw [e]
    rfl
def pts (m : Int) : AV → Bool
  | .tup xs => xs.all (within 0 (m - 1)) && rise xs
  | _ => false
def knownT : AV → Bool
  | .tup xs => xs.all known && decide (xs.length ≤ 1000)
  | v => known v
def chartB : AV → Bool
  | .tup rows => rows.all (pts rows.length)
  | _ => false
def knownC : AV → Bool
  | .tup rows => rows.all knownT && decide (rows.length ≤ 1000)
  | v => known v
def f_is_whole : Fn := ⟨1, 1, [(.ret (.and (.isi (.var 0) [.int]) (.not (.isi (.var 0) [.bool]))))]⟩
def f_is_within : Fn := ⟨3, 3, [(.ret (.and (.call "is_whole" [(.var 0)]) (.chain .le .le (.var 1) (.var 0) (.var 2))))]⟩
def f_are_points : Fn := ⟨4, 2, [(.ife (.or (.not (.e (.isi (.var 1) [.tuple]))) (.not (.e (.bi .all [(.comp (.cl (.nm 2) (.sq (.var 1)) [] (.elt (.call "is_within" [(.var 2), (.c (.int 0)), (.bin .sub (.var 0) (.c (.int 1)))]))))])))) [(.ret (.c (.bl false)))] []), (.ret (.bi .all [(.comp (.cl (.tp [(.nm 2), (.nm 3)]) (.zp (.var 1) (.slice (.var 1) (some (.c (.int 1))) none)) [] (.elt (.cmp .lt (.var 2) (.var 3)))))]))]⟩
def f_is_chart : Fn := ⟨2, 1, [(.ret (.and (.isi (.var 0) [.tuple]) (.bi .all [(.comp (.cl (.nm 1) (.sq (.var 0)) [] (.elt (.call "are_points" [(.bi .len [(.var 0)]), (.var 1)]))))])))]⟩
class Core (T : Tab) : Prop where
  is_whole : T.lookup (Str.ofString "is_whole") = some f_is_whole
  is_within : T.lookup (Str.ofString "is_within") = some f_is_within
class Pts (T : Tab) : Prop extends Core T where
  are_points : T.lookup (Str.ofString "are_points") = some f_are_points
  is_chart : T.lookup (Str.ofString "is_chart") = some f_is_chart
section
variable {T : Tab}
theorem c_is_whole [Core T] (n : Nat) (v : AV) (h : AH) (hv : known v = true) : callN T (n + 1) (Str.ofString "is_whole") [v] h = .ok (.bl (whole v)) h := by
  rw [callN_step Core.is_whole]
  refine Ok_eq (w_run rfl ?_)
  cases v <;> first | (simp [known] at hv; done) | (((try simp (disch := first | omega | assumption | (simp only [List.length_cons, List.length_nil, List.length_append, List.length_map]; omega) | decide) only [↓WA, WB, if_true, if_false, peek, hasTys, hasTy, wipeA, tgSlots, tgsSlots, cmpSlots, List.replicate, Nat.reduceAdd, Nat.reduceSub, Nat.reduceLT, Nat.reduceLeDiff, f_is_whole, whole])); try exact ⟨rfl, rfl⟩)
theorem c_is_within [Core T] (n : Nat) (v : AV) (lo hi : Int) (h : AH) (hv : known v = true) : callN T (n + 2) (Str.ofString "is_within") [v, .int lo, .int hi] h = .ok (.bl (within lo hi v)) h := by
  rw [callN_step Core.is_within]
  refine Ok_eq (w_run rfl ?_)
  have e := c_is_whole (T := T) n v h hv
  cases v <;> first | (simp [known] at hv; done) | skip
  case int i =>
    (try simp (disch := first | omega | assumption | (simp only [List.length_cons, List.length_nil, List.length_append, List.length_map]; omega) | decide) only [↓WA, WB, if_true, if_false, peek, hasTys, hasTy, wipeA, tgSlots, tgsSlots, cmpSlots, List.replicate, Nat.reduceAdd, Nat.reduceSub, Nat.reduceLT, Nat.reduceLeDiff, f_is_within, e, whole, within])
    refine Br_dec (fun a => ?_) (fun a => ?_) <;> (try simp (disch := first | omega | assumption | (simp only [List.length_cons, List.length_nil, List.length_append, List.length_map]; omega) | decide) only [↓WA, WB, if_true, if_false, peek, hasTys, hasTy, wipeA, tgSlots, tgsSlots, cmpSlots, List.replicate, Nat.reduceAdd, Nat.reduceSub, Nat.reduceLT, Nat.reduceLeDiff])
    · simp [a]
    · simp [a]
  all_goals (try simp (disch := first | omega | assumption | (simp only [List.length_cons, List.length_nil, List.length_append, List.length_map]; omega) | decide) only [↓WA, WB, if_true, if_false, peek, hasTys, hasTy, wipeA, tgSlots, tgsSlots, cmpSlots, List.replicate, Nat.reduceAdd, Nat.reduceSub, Nat.reduceLT, Nat.reduceLeDiff, f_is_within, e, whole, within])
theorem c_are_points [Pts T] (n : Nat) (m : Int) (v : AV) (h : AH) (hv : knownT v = true) : callN T (n + 3) (Str.ofString "are_points") [.int m, v] h = .ok (.bl (pts m v)) h := by
  rw [callN_step Pts.are_points]
  refine Ok_eq (w_run rfl ?_)
  cases v <;> first | (simp [knownT, known] at hv; done) | skip
  case tup xs =>
    simp only [knownT, Bool.and_eq_true, List.all_eq_true, decide_eq_true_eq] at hv
    have e1 := fun x hx => c_is_within (T := T) n x 0 (m - 1) h (hv.1 x hx)
    (try simp (disch := first | omega | assumption | (simp only [List.length_cons, List.length_nil, List.length_append, List.length_map]; omega) | decide) only [↓WA, WB, if_true, if_false, peek, hasTys, hasTy, wipeA, tgSlots, tgsSlots, cmpSlots, List.replicate, Nat.reduceAdd, Nat.reduceSub, Nat.reduceLT, Nat.reduceLeDiff, f_are_points])
    refine w_map (fun x => .bl (within 0 (m - 1) x)) (fun x hx => ⟨_, asg_nm (by simp), ?_⟩) ?_
    · (try simp (disch := first | omega | assumption | (simp only [List.length_cons, List.length_nil, List.length_append, List.length_map]; omega) | decide) only [↓WA, WB, if_true, if_false, peek, hasTys, hasTy, wipeA, tgSlots, tgsSlots, cmpSlots, List.replicate, Nat.reduceAdd, Nat.reduceSub, Nat.reduceLT, Nat.reduceLeDiff, w_bodyC, e1 x hx])
    have hl := hv.2
    (try simp (disch := first | omega | assumption | (simp only [List.length_cons, List.length_nil, List.length_append, List.length_map]; omega) | decide) only [↓WA, WB, if_true, if_false, peek, hasTys, hasTy, wipeA, tgSlots, tgsSlots, cmpSlots, List.replicate, Nat.reduceAdd, Nat.reduceSub, Nat.reduceLT, Nat.reduceLeDiff])
    refine IfK_of (fun ha => ?_) (fun ha => ?_) <;> (try simp (disch := first | omega | assumption | (simp only [List.length_cons, List.length_nil, List.length_append, List.length_map]; omega) | decide) only [↓WA, WB, if_true, if_false, peek, hasTys, hasTy, wipeA, tgSlots, tgsSlots, cmpSlots, List.replicate, Nat.reduceAdd, Nat.reduceSub, Nat.reduceLT, Nat.reduceLeDiff])
    · simp only [Bool.not_eq_true'] at ha
      rw [List.all_map] at ha
      (try simp (disch := first | omega | assumption | (simp only [List.length_cons, List.length_nil, List.length_append, List.length_map]; omega) | decide) only [↓WA, WB, if_true, if_false, peek, hasTys, hasTy, wipeA, tgSlots, tgsSlots, cmpSlots, List.replicate, Nat.reduceAdd, Nat.reduceSub, Nat.reduceLT, Nat.reduceLeDiff, pts])
      simp only [Function.comp_def, id] at ha
      simp [ha]
    · simp only [Bool.not_eq_false'] at ha
      (try simp (disch := first | omega | assumption | (simp only [List.length_cons, List.length_nil, List.length_append, List.length_map]; omega) | decide) only [↓WA, WB, if_true, if_false, peek, hasTys, hasTy, wipeA, tgSlots, tgsSlots, cmpSlots, List.replicate, Nat.reduceAdd, Nat.reduceSub, Nat.reduceLT, Nat.reduceLeDiff])
      rw [List.all_map] at ha
      simp only [Function.comp_def, id] at ha
      have ha' := List.all_eq_true.mp ha
      refine w_map (fun z => .bl (pairLt z)) (fun z hz => ?_) ?_
      · obtain ⟨x, y, h1, h2, rfl⟩ := zip_mem hz
        obtain ⟨a, rfl, _⟩ := within_int (ha' x h1)
        obtain ⟨b, rfl, _⟩ := within_int (ha' y (List.mem_of_mem_drop h2))
        refine ⟨_, rfl, ?_⟩
        (try simp (disch := first | omega | assumption | (simp only [List.length_cons, List.length_nil, List.length_append, List.length_map]; omega) | decide) only [↓WA, WB, if_true, if_false, peek, hasTys, hasTy, wipeA, tgSlots, tgsSlots, cmpSlots, List.replicate, Nat.reduceAdd, Nat.reduceSub, Nat.reduceLT, Nat.reduceLeDiff, w_bodyC])
        simp [pairLt, ltV]
      · have hz := zipA_len xs (xs.drop 1)
        (try simp (disch := first | omega | assumption | (simp only [List.length_cons, List.length_nil, List.length_append, List.length_map]; omega) | decide) only [↓WA, WB, if_true, if_false, peek, hasTys, hasTy, wipeA, tgSlots, tgsSlots, cmpSlots, List.replicate, Nat.reduceAdd, Nat.reduceSub, Nat.reduceLT, Nat.reduceLeDiff, pts])
        rw [rise_zip]
        simp [ha]
  all_goals (try simp (disch := first | omega | assumption | (simp only [List.length_cons, List.length_nil, List.length_append, List.length_map]; omega) | decide) only [↓WA, WB, if_true, if_false, peek, hasTys, hasTy, wipeA, tgSlots, tgsSlots, cmpSlots, List.replicate, Nat.reduceAdd, Nat.reduceSub, Nat.reduceLT, Nat.reduceLeDiff, f_are_points, pts])
theorem c_is_chart [Pts T] (n : Nat) (v : AV) (h : AH) (hv : knownC v = true) : callN T (n + 4) (Str.ofString "is_chart") [v] h = .ok (.bl (chartB v)) h := by
  rw [callN_step Pts.is_chart]
  refine Ok_eq (w_run rfl ?_)
  cases v <;> first | (simp [knownC, known] at hv; done) | skip
  case tup xs =>
    simp only [knownC, Bool.and_eq_true, List.all_eq_true, decide_eq_true_eq] at hv
    have e1 := fun x hx => c_are_points (T := T) n xs.length x h (hv.1 x hx)
    have hl := hv.2
    (try simp (disch := first | omega | assumption | (simp only [List.length_cons, List.length_nil, List.length_append, List.length_map]; omega) | decide) only [↓WA, WB, if_true, if_false, peek, hasTys, hasTy, wipeA, tgSlots, tgsSlots, cmpSlots, List.replicate, Nat.reduceAdd, Nat.reduceSub, Nat.reduceLT, Nat.reduceLeDiff, f_is_chart])
    refine w_map (fun x => .bl (pts xs.length x)) (fun x hx => ⟨_, asg_nm (by simp), ?_⟩) ?_
    · (try simp (disch := first | omega | assumption | (simp only [List.length_cons, List.length_nil, List.length_append, List.length_map]; omega) | decide) only [↓WA, WB, if_true, if_false, peek, hasTys, hasTy, wipeA, tgSlots, tgsSlots, cmpSlots, List.replicate, Nat.reduceAdd, Nat.reduceSub, Nat.reduceLT, Nat.reduceLeDiff, w_bodyC, e1 x hx])
    (try simp (disch := first | omega | assumption | (simp only [List.length_cons, List.length_nil, List.length_append, List.length_map]; omega) | decide) only [↓WA, WB, if_true, if_false, peek, hasTys, hasTy, wipeA, tgSlots, tgsSlots, cmpSlots, List.replicate, Nat.reduceAdd, Nat.reduceSub, Nat.reduceLT, Nat.reduceLeDiff, chartB])
    rw [List.all_map]; rfl
  all_goals (try simp (disch := first | omega | assumption | (simp only [List.length_cons, List.length_nil, List.length_append, List.length_map]; omega) | decide) only [↓WA, WB, if_true, if_false, peek, hasTys, hasTy, wipeA, tgSlots, tgsSlots, cmpSlots, List.replicate, Nat.reduceAdd, Nat.reduceSub, Nat.reduceLT, Nat.reduceLeDiff, f_is_chart, chartB])
end
end S

set_option linter.all false
set_option maxRecDepth 100000
set_option maxHeartbeats 4000000
/-! ST: things so wide, so deep; what repr tells of them. -/
namespace S
open PySem G
/-- what is neither a tuple nor a list -/
def sc (g : Nat) : AV → Bool
  | .non => true
  | .bl _ => true
  | .int i => decide (i.natAbs ≤ 10 ^ 29 + g * 10000)
  | .str x => decide (x.cps.toList.length ≤ 6 + g) && x.cps.toList.all (fun c => decide (c < 128))
  | .dct [] [] => true
  | .dct [.int a] [.int b] => a == 0 && (b == 0 || b == 1)
  | _ => false
/-- things so deep, so wide -/
def gd (g : Nat) : Nat → AV → Bool
  | 0, v => sc g v
  | d + 1, v => match v with
    | .tup xs => decide (xs.length ≤ 12 + g) && xs.all (gd g d)
    | .lst xs => decide (xs.length ≤ 12 + g) && xs.all (gd g d)
    | v => sc g v
mutual
def wt : AV → Nat
  | .tup xs => wts xs + 3
  | .lst xs => wts xs + 3
  | _ => 200
def wts : List AV → Nat
  | [] => 0
  | x :: xs => wt x + 2 + wts xs
end
theorem wts_append : ∀ (xs ys : List AV), wts (xs ++ ys) = wts xs + wts ys
  | [], ys => by simp [wts]
  | x :: xs, ys => by simp only [List.cons_append, wts, wts_append xs ys]; omega
theorem wts_split (xs : List AV) (k : Nat) : wts (xs.take k) + wts (xs.drop k) = wts xs := by rw [← wts_append, List.take_append_drop]
theorem wts_take (xs : List AV) (k : Nat) : wts (xs.take k) ≤ wts xs := by have := wts_split xs k; omega
theorem wts_drop (xs : List AV) (k : Nat) : wts (xs.drop k) ≤ wts xs := by have := wts_split xs k; omega
theorem wts_cut (xs : List AV) (lo hi : Option Int) : wts (cutL xs lo hi) ≤ wts xs := Nat.le_trans (wts_take _ _) (wts_drop _ _)
theorem wts_rev : ∀ xs : List AV, wts xs.reverse = wts xs
  | [] => rfl
  | x :: xs => by
    rw [List.reverse_cons, wts_append, wts_rev xs]
    simp only [wts]; omega
theorem wt_mem : ∀ {xs : List AV} {x : AV}, x ∈ xs → wt x ≤ wts xs
  | y :: xs, x, h => by
    simp only [wts]
    rcases List.mem_cons.mp h with e | e
    · subst e; omega
    · have := wt_mem e; omega
theorem cut_mem {xs : List AV} {lo hi : Option Int} {x : AV} (h : x ∈ cutL xs lo hi) : x ∈ xs := List.mem_of_mem_drop (List.mem_of_mem_take h)
theorem cut_len (xs : List AV) (lo hi : Option Int) : (cutL xs lo hi).length ≤ xs.length := by
  unfold cutL
  rw [List.length_take, List.length_drop]
  omega
theorem sc_mono {g g' : Nat} (h : g ≤ g') {v : AV} (hv : sc g v = true) : sc g' v = true := by
  unfold sc at hv ⊢
  split at hv <;> simp_all
  all_goals omega
theorem gd_mono {g g' : Nat} (h : g ≤ g') : ∀ {d d' : Nat} {v : AV}, d ≤ d' → gd g d v = true → gd g' d' v = true
  | 0, 0, v, _, hv => sc_mono h hv
  | 0, d' + 1, v, _, hv => by
    have hv : sc g v = true := hv
    cases v <;> first | (exact sc_mono h hv) | (simp [sc] at hv)
  | d + 1, 0, _, hd, _ => by omega
  | d + 1, d' + 1, v, hd, hv => by
    cases v
    case tup xs =>
      simp only [gd, Bool.and_eq_true, decide_eq_true_eq, List.all_eq_true] at hv ⊢
      exact ⟨by omega, fun x hx => gd_mono h (by omega) (hv.2 x hx)⟩
    case lst xs =>
      simp only [gd, Bool.and_eq_true, decide_eq_true_eq, List.all_eq_true] at hv ⊢
      exact ⟨by omega, fun x hx => gd_mono h (by omega) (hv.2 x hx)⟩
    all_goals
      simp only [gd] at hv ⊢
      exact sc_mono h hv
theorem gd_tup {g d : Nat} {xs : List AV} (h : gd g d (.tup xs) = true) : ∃ d', d = d' + 1 ∧ xs.length ≤ 12 + g ∧ ∀ x ∈ xs, gd g d' x = true := by
  cases d with
  | zero => simp [gd, sc] at h
  | succ d =>
    simp only [gd, Bool.and_eq_true, decide_eq_true_eq, List.all_eq_true] at h
    exact ⟨d, rfl, h⟩
theorem gd_lst {g d : Nat} {xs : List AV} (h : gd g d (.lst xs) = true) : ∃ d', d = d' + 1 ∧ xs.length ≤ 12 + g ∧ ∀ x ∈ xs, gd g d' x = true := by
  cases d with
  | zero => simp [gd, sc] at h
  | succ d =>
    simp only [gd, Bool.and_eq_true, decide_eq_true_eq, List.all_eq_true] at h
    exact ⟨d, rfl, h⟩
theorem mk_tup {g d : Nat} {xs : List AV} (hl : xs.length ≤ 12 + g) (h : ∀ x ∈ xs, gd g d x = true) : gd g (d + 1) (.tup xs) = true := by
  simp only [gd, Bool.and_eq_true, decide_eq_true_eq, List.all_eq_true]
  exact ⟨hl, h⟩
theorem mk_lst {g d : Nat} {xs : List AV} (hl : xs.length ≤ 12 + g) (h : ∀ x ∈ xs, gd g d x = true) : gd g (d + 1) (.lst xs) = true := by
  simp only [gd, Bool.and_eq_true, decide_eq_true_eq, List.all_eq_true]
  exact ⟨hl, h⟩
theorem gd_known {g d : Nat} {v : AV} (h : gd g d v = true) : known v = true := by
  cases v <;> first | rfl | (cases d <;> simp [gd, sc] at h)
theorem gd_knownT {g d : Nat} {v : AV} (hg : g ≤ 10) (h : gd g d v = true) : knownT v = true := by
  cases v
  case tup xs =>
    obtain ⟨d', rfl, hl, hx⟩ := gd_tup h
    simp only [knownT, Bool.and_eq_true, List.all_eq_true, decide_eq_true_eq]
    exact ⟨fun x m => gd_known (hx x m), by omega⟩
  all_goals exact gd_known h
theorem gd_knownC {g d : Nat} {v : AV} (hg : g ≤ 10) (h : gd g d v = true) : knownC v = true := by
  cases v
  case tup xs =>
    obtain ⟨d', rfl, hl, hx⟩ := gd_tup h
    simp only [knownC, Bool.and_eq_true, List.all_eq_true, decide_eq_true_eq]
    exact ⟨fun x m => gd_knownT hg (hx x m), by omega⟩
  all_goals exact gd_known h
/-! what repr tells -/
theorem str_len (x : Str) : x.length = x.cps.toList.length := by
  show x.cps.size = _
  simp
theorem sc_repr {g : Nat} (hg : g ≤ 10) {v : AV} (h : sc g v = true) : ∃ p, toPy v = some p ∧ p.showable = true ∧ p.depth ≤ 1 ∧ p.shown.length ≤ 200 := by
  unfold sc at h
  split at h
  · exact ⟨_, rfl, rfl, by simp [PyData.depth], by decide⟩
  · rename_i b
    exact ⟨_, rfl, rfl, by simp [PyData.depth], by cases b <;> decide⟩
  · rename_i i
    simp only [decide_eq_true_eq] at h
    have hb : i.natAbs < 10 ^ 40 := Nat.lt_of_le_of_lt h (by have : g * 10000 ≤ 100000 := by omega
                                                             omega)
    refine ⟨_, rfl, ?_, by simp [PyData.depth], ?_⟩
    · simp only [PyData.showable, decide_eq_true_eq]
      by_cases h0 : i.natAbs = 0
      · rw [h0]; decide
      · exact (Nat.log2_lt h0).mpr (Nat.lt_trans hb (by decide +kernel))
    · have q := int_text_length_le10 (k := 40) (by decide) hb
      show (Str.ofString (toString i)).length ≤ 200
      rw [ofString_length]
      omega
  · rename_i x
    simp only [Bool.and_eq_true, decide_eq_true_eq, List.all_eq_true] at h
    refine ⟨_, rfl, rfl, by simp [PyData.depth], ?_⟩
    have q := StrLaws.reprText_len x fun c hc => Nat.lt_trans (h.2 c hc) (by decide)
    rw [str_len x] at q
    show (reprText x).length ≤ 200
    omega
  · exact ⟨.dict [], rfl, rfl, by decide, by decide +kernel⟩
  · rename_i a b
    simp only [Bool.and_eq_true, beq_iff_eq, Bool.or_eq_true] at h
    obtain ⟨rfl, rfl | rfl⟩ := h
    · exact ⟨.dict [(.int 0, .int 0)], rfl, by decide +kernel, by decide, by decide +kernel⟩
    · exact ⟨.dict [(.int 0, .int 1)], rfl, by decide +kernel, by decide, by decide +kernel⟩
  · cases h
theorem all_repr {f : AV → Prop} {D : Nat} (ih : ∀ x, f x → ∃ p, toPy x = some p ∧ p.showable = true ∧ p.depth ≤ D ∧ p.shown.length ≤ wt x) : ∀ {xs : List AV}, (∀ x ∈ xs, f x) → ∃ ps, toPys xs = some ps ∧ PyData.showableAll ps = true ∧ PyData.depthAll ps ≤ D ∧ ((PyData.shownAll ps).map (·.length)).sum + 2 * (PyData.shownAll ps).length ≤ wts xs
  | [], _ => ⟨[], rfl, rfl, by simp [PyData.depthAll], by simp [PyData.shownAll, wts]⟩
  | x :: xs, h => by
    obtain ⟨p, e1, e2, e3, e4⟩ := ih x (h x (by simp))
    obtain ⟨ps, q1, q2, q3, q4⟩ := all_repr ih (xs := xs) fun y hy => h y (List.mem_cons_of_mem _ hy)
    refine ⟨p :: ps, by simp [toPys, e1, q1], by simp [PyData.showableAll, e2, q2], by simp only [PyData.depthAll]; omega, ?_⟩
    simp only [PyData.shownAll, List.map_cons, List.sum_cons, List.length_cons, wts] at q4 ⊢
    omega
theorem gd_repr {g : Nat} (hg : g ≤ 10) : ∀ {d : Nat} {v : AV}, gd g d v = true → ∃ p, toPy v = some p ∧ p.showable = true ∧ p.depth ≤ d + 1 ∧ p.shown.length ≤ wt v
  | 0, v, h => by
    obtain ⟨p, e1, e2, e3, e4⟩ := sc_repr hg (show sc g v = true from h)
    refine ⟨p, e1, e2, by omega, Nat.le_trans e4 ?_⟩
    cases v <;> first | (simp [wt]; done) | (simp [gd, sc] at h)
  | d + 1, v, h => by
    cases v
    case tup xs =>
      obtain ⟨d', e, hl, hx⟩ := gd_tup h
      cases e
      obtain ⟨ps, q1, q2, q3, q4⟩ := all_repr (D := d + 1) (fun x hx => gd_repr hg hx) hx
      refine ⟨.tuple ps, by simp [toPy, q1], by simpa [PyData.showable] using q2, by simp only [PyData.depth]; omega, ?_⟩
      have := tupleText_len_le (PyData.shownAll ps)
      show (tupleText (PyData.shownAll ps)).length ≤ wts xs + 3
      omega
    case lst xs =>
      obtain ⟨d', e, hl, hx⟩ := gd_lst h
      cases e
      obtain ⟨ps, q1, q2, q3, q4⟩ := all_repr (D := d + 1) (fun x hx => gd_repr hg hx) hx
      refine ⟨.list ps, by simp [toPy, q1], by simpa [PyData.showable] using q2, by simp only [PyData.depth]; omega, ?_⟩
      have := listText_len_le (PyData.shownAll ps)
      show (listText (PyData.shownAll ps)).length ≤ wts xs + 3
      omega
    all_goals
      simp only [gd] at h
      obtain ⟨p, e1, e2, e3, e4⟩ := sc_repr hg h
      exact ⟨p, e1, e2, by omega, e4⟩
theorem repr_some {g d : Nat} {v : AV} (hg : g ≤ 10) (hd : d ≤ 50) (h : gd g d v = true) (hw : wt v ≤ 1000000) : ∃ t, opRepr v = some t := by
  obtain ⟨p, e1, e2, e3, e4⟩ := gd_repr hg h
  refine ⟨p.shown, ?_⟩
  unfold opRepr
  rw [e1]
  show (if _ then _ else _) = _
  rw [if_pos ⟨e2, by omega, Nat.le_trans e4 (Nat.le_trans hw (by decide))⟩]
end S

set_option linter.all false
set_option maxRecDepth 100000
set_option maxHeartbeats 4000000
/-! SL: what the laws' own helpers come to: the state that is drawn from, odd things, bent things, drawn charts. -/
namespace S
open PySem G
/-- a state to draw from, at the cell n -/
def StOk (h : AH) (n : Nat) : Prop := ∃ a b c : Int, h[n]? = some (.lst [.int a, .int b, .int c]) ∧ 0 ≤ a ∧ 0 ≤ b ∧ b < 2147483648
/-- .. and all else as in h0 -/
structure StT (n : Nat) (h0 h : AH) : Prop where
  ok : StOk h n
  len : h.length = h0.length
  fr : ∀ m, m ≠ n → h[m]? = h0[m]?
theorem StT.refl {n : Nat} {h : AH} (s : StOk h n) : StT n h h := ⟨s, rfl, fun _ _ => rfl⟩
theorem at3_0 (x y z : AV) : L2.atI [x, y, z] 0 = some x := rfl
theorem at3_1 (x y z : AV) : L2.atI [x, y, z] 1 = some y := rfl
theorem at3_2 (x y z : AV) : L2.atI [x, y, z] 2 = some z := rfl
theorem ix3_0 : L2.ixN 3 0 = some 0 := rfl
theorem ix3_1 : L2.ixN 3 1 = some 1 := rfl
theorem ix3_2 : L2.ixN 3 2 = some 2 := rfl
theorem set_at {h : AH} {n : Nat} {c c' : Cell} (e : h[n]? = some c) : (h.set n c')[n]? = some c' := List.getElem?_set_self (List.getElem?_eq_some_iff.mp e).1
theorem StT.put {n : Nat} {h0 h : AH} {a b c : Int} (s : StT n h0 h) (ha : 0 ≤ a) (hb : 0 ≤ b) (hb2 : b < 2147483648) : StT n h0 (h.set n (.lst [.int a, .int b, .int c])) := by
  obtain ⟨_, _, _, e, _⟩ := s.ok
  exact ⟨⟨a, b, c, set_at e, ha, hb, hb2⟩, by rw [List.length_set, s.len], fun m hm => by rw [List.getElem?_set_ne (Ne.symm hm), s.fr m hm]⟩
def f_law_cell_at : Fn := ⟨2, 2, [(.ife (.e (.cmp .lt (.var 1) (.bi .len [(.var 0)]))) [(.ret (.sub (.var 0) (.var 1)))] []), (.ret (.c (.int 0)))]⟩
def f_law_state : Fn := ⟨3, 2, [(.set 2 (.call "_law_cell_at" [(.var 0), (.var 1)])), (.ret (.cell (.lst [(.bi .max [(.c (.int 0)), (.bin .sub (.var 2) (.bin .pow (.c (.int 10)) (.c (.int 18))))]), (.bin .add (.bin .mod (.var 2) (.c (.int 2147483629))) (.c (.int 1))), (.c (.int 0))])))]⟩
def f_law_choice : Fn := ⟨4, 2, [(.ife (.e (.cmp .gt (.sub (.var 0) (.c (.int 0))) (.c (.int 0)))) [(.set 3 (.bin .mod (.sub (.var 0) (.c (.int 0))) (.var 1))), (.sset (.var 0) (.c (.int 0)) (.bin .fdiv (.sub (.var 0) (.c (.int 0))) (.var 1))), (.ret (.var 3))] []), (.sset (.var 0) (.c (.int 2)) (.bin .add (.sub (.var 0) (.c (.int 2))) (.c (.int 1)))), (.sset (.var 0) (.c (.int 1)) (.bin .mod (.bin .add (.bin .add (.bin .mul (.sub (.var 0) (.c (.int 1))) (.c (.int 48271))) (.c (.int 29))) (.sub (.var 0) (.c (.int 2)))) (.c (.int 2147483647)))), (.set 2 (.bin .mod (.bin .add (.bin .add (.bin .mul (.sub (.var 0) (.c (.int 1))) (.sub (.var 0) (.c (.int 1)))) (.bin .mul (.c (.int 39373)) (.sub (.var 0) (.c (.int 1))))) (.c (.int 7))) (.c (.int 2147483629)))), (.set 2 (.bin .mod (.bin .add (.bin .mul (.var 2) (.var 2)) (.bin .mul (.c (.int 50021)) (.var 2))) (.c (.int 2147483587)))), (.ret (.bin .mod (.bin .fdiv (.var 2) (.c (.int 8))) (.var 1)))]⟩
def f_law_bent : Fn := ⟨5, 2, [(.ife (.and (.e (.isi (.var 1) [.tuple])) (.and (.e (.cmp .ne (.var 1) (.tup []))) (.e (.cmp .gt (.call "_law_choice" [(.var 0), (.c (.int 5))]) (.c (.int 0)))))) [(.set 3 (.call "_law_choice" [(.var 0), (.bi .len [(.var 1)])])), (.ret (.bin .add (.bin .add (.slice (.var 1) none (some (.var 3))) (.tup [(.call "_law_bent" [(.var 0), (.sub (.var 1) (.var 3))])])) (.slice (.var 1) (some (.bin .add (.var 3) (.c (.int 1)))) none)))] []), (.set 2 (.call "_law_choice" [(.var 0), (.c (.int 9))])), (.ife (.and (.e (.isi (.var 1) [.tuple])) (.e (.cmp .lt (.var 2) (.c (.int 7))))) [(.own 4 (.lst [(.bin .add (.var 1) (.slice (.var 1) (some (.neg (.c (.int 1)))) none)), (.slice (.var 1) none (some (.neg (.c (.int 1))))), (.slice (.var 1) (some (.c (.int 1))) none), (.rev (.var 1)), (.bi .list [(.var 1)]), (.bin .add (.var 1) (.tup [(.c (.int 0))]))])), (.app 4 (.bin .add (.var 1) (.tup [(.var 1)]))), (.ret (.sub (.var 4) (.var 2)))] []), (.ife (.and (.e (.call "_law_whole" [(.var 1)])) (.e (.cmp .lt (.var 2) (.c (.int 6))))) [(.ret (.bin .add (.var 1) (.sub (.lst [(.c (.int 1)), (.neg (.c (.int 1))), (.c (.int 2)), (.c (.int 9999)), (.neg (.c (.int 9999))), (.c (.int 5))]) (.var 2))))] []), (.ife (.and (.e (.isi (.var 1) [.str])) (.e (.cmp .lt (.var 2) (.c (.int 6))))) [(.ret (.sub (.lst [(.bin .add (.var 1) (.c (.str "a"))), (.slice (.var 1) none (some (.neg (.c (.int 1))))), (.upper (.var 1)), (.bin .add (.c (.str "G")) (.var 1)), (.bin .add (.var 1) (.c (.str " "))), (.c (.str "send"))]) (.var 2)))] []), (.ret (.call "_law_odd" [(.var 0)]))]⟩
def f_law_chart : Fn := ⟨6, 2, [(.asg (.tp [(.nm 2), (.nm 3)]) (.tup [(.call "_law_choice" [(.var 0), (.bin .add (.var 1) (.c (.int 1)))]), (.sub (.lst [(.c (.int 1)), (.c (.int 2)), (.c (.int 4)), (.c (.int 7))]) (.call "_law_choice" [(.var 0), (.c (.int 4))]))])), (.ret (.bi .tuple [(.comp (.cl (.nm 4) (.rg (.c (.int 0)) (.var 2)) [] (.elt (.bi .tuple [(.comp (.cl (.nm 5) (.rg (.c (.int 0)) (.var 2)) [(.e (.cmp .lt (.call "_law_choice" [(.var 0), (.c (.int 8))]) (.var 3)))] (.elt (.var 5))))]))))]))]⟩
def f_law_some : Fn := ⟨4, 2, [(.set 2 (.sub (.lst [(.c (.int 1)), (.c (.int 2)), (.c (.int 3))]) (.call "_law_choice" [(.var 0), (.c (.int 3))]))), (.ret (.bi .tuple [(.comp (.cl (.nm 3) (.rg (.c (.int 0)) (.var 1)) [(.e (.cmp .lt (.call "_law_choice" [(.var 0), (.c (.int 4))]) (.var 2)))] (.elt (.var 3))))]))]⟩
class Draw (T : Tab) : Prop where
  cell : T.lookup (Str.ofString "_law_cell_at") = some f_law_cell_at
  state : T.lookup (Str.ofString "_law_state") = some f_law_state
  choice : T.lookup (Str.ofString "_law_choice") = some f_law_choice
section
variable {T : Tab}
theorem c_choice [Draw T] {n : Nat} {h0 h : AH} (s : StT n h0 h) (k : Nat) {m : Int} (h1 : 1 ≤ m) (h2 : m < 1073741824) : Rs.Ok (callN T (k + 1) (Str.ofString "_law_choice") [.ref n, .int m] h) fun v h' => ∃ r, v = .int r ∧ 0 ≤ r ∧ r < m ∧ StT n h0 h' := by
  obtain ⟨a, b, c, e, ha, hb, hb2⟩ := s.ok
  rw [callN_step Draw.choice]
  refine w_run rfl ?_
  have hm : 0 < m := by omega
  by_cases hp : 0 < a
  · (try simp (disch := first | omega | assumption | (simp only [List.length_cons, List.length_nil, List.length_append, List.length_map]; omega) | decide) only [↓WA, WB, if_true, if_false, peek, hasTys, hasTy, wipeA, tgSlots, tgsSlots, cmpSlots, List.replicate, Nat.reduceAdd, Nat.reduceSub, Nat.reduceLT, Nat.reduceLeDiff, f_law_choice, sub_ref e, at3_0, ix3_0, hp, e])
    exact ⟨_, rfl, Int.emod_nonneg _ (by omega), Int.emod_lt_of_pos _ hm, s.put (Int.ediv_nonneg ha (by omega)) hb hb2⟩
  · have e1 : (h.set n (.lst [.int a, .int b, .int (c + 1)]))[n]? = some (.lst [.int a, .int b, .int (c + 1)]) := set_at e
    have e2 := set_at (c' := .lst [.int a, .int ((b * 48271 + 29 + (c + 1)) % 2147483647), .int (c + 1)]) e1
    have b0 : 0 ≤ (b * 48271 + 29 + (c + 1)) % 2147483647 := Int.emod_nonneg _ (by omega)
    have b1 : (b * 48271 + 29 + (c + 1)) % 2147483647 < 2147483647 := Int.emod_lt_of_pos _ (by omega)
    generalize hB : (b * 48271 + 29 + (c + 1)) % 2147483647 = B at e2 b0 b1
    have m0 : 0 ≤ (B * B + 39373 * B + 7) % 2147483629 := Int.emod_nonneg _ (by omega)
    have m1 : (B * B + 39373 * B + 7) % 2147483629 < 2147483629 := Int.emod_lt_of_pos _ (by omega)
    generalize hM : (B * B + 39373 * B + 7) % 2147483629 = M at m0 m1
    (try simp (disch := first | omega | assumption | (simp only [List.length_cons, List.length_nil, List.length_append, List.length_map]; omega) | decide) only [↓WA, WB, if_true, if_false, peek, hasTys, hasTy, wipeA, tgSlots, tgsSlots, cmpSlots, List.replicate, Nat.reduceAdd, Nat.reduceSub, Nat.reduceLT, Nat.reduceLeDiff, f_law_choice, sub_ref e, sub_ref e1, sub_ref e2, at3_0, at3_1, at3_2, ix3_1, ix3_2, hp, e, e1, e2, hB, hM, opB_mulL (i := b) (j := 48271) (show -(2 ^ 64) < b ∧ b < 2 ^ 64 by omega), opB_mulL (i := B) (j := B) (show -(2 ^ 64) < B ∧ B < 2 ^ 64 by omega), opB_mulL (i := 39373) (j := B) (by omega), opB_mulL (i := M) (j := M) (show -(2 ^ 64) < M ∧ M < 2 ^ 64 by omega), opB_mulL (i := 50021) (j := M) (by omega)])
    exact ⟨_, rfl, Int.emod_nonneg _ (by omega), Int.emod_lt_of_pos _ hm, (s.put (a := a) (b := b) (c := c + 1) ha hb hb2).put (a := a) (b := B) (c := c + 1) ha b0 (by omega)⟩
theorem c_cell_at [Draw T] (ns : List Int) (i : Nat) (k : Nat) (h : AH) : Rs.Ok (callN T (k + 1) (Str.ofString "_law_cell_at") [.scr ns, .int i] h) fun v h' => (∃ z, v = .int z) ∧ h' = h := by
  rw [callN_step Draw.cell]
  refine w_run rfl ?_
  (try simp (disch := first | omega | assumption | (simp only [List.length_cons, List.length_nil, List.length_append, List.length_map]; omega) | decide) only [↓WA, WB, if_true, if_false, peek, hasTys, hasTy, wipeA, tgSlots, tgsSlots, cmpSlots, List.replicate, Nat.reduceAdd, Nat.reduceSub, Nat.reduceLT, Nat.reduceLeDiff, f_law_cell_at])
  refine IfK_dec (fun hi => ?_) (fun hi => ?_) <;> (try simp (disch := first | omega | assumption | (simp only [List.length_cons, List.length_nil, List.length_append, List.length_map]; omega) | decide) only [↓WA, WB, if_true, if_false, peek, hasTys, hasTy, wipeA, tgSlots, tgsSlots, cmpSlots, List.replicate, Nat.reduceAdd, Nat.reduceSub, Nat.reduceLT, Nat.reduceLeDiff])
  · have hi : i < ns.length := by omega
    (try simp (disch := first | omega | assumption | (simp only [List.length_cons, List.length_nil, List.length_append, List.length_map]; omega) | decide) only [↓WA, WB, if_true, if_false, peek, hasTys, hasTy, wipeA, tgSlots, tgsSlots, cmpSlots, List.replicate, Nat.reduceAdd, Nat.reduceSub, Nat.reduceLT, Nat.reduceLeDiff, opSub, atI_nat hi])
    exact ⟨_, rfl⟩
  · (try simp (disch := first | omega | assumption | (simp only [List.length_cons, List.length_nil, List.length_append, List.length_map]; omega) | decide) only [↓WA, WB, if_true, if_false, peek, hasTys, hasTy, wipeA, tgSlots, tgsSlots, cmpSlots, List.replicate, Nat.reduceAdd, Nat.reduceSub, Nat.reduceLT, Nat.reduceLeDiff])
    exact ⟨_, rfl⟩
theorem opB_pow18 {h : AH} : opB .pow (.int 10) (.int 18) h = .ok (.int (10 ^ 18)) h := rfl
theorem opB_pow29 {h : AH} : opB .pow (.int 10) (.int 29) h = .ok (.int (10 ^ 29)) h := rfl
theorem c_state [Draw T] (ns : List Int) (i : Nat) (k : Nat) (h : AH) : Rs.Ok (callN T (k + 2) (Str.ofString "_law_state") [.scr ns, .int i] h) fun v h' => v = .ref h.length ∧ ∃ c, h' = h ++ [c] ∧ StT h.length h' h' := by
  rw [callN_step Draw.state]
  refine w_run rfl ?_
  (try simp (disch := first | omega | assumption | (simp only [List.length_cons, List.length_nil, List.length_append, List.length_map]; omega) | decide) only [↓WA, WB, if_true, if_false, peek, hasTys, hasTy, wipeA, tgSlots, tgsSlots, cmpSlots, List.replicate, Nat.reduceAdd, Nat.reduceSub, Nat.reduceLT, Nat.reduceLeDiff, f_law_state])
  refine (c_cell_at (T := T) ns i k h).mono fun v h1 ⟨⟨z, ev⟩, eh⟩ => ?_
  subst ev eh
  (try simp (disch := first | omega | assumption | (simp only [List.length_cons, List.length_nil, List.length_append, List.length_map]; omega) | decide) only [↓WA, WB, if_true, if_false, peek, hasTys, hasTy, wipeA, tgSlots, tgsSlots, cmpSlots, List.replicate, Nat.reduceAdd, Nat.reduceSub, Nat.reduceLT, Nat.reduceLeDiff, opB_pow18])
  exact ⟨_, rfl, .refl ⟨(if z - 10 ^ 18 > 0 then z - 10 ^ 18 else 0), z % 2147483629 + 1, 0, by simp, by split <;> omega, by omega, by omega⟩⟩

/-- a def that draws one of some things -/
def Odd (T : Tab) (L : List AV) : Prop := ∀ {n : Nat} {h0 h : AH}, StT n h0 h → ∀ k, Rs.Ok (callN T (k + 2) (Str.ofString "_law_odd") [.ref n] h) fun v h' => v ∈ L ∧ StT n h0 h'
theorem rg_at {α : Type} {xs : List α} {r : Int} (h0 : 0 ≤ r) (h1 : r < xs.length) : ∃ v, L2.atI xs r = some v ∧ v ∈ xs := atI_mem h0 h1
def f_oddA : Fn := ⟨2, 1, [(.set 1 (.lst [(.c .non), (.c (.bl true)), (.c (.bl false)), (.c (.int 0)), (.c (.int 1)), (.neg (.c (.int 1))), (.bin .pow (.c (.int 10)) (.c (.int 29))), (.c (.str "")), (.c (.str "a")), (.c (.str "G")), (.c (.str "tie")), (.tup []), (.lst []), (.dis [] []), (.tup [(.c (.int 0))]), (.lst [(.c (.int 0))]), (.tup [(.c .non)])])), (.set 1 (.cat (.var 1) (.lst [(.tup [(.tup [])]), (.c (.str "actor"))]))), (.ret (.sub (.cat (.var 1) (.lst [(.c (.str "show")), (.dis [(.inl 0)] [(.int 1)]), (.tup [(.c (.str "tie")), (.c (.int 0))]), (.tup [(.c (.int 0)), (.c (.int 1))])])) (.call "_law_choice" [(.var 0), (.c (.int 23))])))]⟩
def oddA : List AV := [.non, .bl true, .bl false, .int 0, .int 1, .int (-1), .int 100000000000000000000000000000, .str "", .str "a", .str "G", .str "tie", .tup [], .lst [], .dct [] [], .tup [.int 0], .lst [.int 0], .tup [.non], .tup [.tup []], .str "actor", .str "show", .dct [.int 0] [.int 1], .tup [.str "tie", .int 0], .tup [.int 0, .int 1]]
theorem odd_A [Draw T] (l : T.lookup (Str.ofString "_law_odd") = some f_oddA) : Odd T oddA := fun {n h0 h} s k => by
  rw [callN_step l]
  refine w_run rfl ?_
  (try simp (disch := first | omega | assumption | (simp only [List.length_cons, List.length_nil, List.length_append, List.length_map]; omega) | decide) only [↓WA, WB, if_true, if_false, peek, hasTys, hasTy, wipeA, tgSlots, tgsSlots, cmpSlots, List.replicate, Nat.reduceAdd, Nat.reduceSub, Nat.reduceLT, Nat.reduceLeDiff, f_oddA, opB_pow29, keyA])
  refine (c_choice (T := T) s k (m := 23) (by omega) (by omega)).mono fun v h1 ⟨r, ev, r0, r1, s1⟩ => ?_
  subst ev
  obtain ⟨v, e, m⟩ := atI_mem (α := AV) (xs := oddA) (r := r) r0 (by simpa [oddA] using r1)
  (try simp (disch := first | omega | assumption | (simp only [List.length_cons, List.length_nil, List.length_append, List.length_map]; omega) | decide) only [↓WA, WB, if_true, if_false, peek, hasTys, hasTy, wipeA, tgSlots, tgsSlots, cmpSlots, List.replicate, Nat.reduceAdd, Nat.reduceSub, Nat.reduceLT, Nat.reduceLeDiff])
  exact Ok_lift e ⟨m, s1⟩

theorem c_law_whole (l : T.lookup (Str.ofString "_law_whole") = some f_is_whole) (n : Nat) (v : AV) (h : AH) (hv : known v = true) : callN T (n + 1) (Str.ofString "_law_whole") [v] h = .ok (.bl (whole v)) h := by
  rw [callN_step l]
  refine Ok_eq (w_run rfl ?_)
  cases v <;> first | (simp [known] at hv; done) | (((try simp (disch := first | omega | assumption | (simp only [List.length_cons, List.length_nil, List.length_append, List.length_map]; omega) | decide) only [↓WA, WB, if_true, if_false, peek, hasTys, hasTy, wipeA, tgSlots, tgsSlots, cmpSlots, List.replicate, Nat.reduceAdd, Nat.reduceSub, Nat.reduceLT, Nat.reduceLeDiff, f_is_whole, whole])); try exact ⟨rfl, rfl⟩)
/-! ### bent things -/
/-- odd things are not too great -/
def OddOk (L : List AV) : Prop := ∀ v ∈ L, gd 0 2 v = true ∧ wt v ≤ 500
theorem oddOk_A : OddOk oddA := by
  have : oddA.all (fun v => gd 0 2 v && decide (wt v ≤ 500)) = true := by decide +kernel
  intro v hv
  have q := List.all_eq_true.mp this v hv
  simpa using q
structure Bends (T : Tab) (L : List AV) : Prop where
  d : Draw T
  odd : Odd T L
  ok : OddOk L
  whole : T.lookup (Str.ofString "_law_whole") = some f_is_whole
  bent : T.lookup (Str.ofString "_law_bent") = some f_law_bent
/-- what a bent thing is -/
def Bt (g d : Nat) (x : AV) (n : Nat) (h0 : AH) (y : AV) (h' : AH) : Prop := gd (g + 1) (d + 2) y = true ∧ wt y ≤ 2 * wt x + 1000 ∧ StT n h0 h'
def bentT : List Stm := f_law_bent.body.drop 1
variable {L : List AV} {g d n : Nat} {h0 h : AH} {x : AV}
theorem odd_bt (B : Bends T L) {v : AV} {h' : AH} (m : v ∈ L) (s : StT n h0 h') : Bt g d x n h0 v h' := by
  obtain ⟨h1, h2⟩ := B.ok v m
  exact ⟨gd_mono (by omega) (by omega) h1, by omega, s⟩
def okS (L : Nat) (x : Str) : Prop := x.cps.toList.length ≤ L ∧ ∀ c ∈ x.cps.toList, c < 128
theorem okS_sc {g d : Nat} {x : Str} : gd g d (.str x) = true ↔ okS (6 + g) x := by
  unfold okS
  cases d with
  | zero => simp only [gd, sc, Bool.and_eq_true, decide_eq_true_eq, List.all_eq_true]
  | succ d => simp only [gd, sc, Bool.and_eq_true, decide_eq_true_eq, List.all_eq_true]
theorem okS_app {a b : Nat} {x y : Str} (hx : okS a x) (hy : okS b y) : okS (a + b) (x ++ y) := by
  have e : (x ++ y).cps.toList = x.cps.toList ++ y.cps.toList := by
    show (x.cps ++ y.cps).toList = _
    simp
  unfold okS
  rw [e, List.length_append]
  refine ⟨by have := hx.1; have := hy.1; omega, fun c hc => ?_⟩
  rcases List.mem_append.mp hc with m | m
  · exact hx.2 c m
  · exact hy.2 c m
theorem okS_cut {a : Nat} {x : Str} (hx : okS a x) (lo hi : Option Int) : okS a (L2.cutS x lo hi) := by
  have e : (L2.cutS x lo hi).cps.toList = (x.cps.toList.drop (HT.sIx x.length 0 lo)).take (HT.sIx x.length x.length hi - HT.sIx x.length 0 lo) := by
    unfold L2.cutS
    simp
  unfold okS
  rw [e]
  refine ⟨?_, fun c hc => hx.2 c (List.mem_of_mem_drop (List.mem_of_mem_take hc))⟩
  rw [List.length_take, List.length_drop]
  have := hx.1
  omega
theorem okS_upper {a : Nat} {x : Str} (hx : okS a x) : okS a (Txt.upper x) := by
  rw [PyProof.Rows.upper_ascii hx.2]
  unfold okS
  simp only [Array.toList_map, List.length_map]
  refine ⟨hx.1, fun c hc => ?_⟩
  obtain ⟨b, hb, rfl⟩ := List.mem_map.mp hc
  have := hx.2 b hb
  unfold PyProof.Rows.up1
  split <;> omega
theorem okS_mono {a b : Nat} {y : Str} (q : okS a y) (l : a ≤ b) : okS b y := ⟨Nat.le_trans q.1 l, q.2⟩
theorem bent_tail (B : Bends T L) (hx : gd g d x = true) (hg : g ≤ 5) (s : StT n h0 h) (k : Nat) :
    Rs.Ok (evSs (callN T (k + 2)) bentT [.vl (.ref n), .vl x, .un, .un, .un] h) (retK (Bt g d x n h0)) := by
  haveI := B.d
  have ho := fun {h : AH} (s : StT n h0 h) => B.odd s k
  (try simp (disch := first | omega | assumption | (simp only [List.length_cons, List.length_nil, List.length_append, List.length_map]; omega) | decide) only [↓WA, WB, if_true, if_false, peek, hasTys, hasTy, wipeA, tgSlots, tgsSlots, cmpSlots, List.replicate, Nat.reduceAdd, Nat.reduceSub, Nat.reduceLT, Nat.reduceLeDiff, bentT, f_law_bent, List.drop_succ_cons, List.drop_zero])
  refine (c_choice (T := T) s (k + 1) (m := 9) (by omega) (by omega)).mono fun v h1 ⟨w, ev, w0, w1, s1⟩ => ?_
  subst ev
  have e3 := c_law_whole B.whole (k + 1) x h1 (gd_known hx)
  have hod : ∀ {h1 : AH}, StT n h0 h1 → Rs.Ok (callN T (k + 2) (Str.ofString "_law_odd") [.ref n] h1) (Bt g d x n h0) := fun s1 => (ho s1).mono fun v h2 ⟨m, s2⟩ => odd_bt B m s2
  cases x
  case tup xs =>
    obtain ⟨d', rfl, hl, hm⟩ := gd_tup hx
    (try simp (disch := first | omega | assumption | (simp only [List.length_cons, List.length_nil, List.length_append, List.length_map]; omega) | decide) only [↓WA, WB, if_true, if_false, peek, hasTys, hasTy, wipeA, tgSlots, tgsSlots, cmpSlots, List.replicate, Nat.reduceAdd, Nat.reduceSub, Nat.reduceLT, Nat.reduceLeDiff, e3, whole])
    refine IfK_dec (fun hw => ?_) (fun hw => ?_) <;> (try simp (disch := first | omega | assumption | (simp only [List.length_cons, List.length_nil, List.length_append, List.length_map]; omega) | decide) only [↓WA, WB, if_true, if_false, peek, hasTys, hasTy, wipeA, tgSlots, tgsSlots, cmpSlots, List.replicate, Nat.reduceAdd, Nat.reduceSub, Nat.reduceLT, Nat.reduceLeDiff])
    · have hcl : (cutL xs (some (-1)) none).length ≤ 1 := by
        unfold cutL
        have e : HT.sIx xs.length 0 (some (-1)) = (-1 + (xs.length : Int)).toNat := rfl
        rw [List.length_take, List.length_drop, e]
        omega
      have sz : sizeLine ≥ 1000 := sl1000
      (try simp (disch := first | omega | assumption | (simp only [List.length_cons, List.length_nil, List.length_append, List.length_map]; omega) | decide) only [↓WA, WB, if_true, if_false, peek, hasTys, hasTy, wipeA, tgSlots, tgsSlots, cmpSlots, List.replicate, Nat.reduceAdd, Nat.reduceSub, Nat.reduceLT, Nat.reduceLeDiff])
      obtain ⟨v, ev, mv⟩ := atI_mem (α := AV) (xs := [.tup (xs ++ cutL xs (some (-1)) none), .tup (cutL xs none (some (-1))), .tup (List.drop 1 xs), .tup xs.reverse, .lst xs, .tup (xs ++ [.int 0]), .tup (xs ++ [.tup xs])]) (r := w) w0 (by simpa using hw)
      refine Ok_lift ev ?_
      show Bt _ _ _ _ _ _ _
      have hm' : ∀ x ∈ xs, gd (g + 1) d' x = true := fun x q => gd_mono (by omega) (Nat.le_refl _) (hm x q)
      have hm2 : ∀ x ∈ xs, gd (g + 1) (d' + 2) x = true := fun x q => gd_mono (by omega) (by omega) (hm x q)
      have hself : gd (g + 1) (d' + 2) (.tup xs) = true := gd_mono (by omega) (by omega) hx
      have ok : ∀ ys : List AV, ys.length ≤ 13 + g → (∀ y ∈ ys, gd (g + 1) (d' + 2) y = true) → wts ys ≤ 2 * wts xs + 900 → Bt g (d' + 1) (.tup xs) n h0 (.tup ys) h1 := fun ys q1 q2 q3 => ⟨mk_tup (by omega) q2, by simp only [wt]; omega, s1⟩
      have w2 : ∀ lo hi, wts (cutL xs lo hi) ≤ wts xs := fun lo hi => wts_cut xs lo hi
      simp only [List.mem_cons, List.not_mem_nil, or_false] at mv
      rcases mv with rfl | rfl | rfl | rfl | rfl | rfl | rfl
      · refine ok _ (by rw [List.length_append]; omega) (fun y hy => ?_) (by rw [wts_append]; have := w2 (some (-1)) none; omega)
        rcases List.mem_append.mp hy with q | q
        · exact hm2 y q
        · exact hm2 y (cut_mem q)
      · exact ok _ (by have := cut_len xs none (some (-1)); omega) (fun y hy => hm2 y (cut_mem hy)) (by have := w2 none (some (-1)); omega)
      · exact ok _ (by rw [List.length_drop]; omega) (fun y hy => hm2 y (List.mem_of_mem_drop hy)) (by have := wts_drop xs 1; omega)
      · exact ok _ (by rw [List.length_reverse]; omega) (fun y hy => hm2 y (List.mem_reverse.mp hy)) (by rw [wts_rev]; omega)
      · exact ⟨mk_lst (by omega) hm2, by simp only [wt]; omega, s1⟩
      · refine ok _ (by rw [List.length_append]; simp; omega) (fun y hy => ?_) (by rw [wts_append]; simp only [wts, wt]; omega)
        rcases List.mem_append.mp hy with q | q
        · exact hm2 y q
        · simp only [List.mem_cons, List.not_mem_nil, or_false] at q
          subst q
          simp only [gd, sc, decide_eq_true_eq]
          omega
      · refine ok _ (by rw [List.length_append]; simp; omega) (fun y hy => ?_) (by rw [wts_append]; simp only [wts, wt]; omega)
        rcases List.mem_append.mp hy with q | q
        · exact hm2 y q
        · simp only [List.mem_cons, List.not_mem_nil, or_false] at q
          subst q
          exact hself
    · (try simp (disch := first | omega | assumption | (simp only [List.length_cons, List.length_nil, List.length_append, List.length_map]; omega) | decide) only [↓WA, WB, if_true, if_false, peek, hasTys, hasTy, wipeA, tgSlots, tgsSlots, cmpSlots, List.replicate, Nat.reduceAdd, Nat.reduceSub, Nat.reduceLT, Nat.reduceLeDiff, e3, whole])
      exact hod s1
  case int i =>
    (try simp (disch := first | omega | assumption | (simp only [List.length_cons, List.length_nil, List.length_append, List.length_map]; omega) | decide) only [↓WA, WB, if_true, if_false, peek, hasTys, hasTy, wipeA, tgSlots, tgsSlots, cmpSlots, List.replicate, Nat.reduceAdd, Nat.reduceSub, Nat.reduceLT, Nat.reduceLeDiff, e3, whole])
    refine IfK_dec (fun hw => ?_) (fun hw => ?_) <;> (try simp (disch := first | omega | assumption | (simp only [List.length_cons, List.length_nil, List.length_append, List.length_map]; omega) | decide) only [↓WA, WB, if_true, if_false, peek, hasTys, hasTy, wipeA, tgSlots, tgsSlots, cmpSlots, List.replicate, Nat.reduceAdd, Nat.reduceSub, Nat.reduceLT, Nat.reduceLeDiff])
    · (try simp (disch := first | omega | assumption | (simp only [List.length_cons, List.length_nil, List.length_append, List.length_map]; omega) | decide) only [↓WA, WB, if_true, if_false, peek, hasTys, hasTy, wipeA, tgSlots, tgsSlots, cmpSlots, List.replicate, Nat.reduceAdd, Nat.reduceSub, Nat.reduceLT, Nat.reduceLeDiff])
      obtain ⟨v, ev, mv⟩ := atI_mem (α := AV) (xs := [.int 1, .int (-1), .int 2, .int 9999, .int (-9999), .int 5]) (r := w) w0 (by simpa using hw)
      have hv : ∃ j : Int, v = .int j ∧ j.natAbs ≤ 9999 := by
        simp only [List.mem_cons, List.not_mem_nil, or_false] at mv
        rcases mv with rfl | rfl | rfl | rfl | rfl | rfl <;> exact ⟨_, rfl, by decide⟩
      obtain ⟨j, rfl, hj⟩ := hv
      refine Ok_lift ev ?_
      (try simp (disch := first | omega | assumption | (simp only [List.length_cons, List.length_nil, List.length_append, List.length_map]; omega) | decide) only [↓WA, WB, if_true, if_false, peek, hasTys, hasTy, wipeA, tgSlots, tgsSlots, cmpSlots, List.replicate, Nat.reduceAdd, Nat.reduceSub, Nat.reduceLT, Nat.reduceLeDiff])
      have hi : i.natAbs ≤ 10 ^ 29 + g * 10000 := by
        cases d with
        | zero => simpa [gd, sc] using hx
        | succ d => simpa [gd, sc] using hx
      refine ⟨?_, by simp [wt], s1⟩
      simp only [gd, sc, decide_eq_true_eq]
      omega
    · (try simp (disch := first | omega | assumption | (simp only [List.length_cons, List.length_nil, List.length_append, List.length_map]; omega) | decide) only [↓WA, WB, if_true, if_false, peek, hasTys, hasTy, wipeA, tgSlots, tgsSlots, cmpSlots, List.replicate, Nat.reduceAdd, Nat.reduceSub, Nat.reduceLT, Nat.reduceLeDiff])
      exact hod s1
  case str z =>
    (try simp (disch := first | omega | assumption | (simp only [List.length_cons, List.length_nil, List.length_append, List.length_map]; omega) | decide) only [↓WA, WB, if_true, if_false, peek, hasTys, hasTy, wipeA, tgSlots, tgsSlots, cmpSlots, List.replicate, Nat.reduceAdd, Nat.reduceSub, Nat.reduceLT, Nat.reduceLeDiff, e3, whole])
    have hz := okS_sc.mp hx
    have hl : z.length ≤ 11 := by
      rw [str_len]
      have := hz.1
      omega
    refine IfK_dec (fun hw => ?_) (fun hw => ?_) <;> (try simp (disch := first | omega | assumption | (simp only [List.length_cons, List.length_nil, List.length_append, List.length_map]; omega) | decide) only [↓WA, WB, if_true, if_false, peek, hasTys, hasTy, wipeA, tgSlots, tgsSlots, cmpSlots, List.replicate, Nat.reduceAdd, Nat.reduceSub, Nat.reduceLT, Nat.reduceLeDiff])
    · have b1 : opB .add (.str z) (.str "a") h1 = .ok (.str (z ++ "a")) h1 := opB_str (by
        have e : ("a" : Str).length = 1 := rfl
        rw [e]
        exact szle (by omega))
      have b2 : opB .add (.str "G") (.str z) h1 = .ok (.str ("G" ++ z)) h1 := opB_str (by
        have e : ("G" : Str).length = 1 := rfl
        rw [e]
        exact szle (by omega))
      have b3 : opB .add (.str z) (.str " ") h1 = .ok (.str (z ++ " ")) h1 := opB_str (by
        have e : (" " : Str).length = 1 := rfl
        rw [e]
        exact szle (by omega))
      have b4 : opSlice (.str z) none (some (-1)) h1 = some (.str (L2.cutS z none (some (-1)))) := if_pos (szle (by omega))
      have b5 : z.length ≤ 5592405 := by omega
      (try simp (disch := first | omega | assumption | (simp only [List.length_cons, List.length_nil, List.length_append, List.length_map]; omega) | decide) only [↓WA, WB, if_true, if_false, peek, hasTys, hasTy, wipeA, tgSlots, tgsSlots, cmpSlots, List.replicate, Nat.reduceAdd, Nat.reduceSub, Nat.reduceLT, Nat.reduceLeDiff, b1, b2, b3, b4, b5])
      obtain ⟨v, ev, mv⟩ := atI_mem (α := AV) (xs := [.str (z ++ "a"), .str (L2.cutS z none (some (-1))), .str (Txt.upper z), .str ("G" ++ z), .str (z ++ " "), .str "send"]) (r := w) w0 (by simpa using hw)
      refine Ok_lift ev ?_
      have o1 : okS 1 ("a" : Str) := ⟨by decide, by decide⟩
      have o2 : okS 1 ("G" : Str) := ⟨by decide, by decide⟩
      have o3 : okS 1 (" " : Str) := ⟨by decide, by decide⟩
      have o4 : okS 4 ("send" : Str) := ⟨by decide, by decide⟩
      have hv : ∃ y : Str, v = .str y ∧ okS (6 + (g + 1)) y := by
        simp only [List.mem_cons, List.not_mem_nil, or_false] at mv
        rcases mv with rfl | rfl | rfl | rfl | rfl | rfl
        · exact ⟨_, rfl, okS_mono (okS_app hz o1) (by omega)⟩
        · exact ⟨_, rfl, okS_mono (okS_cut hz _ _) (by omega)⟩
        · exact ⟨_, rfl, okS_mono (okS_upper hz) (by omega)⟩
        · exact ⟨_, rfl, okS_mono (okS_app o2 hz) (by omega)⟩
        · exact ⟨_, rfl, okS_mono (okS_app hz o3) (by omega)⟩
        · exact ⟨_, rfl, okS_mono o4 (by omega)⟩
      obtain ⟨y, rfl, hy⟩ := hv
      exact ⟨okS_sc.mpr hy, by simp [wt], s1⟩
    · (try simp (disch := first | omega | assumption | (simp only [List.length_cons, List.length_nil, List.length_append, List.length_map]; omega) | decide) only [↓WA, WB, if_true, if_false, peek, hasTys, hasTy, wipeA, tgSlots, tgsSlots, cmpSlots, List.replicate, Nat.reduceAdd, Nat.reduceSub, Nat.reduceLT, Nat.reduceLeDiff])
      exact hod s1
  all_goals
    first
      | (have := gd_known hx; simp [known] at this; done)
      | ((try simp (disch := first | omega | assumption | (simp only [List.length_cons, List.length_nil, List.length_append, List.length_map]; omega) | decide) only [↓WA, WB, if_true, if_false, peek, hasTys, hasTy, wipeA, tgSlots, tgsSlots, cmpSlots, List.replicate, Nat.reduceAdd, Nat.reduceSub, Nat.reduceLT, Nat.reduceLeDiff, e3, whole])
         exact hod s1)
theorem c_bent (B : Bends T L) (hg : g ≤ 5) : ∀ (d : Nat) (x : AV) (k : Nat) (h : AH), gd g d x = true → StT n h0 h → Rs.Ok (callN T (k + d + 3) (Str.ofString "_law_bent") [.ref n, x] h) (Bt g d x n h0) := by
  haveI := B.d
  intro d
  induction d with
  | zero =>
    intro x k h hx s
    rw [callN_step B.bent]
    refine w_run rfl ?_
    have hk := gd_known hx
    have tl := bent_tail B hx hg s k
    cases x <;> first | (simp [known] at hk; done) | (simp [gd, sc] at hx; done) | skip
    all_goals
      rw [show f_law_bent.body = f_law_bent.body.head (by decide) :: bentT from rfl]
      first | (((try simp (disch := first | omega | assumption | (simp only [List.length_cons, List.length_nil, List.length_append, List.length_map]; omega) | decide) only [↓WA, WB, if_true, if_false, peek, hasTys, hasTy, wipeA, tgSlots, tgsSlots, cmpSlots, List.replicate, Nat.reduceAdd, Nat.reduceSub, Nat.reduceLT, Nat.reduceLeDiff, f_law_bent, List.head_cons])); exact tl) | exact tl
  | succ d ih =>
    intro x k h hx s
    rw [show k + (d + 1) + 3 = (k + d + 3) + 1 by omega, callN_step B.bent]
    refine w_run rfl ?_
    have hk := gd_known hx
    have tl := fun (h : AH) (s : StT n h0 h) => bent_tail B hx hg s (k + d + 1)
    rw [show f_law_bent.body = f_law_bent.body.head (by decide) :: bentT from rfl]
    cases x <;> first | (simp [known] at hk; done) | skip
    case tup xs =>
      (try simp (disch := first | omega | assumption | (simp only [List.length_cons, List.length_nil, List.length_append, List.length_map]; omega) | decide) only [↓WA, WB, if_true, if_false, peek, hasTys, hasTy, wipeA, tgSlots, tgsSlots, cmpSlots, List.replicate, Nat.reduceAdd, Nat.reduceSub, Nat.reduceLT, Nat.reduceLeDiff, f_law_bent, List.head_cons])
      refine Br_of (fun he => ?_) (fun he => ?_) <;> (try simp (disch := first | omega | assumption | (simp only [List.length_cons, List.length_nil, List.length_append, List.length_map]; omega) | decide) only [↓WA, WB, if_true, if_false, peek, hasTys, hasTy, wipeA, tgSlots, tgsSlots, cmpSlots, List.replicate, Nat.reduceAdd, Nat.reduceSub, Nat.reduceLT, Nat.reduceLeDiff])
      · simp only [Bool.not_eq_true'] at he
        have hpos : 1 ≤ xs.length := by
          cases xs with
          | nil => simp at he
          | cons a b => simp
        (try simp (disch := first | omega | assumption | (simp only [List.length_cons, List.length_nil, List.length_append, List.length_map]; omega) | decide) only [↓WA, WB, if_true, if_false, peek, hasTys, hasTy, wipeA, tgSlots, tgsSlots, cmpSlots, List.replicate, Nat.reduceAdd, Nat.reduceSub, Nat.reduceLT, Nat.reduceLeDiff])
        refine (c_choice (T := T) s (k + d + 2) (m := 5) (by omega) (by omega)).mono fun v h1 ⟨r, ev, r0, r1, s1⟩ => ?_
        subst ev
        (try simp (disch := first | omega | assumption | (simp only [List.length_cons, List.length_nil, List.length_append, List.length_map]; omega) | decide) only [↓WA, WB, if_true, if_false, peek, hasTys, hasTy, wipeA, tgSlots, tgsSlots, cmpSlots, List.replicate, Nat.reduceAdd, Nat.reduceSub, Nat.reduceLT, Nat.reduceLeDiff])
        refine IfK_dec (fun hr => ?_) (fun hr => ?_) <;> (try simp (disch := first | omega | assumption | (simp only [List.length_cons, List.length_nil, List.length_append, List.length_map]; omega) | decide) only [↓WA, WB, if_true, if_false, peek, hasTys, hasTy, wipeA, tgSlots, tgsSlots, cmpSlots, List.replicate, Nat.reduceAdd, Nat.reduceSub, Nat.reduceLT, Nat.reduceLeDiff])
        · obtain ⟨d', ed, hl, hm⟩ := gd_tup hx
          cases ed
          (try simp (disch := first | omega | assumption | (simp only [List.length_cons, List.length_nil, List.length_append, List.length_map]; omega) | decide) only [↓WA, WB, if_true, if_false, peek, hasTys, hasTy, wipeA, tgSlots, tgsSlots, cmpSlots, List.replicate, Nat.reduceAdd, Nat.reduceSub, Nat.reduceLT, Nat.reduceLeDiff])
          refine (c_choice (T := T) s1 (k + d + 2) (m := xs.length) (by omega) (by omega)).mono fun v h2 ⟨a, ev, a0, a1, s2⟩ => ?_
          subst ev
          obtain ⟨A, rfl⟩ : ∃ A : Nat, a = A := ⟨a.toNat, by omega⟩
          have hA : A < xs.length := by omega
          (try simp (disch := first | omega | assumption | (simp only [List.length_cons, List.length_nil, List.length_append, List.length_map]; omega) | decide) only [↓WA, WB, if_true, if_false, peek, hasTys, hasTy, wipeA, tgSlots, tgsSlots, cmpSlots, List.replicate, Nat.reduceAdd, Nat.reduceSub, Nat.reduceLT, Nat.reduceLeDiff, cut_to, atI_nat hA])
          refine (ih xs[A] k h2 (hm _ (List.getElem_mem hA)) s2).mono fun y h3 ⟨y1, y2, s3⟩ => ?_
          have lt1 : (xs.take A).length ≤ A := by rw [List.length_take]; omega
          have lt2 : (xs.drop (A + 1)).length ≤ 20 := by rw [List.length_drop]; omega
          have f1 : opB .add (.tup (xs.take A)) (.tup [y]) h3 = .ok (.tup (xs.take A ++ [y])) h3 := opB_tup (szle (by simp only [List.length_cons, List.length_nil]; omega))
          have f2 : cutL xs (some ((A : Int) + 1)) none = xs.drop (A + 1) := by rw [show ((A : Int) + 1) = ((A + 1 : Nat) : Int) by omega, cut_from]
          have f3 : opB .add (.tup (xs.take A ++ [y])) (.tup (xs.drop (A + 1))) h3 = .ok (.tup (xs.take A ++ [y] ++ xs.drop (A + 1))) h3 := opB_tup (szle (by rw [List.length_append]; simp only [List.length_cons, List.length_nil]; omega))
          (try simp (disch := first | omega | assumption | (simp only [List.length_cons, List.length_nil, List.length_append, List.length_map]; omega) | decide) only [↓WA, WB, if_true, if_false, peek, hasTys, hasTy, wipeA, tgSlots, tgsSlots, cmpSlots, List.replicate, Nat.reduceAdd, Nat.reduceSub, Nat.reduceLT, Nat.reduceLeDiff, cut_to, f1, f2, f3])
          refine ⟨mk_tup ?_ ?_, ?_, s3⟩
          · simp only [List.length_append, List.length_take, List.length_drop, List.length_cons, List.length_nil]; omega
          · intro z hz
            rcases List.mem_append.mp hz with q | q
            · rcases List.mem_append.mp q with q | q
              · exact gd_mono (by omega) (by omega) (hm z (List.mem_of_mem_take q))
              · simp only [List.mem_cons, List.not_mem_nil, or_false] at q
                subst q
                exact y1
            · exact gd_mono (by omega) (by omega) (hm z (List.mem_of_mem_drop q))
          · have q1 := wts_split xs A
            rw [List.drop_eq_getElem_cons hA] at q1
            simp only [wt, wts_append, wts] at q1 y2 ⊢
            omega
        · first | (((try simp (disch := first | omega | assumption | (simp only [List.length_cons, List.length_nil, List.length_append, List.length_map]; omega) | decide) only [↓WA, WB, if_true, if_false, peek, hasTys, hasTy, wipeA, tgSlots, tgsSlots, cmpSlots, List.replicate, Nat.reduceAdd, Nat.reduceSub, Nat.reduceLT, Nat.reduceLeDiff])); exact tl h1 s1) | exact tl h1 s1
      · first | (((try simp (disch := first | omega | assumption | (simp only [List.length_cons, List.length_nil, List.length_append, List.length_map]; omega) | decide) only [↓WA, WB, if_true, if_false, peek, hasTys, hasTy, wipeA, tgSlots, tgsSlots, cmpSlots, List.replicate, Nat.reduceAdd, Nat.reduceSub, Nat.reduceLT, Nat.reduceLeDiff])); exact tl h s) | exact tl h s
    all_goals
      first | (((try simp (disch := first | omega | assumption | (simp only [List.length_cons, List.length_nil, List.length_append, List.length_map]; omega) | decide) only [↓WA, WB, if_true, if_false, peek, hasTys, hasTy, wipeA, tgSlots, tgsSlots, cmpSlots, List.replicate, Nat.reduceAdd, Nat.reduceSub, Nat.reduceLT, Nat.reduceLeDiff, f_law_bent, List.head_cons])); exact tl h s) | exact tl h s
end
end S

set_option linter.all false
set_option maxRecDepth 100000
set_option maxHeartbeats 4000000
/-! SD: drawn charts, drawn points. -/
namespace S
open PySem G
/-- ints below m -/
def InM (m : Nat) (ns : List Int) : Prop := ∀ z ∈ ns, 0 ≤ z ∧ z < (m : Int)
def Ris (ns : List Int) : Prop := ns.Pairwise (· < ·)
/-- points of a chart -/
structure Pt (m : Nat) (ns : List Int) : Prop where
  ins : InM m ns
  ris : Ris ns
def chV (R : List (List Int)) : AV := .tup (R.map tN)
def GoodC (R : List (List Int)) : Prop := ∀ r ∈ R, Pt R.length r
theorem rise_iff : ∀ ns : List Int, rise (ns.map AV.int) = true ↔ Ris ns
  | [] => by simp [rise, Ris]
  | [a] => by simp [rise, Ris]
  | a :: b :: r => by
    have ih := rise_iff (b :: r)
    simp only [List.map_cons, Ris] at ih ⊢
    rw [rise, Bool.and_eq_true, ih, List.pairwise_cons (a := a)]
    simp only [ltV, decide_eq_true_eq]
    constructor
    · rintro ⟨h1, h2⟩
      refine ⟨fun y hy => ?_, h2⟩
      rcases List.mem_cons.mp hy with e | e
      · subst e; exact h1
      · exact Int.lt_trans h1 ((List.pairwise_cons.mp h2).1 y e)
    · rintro ⟨h1, h2⟩
      exact ⟨h1 b (by simp), h2⟩
theorem within_all {m : Nat} : ∀ {xs : List AV}, xs.all (within 0 ((m : Int) - 1)) = true → ∃ ns : List Int, xs = ns.map AV.int ∧ InM m ns
  | [], _ => ⟨[], rfl, fun z hz => by simp at hz⟩
  | x :: xs, h => by
    rw [List.all_cons, Bool.and_eq_true] at h
    obtain ⟨i, rfl, h1, h2⟩ := within_int h.1
    obtain ⟨ns, rfl, hn⟩ := within_all h.2
    refine ⟨i :: ns, rfl, fun z hz => ?_⟩
    rcases List.mem_cons.mp hz with rfl | hz
    · omega
    · exact hn z hz
theorem all_within {m : Nat} {ns : List Int} (h : InM m ns) : (ns.map AV.int).all (within 0 ((m : Int) - 1)) = true := by
  rw [List.all_eq_true]
  intro x hx
  obtain ⟨z, hz, rfl⟩ := List.mem_map.mp hx
  have := h z hz
  simp only [within, decide_eq_true_eq]
  omega
theorem pts_iff {m : Nat} {v : AV} : pts m v = true ↔ ∃ ns : List Int, v = tN ns ∧ Pt m ns := by
  constructor
  · intro h
    cases v <;> first | (simp [pts] at h; done) | skip
    rename_i xs
    simp only [pts, Bool.and_eq_true] at h
    obtain ⟨ns, rfl, hn⟩ := within_all h.1
    exact ⟨ns, rfl, hn, (rise_iff ns).mp h.2⟩
  · rintro ⟨ns, rfl, h1, h2⟩
    simp only [pts, all_within h1, (rise_iff ns).mpr h2, Bool.and_self]
theorem chart_good {R : List (List Int)} (h : GoodC R) : chartB (chV R) = true := by
  simp only [chartB, chV, List.all_eq_true, List.length_map]
  intro r hr
  obtain ⟨ns, hn, rfl⟩ := List.mem_map.mp hr
  exact pts_iff.mpr ⟨ns, rfl, h ns hn⟩
theorem rise_len {m : Nat} : ∀ {ns : List Int} {lo : Int}, Ris ns → (∀ z ∈ ns, lo ≤ z ∧ z < m) → 0 ≤ lo → lo ≤ m → (ns.length : Int) ≤ m - lo
  | [], lo, _, _, _, h => by simp; omega
  | z :: zs, lo, hp, hr, h0, h1 => by
    unfold Ris at hp
    rw [List.pairwise_cons] at hp
    have hz := hr z (by simp)
    have := rise_len (ns := zs) (lo := z + 1) hp.2 (fun w hw => ⟨by have := hp.1 w hw; omega, (hr w (by simp [hw])).2⟩) (by omega) (by omega)
    simp only [List.length_cons]
    omega
theorem Pt.len {m : Nat} {ns : List Int} (p : Pt m ns) : ns.length ≤ m := by
  have := rise_len (m := m) (lo := 0) p.ris p.ins (by omega) (by omega)
  omega
theorem Pt.nil {m : Nat} : Pt m [] := ⟨fun _ h => by simp at h, .nil⟩
theorem Pt.sub {m : Nat} {ns ms : List Int} (p : Pt m ns) (s : ms.Sublist ns) : Pt m ms := ⟨fun z hz => p.ins z (s.subset hz), p.ris.sublist s⟩
theorem ints_gd {g : Nat} {ns : List Int} (h : ∀ z ∈ ns, z.natAbs ≤ 10 ^ 29 + g * 10000) : ∀ x ∈ ns.map AV.int, gd g 0 x = true := fun x hx => by
  obtain ⟨z, hz, rfl⟩ := List.mem_map.mp hx
  simp only [gd, sc, decide_eq_true_eq]
  exact h z hz
theorem wts_ints : ∀ ns : List Int, wts (ns.map AV.int) = ns.length * 202
  | [] => by simp [wts]
  | n :: ns => by simp only [List.map_cons, wts, wt, wts_ints ns, List.length_cons]; omega
theorem row_gd {m g : Nat} (hm : m ≤ 12 + g) {ns : List Int} (p : InM m ns) (l : ns.length ≤ 12 + g) : gd g 1 (tN ns) = true :=
  mk_tup (by simpa using l) (ints_gd fun z hz => by have := p z hz; omega)
theorem row_wt (ns : List Int) : wt (tN ns) = ns.length * 202 + 3 := by simp only [wt, wts_ints]
theorem wts_le {b : Nat} : ∀ {xs : List AV}, (∀ x ∈ xs, wt x ≤ b) → wts xs ≤ xs.length * (b + 2)
  | [], _ => by simp [wts]
  | x :: xs, h => by
    have h1 := h x (by simp)
    have h2 := wts_le (xs := xs) fun y hy => h y (List.mem_cons_of_mem _ hy)
    simp only [wts, List.length_cons, Nat.add_mul, Nat.one_mul]
    omega
theorem chart_gd {g : Nat} {R : List (List Int)} (h : GoodC R) (hl : R.length ≤ 12 + g) : gd g 2 (chV R) = true := by
  refine mk_tup (by simpa using hl) fun x hx => ?_
  obtain ⟨ns, hn, rfl⟩ := List.mem_map.mp hx
  exact row_gd hl (h ns hn).ins (Nat.le_trans (h ns hn).len hl)
theorem chart_wt {R : List (List Int)} (h : GoodC R) {m : Nat} (hl : R.length ≤ m) : wt (chV R) ≤ m * (m * 202 + 5) + 3 := by
  have : wts (R.map tN) ≤ (R.map tN).length * (m * 202 + 5) := wts_le (b := m * 202 + 3) fun x hx => by
    obtain ⟨ns, hn, rfl⟩ := List.mem_map.mp hx
    rw [row_wt]
    have := (h ns hn).len
    have := Nat.mul_le_mul_right 202 (Nat.le_trans this hl)
    omega
  simp only [chV, wt]
  rw [List.length_map] at this
  have h2 := Nat.mul_le_mul_right (m * 202 + 5) hl
  omega
section
variable {T : Tab} {n : Nat} {h0 h : AH}
theorem rangeA_ints (m : Nat) : rangeA 0 (m : Int) = ((List.range m).map fun (i : Nat) => (i : Int)).map AV.int := by
  unfold rangeA
  rw [List.map_map]
  simp only [Int.sub_zero, Int.toNat_natCast, Function.comp_def, Int.zero_add]
theorem range_pt (m : Nat) : Pt m ((List.range m).map fun (i : Nat) => (i : Int)) := by
  refine ⟨fun z hz => ?_, ?_⟩
  · obtain ⟨i, hi, rfl⟩ := List.mem_map.mp hz
    have := List.mem_range.mp hi
    omega
  · unfold Ris
    rw [List.pairwise_map]
    exact List.pairwise_lt_range.imp fun h => by omega
theorem sub_pt {m : Nat} {zs : List AV} (h : zs.Sublist (rangeA 0 (m : Int))) : ∃ ns, zs = ns.map AV.int ∧ Pt m ns := by
  rw [rangeA_ints] at h
  obtain ⟨ns, hns, rfl⟩ := List.sublist_map_iff.mp h
  exact ⟨ns, rfl, (range_pt m).sub hns⟩
/-- a comprehension that draws whether an item is taken -/
theorem w_drawn {tg : Tgt} {body : ASt → AH → Rs (List AV)} {σ : ASt} {xs : List AV} {Q : List AV → AH → Prop} (s : StT n h0 h)
    (hb : ∀ x ∈ xs, ∀ h, StT n h0 h → ∃ σ1, asgT tg x σ = some σ1 ∧ Rs.Ok (body σ1 h) fun ys h1 => (ys = [] ∨ ys = [x]) ∧ StT n h0 h1) (hd : ∀ ys h, ys.Sublist xs → StT n h0 h → Q ys h) : Rs.Ok (compL tg body xs σ h) Q := by
  refine w_comp (fun i acc h => acc.Sublist (xs.take i) ∧ StT n h0 h) ⟨by simp, s⟩ (fun i hi acc h ⟨q, s⟩ => ?_) (fun ys h ⟨q, s⟩ => hd ys h (by simpa using q) s)
  obtain ⟨σ1, e, p⟩ := hb xs[i] (List.getElem_mem hi) h s
  refine ⟨σ1, e, p.mono fun ys h1 ⟨e1, s1⟩ => ⟨?_, s1⟩⟩
  rw [List.take_succ_eq_append_getElem hi]
  rcases e1 with rfl | rfl
  · rw [List.append_nil]; exact q.trans (List.sublist_append_left _ _)
  · exact q.append (.refl _)
/-- one that makes a thing for each item -/
theorem w_each {α : Type} {tg : Tgt} {body : ASt → AH → Rs (List AV)} {σ : ASt} {xs : List AV} {Q : List AV → AH → Prop} (s : StT n h0 h) (F : α → AV) (P : α → Prop)
    (hb : ∀ x ∈ xs, ∀ h, StT n h0 h → ∃ σ1, asgT tg x σ = some σ1 ∧ Rs.Ok (body σ1 h) fun ys h1 => (∃ a, ys = [F a] ∧ P a) ∧ StT n h0 h1) (hd : ∀ (as : List α) h, as.length = xs.length → (∀ a ∈ as, P a) → StT n h0 h → Q (as.map F) h) : Rs.Ok (compL tg body xs σ h) Q := by
  refine w_comp (fun i acc h => ∃ as : List α, acc = as.map F ∧ as.length = i ∧ (∀ a ∈ as, P a) ∧ StT n h0 h) ⟨[], rfl, rfl, by simp, s⟩ (fun i hi acc h ⟨as, e1, e2, q, s⟩ => ?_) (fun ys h ⟨as, e1, e2, q, s⟩ => by subst e1; exact hd as h e2 q s)
  obtain ⟨σ1, e, p⟩ := hb xs[i] (List.getElem_mem hi) h s
  refine ⟨σ1, e, p.mono fun ys h1 ⟨⟨a, f1, f2⟩, s1⟩ => ⟨as ++ [a], by rw [e1, f1]; simp, by simp [e2], fun b hb => ?_, s1⟩⟩
  rcases List.mem_append.mp hb with hb | hb
  · exact q b hb
  · rw [List.mem_singleton.mp hb]; exact f2
theorem c_chart [Draw T] (l : T.lookup (Str.ofString "_law_chart") = some f_law_chart) (s : StT n h0 h) (k : Nat) {most : Nat} (hm : most ≤ 900) :
    Rs.Ok (callN T (k + 2) (Str.ofString "_law_chart") [.ref n, .int most] h) fun v h' => (∃ R, v = chV R ∧ GoodC R ∧ R.length ≤ most) ∧ StT n h0 h' := by
  rw [callN_step l]
  refine w_run rfl ?_
  (try simp (disch := first | omega | assumption | (simp only [List.length_cons, List.length_nil, List.length_append, List.length_map]; omega) | decide) only [↓WA, WB, if_true, if_false, peek, hasTys, hasTy, wipeA, tgSlots, tgsSlots, cmpSlots, List.replicate, Nat.reduceAdd, Nat.reduceSub, Nat.reduceLT, Nat.reduceLeDiff, f_law_chart])
  refine (c_choice (T := T) s k (m := most + 1) (by omega) (by omega)).mono fun v h1 ⟨m, ev, m0, m1, s1⟩ => ?_
  subst ev
  (try simp (disch := first | omega | assumption | (simp only [List.length_cons, List.length_nil, List.length_append, List.length_map]; omega) | decide) only [↓WA, WB, if_true, if_false, peek, hasTys, hasTy, wipeA, tgSlots, tgsSlots, cmpSlots, List.replicate, Nat.reduceAdd, Nat.reduceSub, Nat.reduceLT, Nat.reduceLeDiff])
  refine (c_choice (T := T) s1 k (m := 4) (by omega) (by omega)).mono fun v h2 ⟨q, ev, q0, q1, s2⟩ => ?_
  subst ev
  obtain ⟨w, ew, mw⟩ := atI_mem (α := AV) (xs := [.int 1, .int 2, .int 4, .int 7]) (r := q) q0 (by simpa using q1)
  have hw : ∃ z : Int, w = .int z := by
    simp only [List.mem_cons, List.not_mem_nil, or_false] at mw
    rcases mw with rfl | rfl | rfl | rfl <;> exact ⟨_, rfl⟩
  obtain ⟨z, rfl⟩ := hw
  obtain ⟨M, rfl⟩ : ∃ M : Nat, m = M := ⟨m.toNat, by omega⟩
  (try simp (disch := first | omega | assumption | (simp only [List.length_cons, List.length_nil, List.length_append, List.length_map]; omega) | decide) only [↓WA, WB, if_true, if_false, peek, hasTys, hasTy, wipeA, tgSlots, tgsSlots, cmpSlots, List.replicate, Nat.reduceAdd, Nat.reduceSub, Nat.reduceLT, Nat.reduceLeDiff, ew])
  refine ⟨by omega, ?_⟩
  refine w_each (α := List Int) s2 tN (Pt M) (fun x hx h s => ⟨_, asg_nm (by simp), ?_⟩) (fun as h3 hl hP s3 => ?_)
  · (try simp (disch := first | omega | assumption | (simp only [List.length_cons, List.length_nil, List.length_append, List.length_map]; omega) | decide) only [↓WA, WB, if_true, if_false, peek, hasTys, hasTy, wipeA, tgSlots, tgsSlots, cmpSlots, List.replicate, Nat.reduceAdd, Nat.reduceSub, Nat.reduceLT, Nat.reduceLeDiff, w_bodyC])
    refine ⟨by omega, ?_⟩
    refine w_drawn s (fun y hy h s => ⟨_, asg_nm (by simp), ?_⟩) (fun ys h4 hy s4 => ?_)
    · (try simp (disch := first | omega | assumption | (simp only [List.length_cons, List.length_nil, List.length_append, List.length_map]; omega) | decide) only [↓WA, WB, if_true, if_false, peek, hasTys, hasTy, wipeA, tgSlots, tgsSlots, cmpSlots, List.replicate, Nat.reduceAdd, Nat.reduceSub, Nat.reduceLT, Nat.reduceLeDiff, w_bodyC])
      refine (c_choice (T := T) s k (m := 8) (by omega) (by omega)).mono fun v h5 ⟨r, ev, r0, r1, s5⟩ => ?_
      subst ev
      (try simp (disch := first | omega | assumption | (simp only [List.length_cons, List.length_nil, List.length_append, List.length_map]; omega) | decide) only [↓WA, WB, if_true, if_false, peek, hasTys, hasTy, wipeA, tgSlots, tgsSlots, cmpSlots, List.replicate, Nat.reduceAdd, Nat.reduceSub, Nat.reduceLT, Nat.reduceLeDiff])
      refine Br_dec (fun hr => ?_) (fun hr => ?_) <;> (try simp (disch := first | omega | assumption | (simp only [List.length_cons, List.length_nil, List.length_append, List.length_map]; omega) | decide) only [↓WA, WB, if_true, if_false, peek, hasTys, hasTy, wipeA, tgSlots, tgsSlots, cmpSlots, List.replicate, Nat.reduceAdd, Nat.reduceSub, Nat.reduceLT, Nat.reduceLeDiff])
      · (try simp (disch := first | omega | assumption | (simp only [List.length_cons, List.length_nil, List.length_append, List.length_map]; omega) | decide) only [↓WA, WB, if_true, if_false, peek, hasTys, hasTy, wipeA, tgSlots, tgsSlots, cmpSlots, List.replicate, Nat.reduceAdd, Nat.reduceSub, Nat.reduceLT, Nat.reduceLeDiff]); exact ⟨by simp, s5⟩
      · (try simp (disch := first | omega | assumption | (simp only [List.length_cons, List.length_nil, List.length_append, List.length_map]; omega) | decide) only [↓WA, WB, if_true, if_false, peek, hasTys, hasTy, wipeA, tgSlots, tgsSlots, cmpSlots, List.replicate, Nat.reduceAdd, Nat.reduceSub, Nat.reduceLT, Nat.reduceLeDiff]); exact ⟨by simp, s5⟩
    · obtain ⟨ns, rfl, hp⟩ := sub_pt hy
      have := hp.len
      (try simp (disch := first | omega | assumption | (simp only [List.length_cons, List.length_nil, List.length_append, List.length_map]; omega) | decide) only [↓WA, WB, if_true, if_false, peek, hasTys, hasTy, wipeA, tgSlots, tgsSlots, cmpSlots, List.replicate, Nat.reduceAdd, Nat.reduceSub, Nat.reduceLT, Nat.reduceLeDiff])
      exact ⟨⟨ns, rfl, hp⟩, s4⟩
  · rw [rangeA_len] at hl
    (try simp (disch := first | omega | assumption | (simp only [List.length_cons, List.length_nil, List.length_append, List.length_map]; omega) | decide) only [↓WA, WB, if_true, if_false, peek, hasTys, hasTy, wipeA, tgSlots, tgsSlots, cmpSlots, List.replicate, Nat.reduceAdd, Nat.reduceSub, Nat.reduceLT, Nat.reduceLeDiff])
    exact ⟨⟨as, rfl, fun r hr => by rw [hl]; exact hP r hr, by omega⟩, s3⟩
theorem c_some [Draw T] (l : T.lookup (Str.ofString "_law_some") = some f_law_some) (s : StT n h0 h) (k : Nat) {M : Nat} (hm : M ≤ 900) :
    Rs.Ok (callN T (k + 2) (Str.ofString "_law_some") [.ref n, .int M] h) fun v h' => (∃ ns, v = tN ns ∧ Pt M ns) ∧ StT n h0 h' := by
  rw [callN_step l]
  refine w_run rfl ?_
  (try simp (disch := first | omega | assumption | (simp only [List.length_cons, List.length_nil, List.length_append, List.length_map]; omega) | decide) only [↓WA, WB, if_true, if_false, peek, hasTys, hasTy, wipeA, tgSlots, tgsSlots, cmpSlots, List.replicate, Nat.reduceAdd, Nat.reduceSub, Nat.reduceLT, Nat.reduceLeDiff, f_law_some])
  refine (c_choice (T := T) s k (m := 3) (by omega) (by omega)).mono fun v h2 ⟨q, ev, q0, q1, s2⟩ => ?_
  subst ev
  obtain ⟨w, ew, mw⟩ := atI_mem (α := AV) (xs := [.int 1, .int 2, .int 3]) (r := q) q0 (by simpa using q1)
  have hw : ∃ z : Int, w = .int z := by
    simp only [List.mem_cons, List.not_mem_nil, or_false] at mw
    rcases mw with rfl | rfl | rfl <;> exact ⟨_, rfl⟩
  obtain ⟨z, rfl⟩ := hw
  (try simp (disch := first | omega | assumption | (simp only [List.length_cons, List.length_nil, List.length_append, List.length_map]; omega) | decide) only [↓WA, WB, if_true, if_false, peek, hasTys, hasTy, wipeA, tgSlots, tgsSlots, cmpSlots, List.replicate, Nat.reduceAdd, Nat.reduceSub, Nat.reduceLT, Nat.reduceLeDiff, ew])
  refine ⟨by omega, ?_⟩
  refine w_drawn s2 (fun y hy h s => ⟨_, asg_nm (by simp), ?_⟩) (fun ys h4 hy s4 => ?_)
  · (try simp (disch := first | omega | assumption | (simp only [List.length_cons, List.length_nil, List.length_append, List.length_map]; omega) | decide) only [↓WA, WB, if_true, if_false, peek, hasTys, hasTy, wipeA, tgSlots, tgsSlots, cmpSlots, List.replicate, Nat.reduceAdd, Nat.reduceSub, Nat.reduceLT, Nat.reduceLeDiff, w_bodyC])
    refine (c_choice (T := T) s k (m := 4) (by omega) (by omega)).mono fun v h5 ⟨r, ev, r0, r1, s5⟩ => ?_
    subst ev
    (try simp (disch := first | omega | assumption | (simp only [List.length_cons, List.length_nil, List.length_append, List.length_map]; omega) | decide) only [↓WA, WB, if_true, if_false, peek, hasTys, hasTy, wipeA, tgSlots, tgsSlots, cmpSlots, List.replicate, Nat.reduceAdd, Nat.reduceSub, Nat.reduceLT, Nat.reduceLeDiff])
    refine Br_dec (fun hr => ?_) (fun hr => ?_) <;> (try simp (disch := first | omega | assumption | (simp only [List.length_cons, List.length_nil, List.length_append, List.length_map]; omega) | decide) only [↓WA, WB, if_true, if_false, peek, hasTys, hasTy, wipeA, tgSlots, tgsSlots, cmpSlots, List.replicate, Nat.reduceAdd, Nat.reduceSub, Nat.reduceLT, Nat.reduceLeDiff])
    · (try simp (disch := first | omega | assumption | (simp only [List.length_cons, List.length_nil, List.length_append, List.length_map]; omega) | decide) only [↓WA, WB, if_true, if_false, peek, hasTys, hasTy, wipeA, tgSlots, tgsSlots, cmpSlots, List.replicate, Nat.reduceAdd, Nat.reduceSub, Nat.reduceLT, Nat.reduceLeDiff]); exact ⟨by simp, s5⟩
    · (try simp (disch := first | omega | assumption | (simp only [List.length_cons, List.length_nil, List.length_append, List.length_map]; omega) | decide) only [↓WA, WB, if_true, if_false, peek, hasTys, hasTy, wipeA, tgSlots, tgsSlots, cmpSlots, List.replicate, Nat.reduceAdd, Nat.reduceSub, Nat.reduceLT, Nat.reduceLeDiff]); exact ⟨by simp, s5⟩
  · obtain ⟨ns, rfl, hp⟩ := sub_pt hy
    have := hp.len
    (try simp (disch := first | omega | assumption | (simp only [List.length_cons, List.length_nil, List.length_append, List.length_map]; omega) | decide) only [↓WA, WB, if_true, if_false, peek, hasTys, hasTy, wipeA, tgSlots, tgsSlots, cmpSlots, List.replicate, Nat.reduceAdd, Nat.reduceSub, Nat.reduceLT, Nat.reduceLeDiff])
    exact ⟨⟨ns, rfl, hp⟩, s4⟩
end
end S

set_option linter.all false
set_option maxRecDepth 100000
set_option maxHeartbeats 4000000
/-! SG: graphs: what the defs come to, in whatever table. -/
namespace S
open PySem G
def numB (p : AV) : Bool := within (-9999) 9999 p
def tieB (m : Nat) : AV → Bool
  | .tup [.str z, b] => (z == ("tie" : Str)) && within 0 ((m : Int) - 1) b
  | _ => false
/-- what a place adds; a row's sum; a box; a graph at most so deep: how many boxes in all -/
def plS (f : AV → Option Nat) (m : Nat) (p : AV) : Option Nat := if (numB p || tieB m p) = true then some 0 else f p
def sumO (f : AV → Option Nat) : List AV → Option Nat
  | [] => some 0
  | x :: xs => (f x).bind fun a => (sumO f xs).map fun b => a + b
def bxS (f : AV → Option Nat) (m : Nat) : AV → Option Nat
  | .tup ps => if ps.length = 3 then sumO (plS f m) ps else none
  | _ => none
def szO : Nat → AV → Option Nat
  | 0, _ => none
  | d + 1, v => match v with
    | .tup bs => if 1 ≤ bs.length ∧ bs.length ≤ 8 then (sumO (bxS (szO d) bs.length) bs).map fun s => bs.length + s else none
    | _ => none
def szV : Option Nat → AV
  | some n => .int n
  | none => .non
def grB (v : AV) : Bool := match szO 4 v with
  | some n => decide (n ≤ 24)
  | none => false
theorem sumO_snoc {f : AV → Option Nat} {x : AV} {b : Nat} (e2 : f x = some b) : ∀ {xs : List AV} {a : Nat}, sumO f xs = some a → sumO f (xs ++ [x]) = some (a + b)
  | [], a, e1 => by simp only [sumO, Option.some.injEq] at e1; subst e1; simp [sumO, e2]
  | y :: ys, a, e1 => by
    simp only [sumO, Option.bind_eq_some_iff, Option.map_eq_some_iff] at e1
    obtain ⟨c, h1, d, h2, rfl⟩ := e1
    simp only [List.cons_append, sumO, h1, sumO_snoc e2 h2, Option.bind_some, Option.map_some, Nat.add_assoc]
theorem sumO_take {f : AV → Option Nat} {xs : List AV} {i a b : Nat} (hi : i < xs.length) (e1 : sumO f (xs.take i) = some a) (e2 : f xs[i] = some b) : sumO f (xs.take (i + 1)) = some (a + b) := by
  rw [List.take_succ_eq_append_getElem hi]; exact sumO_snoc e2 e1
theorem sumO_none {f : AV → Option Nat} {x : AV} (e : f x = none) : ∀ {xs : List AV}, x ∈ xs → sumO f xs = none
  | y :: ys, h => by
    rcases List.mem_cons.mp h with q | q
    · subst q; simp [sumO, e]
    · simp only [sumO, sumO_none e q, Option.map_none]
      cases f y <;> rfl
theorem sumO_mem {f : AV → Option Nat} {x : AV} : ∀ {xs : List AV} {a : Nat}, sumO f xs = some a → x ∈ xs → ∃ b, f x = some b ∧ b ≤ a
  | y :: ys, a, e, h => by
    simp only [sumO, Option.bind_eq_some_iff, Option.map_eq_some_iff] at e
    obtain ⟨c, h1, d, h2, rfl⟩ := e
    rcases List.mem_cons.mp h with q | q
    · subst q; exact ⟨c, h1, by omega⟩
    · obtain ⟨b, h3, h4⟩ := sumO_mem h2 q; exact ⟨b, h3, by omega⟩
def f_is_number : Fn := ⟨1, 1, [(.ret (.call "is_within" [(.var 0), (.neg (.c (.int 9999))), (.c (.int 9999))]))]⟩
def f_is_tie : Fn := ⟨2, 2, [(.ife (.or (.not (.e (.isi (.var 0) [.tuple]))) (.or (.e (.cmp .ne (.bi .len [(.var 0)]) (.c (.int 2)))) (.not (.e (.isi (.sub (.var 0) (.c (.int 0))) [.str]))))) [(.ret (.c (.bl false)))] []), (.ret (.and (.cmp .eq (.sub (.var 0) (.c (.int 0))) (.c (.str "tie"))) (.call "is_within" [(.sub (.var 0) (.c (.int 1))), (.c (.int 0)), (.bin .sub (.var 1) (.c (.int 1)))])))]⟩
def f_size_of : Fn := ⟨6, 2, [(.ife (.or (.e (.cmp .eq (.var 1) (.c (.int 0)))) (.or (.not (.e (.isi (.var 0) [.tuple]))) (.not (.e (.chain .le .le (.c (.int 1)) (.bi .len [(.var 0)]) (.c (.int 8))))))) [(.ret (.c .non))] []), (.set 2 (.bi .len [(.var 0)])), (.for (.nm 3) (.sq (.var 0)) [(.ife (.or (.not (.e (.isi (.var 3) [.tuple]))) (.e (.cmp .ne (.bi .len [(.var 3)]) (.c (.int 3))))) [(.ret (.c .non))] []), (.for (.nm 4) (.sq (.var 3)) [(.ife (.and (.not (.e (.call "is_number" [(.var 4)]))) (.not (.e (.call "is_tie" [(.var 4), (.bi .len [(.var 0)])])))) [(.set 5 (.callK "size_of" [(.var 4), (.bin .sub (.var 1) (.c (.int 1)))] [0, 1])), (.ife (.e (.cmp .is (.var 5) (.c .non))) [(.ret (.c .non))] []), (.aug 2 .add (.var 5))] [])])]), (.ret (.var 2))]⟩
def f_is_graph : Fn := ⟨2, 1, [(.set 1 (.call "size_of" [(.var 0), (.c (.int 4))])), (.ret (.and (.cmp .isn (.var 1) (.c .non)) (.cmp .le (.var 1) (.c (.int 24)))))]⟩
def f_need_graph : Fn := ⟨1, 1, [(.ife (.not (.e (.call "is_graph" [(.var 0)]))) [.never] [])]⟩
def f_need_place : Fn := ⟨1, 1, [(.ife (.not (.e (.call "is_within" [(.var 0), (.c (.int 0)), (.bin .sub (.c (.int 3)) (.c (.int 1)))]))) [.never] [])]⟩
def f_need_both : Fn := ⟨2, 2, [(.expr (.call "need_graph" [(.var 0)])), (.expr (.call "need_place" [(.var 1)]))]⟩
def f_holds_graph : Fn := ⟨1, 1, [(.ret (.and (.isi (.var 0) [.tuple]) (.cmp .ne (.sub (.var 0) (.c (.int 0))) (.c (.str "tie")))))]⟩
def f_has_box : Fn := ⟨2, 2, [(.ret (.chain .le .lt (.c (.int 0)) (.var 1) (.bi .len [(.var 0)])))]⟩
def f_sort_of : Fn := ⟨3, 3, [(.ife (.not (.e (.call "has_box" [(.var 0), (.var 1)]))) [(.ret (.c (.int 3)))] []), (.ife (.e (.call "holds_graph" [(.sub (.sub (.var 0) (.var 1)) (.var 2))])) [(.ret (.c (.int 2)))] []), (.ret (.ife (.e (.isi (.sub (.sub (.var 0) (.var 1)) (.var 2)) [.tuple])) (.c (.int 1)) (.c (.int 0))))]⟩
def f_number_of : Fn := ⟨4, 3, [(.set 3 (.call "sort_of" [(.var 0), (.var 1), (.var 2)])), (.ife (.e (.cmp .eq (.var 3) (.c (.int 0)))) [(.ret (.sub (.sub (.var 0) (.var 1)) (.var 2)))] []), (.ret (.ife (.e (.cmp .eq (.var 3) (.c (.int 1)))) (.sub (.sub (.sub (.var 0) (.var 1)) (.var 2)) (.c (.int 1))) (.c (.int 0))))]⟩
def f_graph_of : Fn := ⟨3, 3, [(.ret (.ife (.e (.cmp .eq (.call "sort_of" [(.var 0), (.var 1), (.var 2)]) (.c (.int 2)))) (.sub (.sub (.var 0) (.var 1)) (.var 2)) (.c (.tup [(.tup [(.int 0), (.int 0), (.int 0)])]))))]⟩
def f_sort_at : Fn := ⟨3, 3, [(.expr (.call "need_both" [(.var 0), (.var 2)])), (.ret (.call "sort_of" [(.var 0), (.var 1), (.var 2)]))]⟩
def f_number_at : Fn := ⟨3, 3, [(.expr (.call "need_both" [(.var 0), (.var 2)])), (.ret (.call "number_of" [(.var 0), (.var 1), (.var 2)]))]⟩
def f_graph_at : Fn := ⟨3, 3, [(.expr (.call "need_both" [(.var 0), (.var 2)])), (.ret (.call "graph_of" [(.var 0), (.var 1), (.var 2)]))]⟩
def f_law_size : Fn := ⟨2, 1, [(.ret (.bin .add (.bi .len [(.var 0)]) (.bi .sum [(.comp (.cl (.nm 1) (.sq (.call "_law_inner" [(.var 0)])) [] (.elt (.call "_law_size" [(.var 1)]))))])))]⟩
def f_law_graph : Fn := ⟨12, 3, [(.set 3 (.bin .add (.c (.int 1)) (.call "_law_choice" [(.var 0), (.bi .min [(.c (.int 8)), (.var 2)])]))), (.parO 4 5 (.bin .sub (.var 2) (.var 3)) (.lst [])), (.for (.nm 6) (.rg (.c (.int 0)) (.var 3)) [(.own 7 (.lst [])), (.for (.nm 8) (.rg (.c (.int 0)) (.c (.int 3))) [(.par 9 10 (.call "_law_choice" [(.var 0), (.c (.int 8))]) (.tup [(.c (.str "tie")), (.call "_law_choice" [(.var 0), (.var 3)])])), (.set 11 (.sub (.lst [(.c (.int 0)), (.var 10), (.bin .sub (.call "_law_choice" [(.var 0), (.c (.int 19999))]) (.c (.int 9999))), (.sub (.lst [(.c (.int 9999)), (.neg (.c (.int 9999)))]) (.bin .mod (.var 6) (.c (.int 2))))]) (.bin .mod (.var 9) (.c (.int 4))))), (.ife (.and (.e (.cmp .gt (.var 9) (.c (.int 5)))) (.and (.e (.cmp .gt (.var 1) (.c (.int 1)))) (.e (.cmp .gt (.var 4) (.c (.int 0)))))) [(.set 11 (.call "_law_graph" [(.var 0), (.bin .sub (.var 1) (.c (.int 1))), (.bi .min [(.var 4), (.bin .add (.c (.int 1)) (.call "_law_choice" [(.var 0), (.c (.int 9))]))])])), (.set 4 (.bin .sub (.var 4) (.call "_law_size" [(.var 11)])))] []), (.app 7 (.var 11))]), (.app 5 (.bi .tuple [(.var 7)]))]), (.ret (.bi .tuple [(.var 5)]))]⟩
def f_law_some_graph : Fn := ⟨5, 1, [(.set 1 (.call "_law_choice" [(.var 0), (.c (.int 7))])), (.set 2 (.bi .tuple [(.comp (.cl (.nm 4) (.rg (.c (.int 0)) (.c (.int 8))) [] (.elt (.tup [(.var 4), (.tup [(.c (.str "tie")), (.var 4)]), (.c (.int 0))]))))])), (.ife (.e (.cmp .eq (.var 1) (.c (.int 0)))) [(.ret (.tup [(.tup [(.c (.int 0)), (.c (.int 0)), (.c (.int 0))])]))] []), (.ife (.e (.cmp .eq (.var 1) (.c (.int 1)))) [(.ret (.bi .tuple [(.comp (.cl (.nm 4) (.rg (.c (.int 0)) (.c (.int 8))) [] (.elt (.tup [(.sub (.lst [(.var 2), (.var 2), (.c (.int 0)), (.neg (.c (.int 1)))]) (.bi .min [(.var 4), (.c (.int 3))])), (.var 4), (.tup [(.c (.str "tie")), (.bin .sub (.c (.int 7)) (.var 4))])]))))]))] []), (.ife (.e (.cmp .eq (.var 1) (.c (.int 2)))) [(.ret (.tup [(.tup [(.var 2), (.var 2), (.slice (.var 2) none (some (.c (.int 7))))])]))] []), (.ife (.e (.cmp .eq (.var 1) (.c (.int 3)))) [(.set 3 (.tup [(.tup [(.c (.int 5)), (.c (.int 0)), (.c (.int 0))])])), (.for (.nm 4) (.rg (.c (.int 0)) (.c (.int 3))) [(.set 3 (.tup [(.tup [(.var 3), (.tup [(.c (.str "tie")), (.c (.int 0))]), (.var 4)])]))]), (.ret (.var 3))] []), (.ret (.call "_law_graph" [(.var 0), (.bin .add (.c (.int 1)) (.call "_law_choice" [(.var 0), (.c (.int 4))])), (.sub (.lst [(.c (.int 3)), (.c (.int 8)), (.c (.int 24))]) (.bin .sub (.var 1) (.c (.int 4))))]))]⟩
def f_law_inner : Fn := ⟨4, 1, [(.set 1 (.lst [])), (.for (.nm 2) (.sq (.var 0)) [(.set 1 (.cat (.var 1) (.comp (.cl (.nm 3) (.sq (.var 2)) [(.and (.e (.isi (.var 3) [.tuple])) (.e (.cmp .ne (.sub (.var 3) (.c (.int 0))) (.c (.str "tie")))))] (.elt (.var 3))))))]), (.ret (.var 1))]⟩
class Graphs (T : Tab) : Prop extends Core T where
  is_number : T.lookup (Str.ofString "is_number") = some f_is_number
  is_tie : T.lookup (Str.ofString "is_tie") = some f_is_tie
  size_of : T.lookup (Str.ofString "size_of") = some f_size_of
  is_graph : T.lookup (Str.ofString "is_graph") = some f_is_graph
  need_graph : T.lookup (Str.ofString "need_graph") = some f_need_graph
  need_place : T.lookup (Str.ofString "need_place") = some f_need_place
  need_both : T.lookup (Str.ofString "need_both") = some f_need_both
section
variable {T : Tab}
theorem d22 : decide (((2 : Nat) : Int) = 2) = true := by decide
theorem c_is_number [Graphs T] (n : Nat) (v : AV) (h : AH) (hv : known v = true) : callN T (n + 3) (Str.ofString "is_number") [v] h = .ok (.bl (numB v)) h := by
  rw [callN_step Graphs.is_number]
  refine Ok_eq (w_run rfl ?_)
  have e := c_is_within (T := T) n v (-9999) 9999 h hv
  (try simp (disch := first | omega | assumption | (simp only [List.length_cons, List.length_nil, List.length_append, List.length_map]; omega) | decide) only [↓WA, WB, if_true, if_false, peek, hasTys, hasTy, wipeA, tgSlots, tgsSlots, cmpSlots, List.replicate, Nat.reduceAdd, Nat.reduceSub, Nat.reduceLT, Nat.reduceLeDiff, f_is_number, e, numB])
theorem c_is_tie [Graphs T] (n : Nat) (v : AV) (m : Nat) (h : AH) (hv : knownT v = true) : callN T (n + 3) (Str.ofString "is_tie") [v, .int m] h = .ok (.bl (tieB m v)) h := by
  rw [callN_step Graphs.is_tie]
  refine Ok_eq (w_run rfl ?_)
  cases v <;> first | (simp [knownT, known] at hv; done) | skip
  case tup xs =>
    simp only [knownT, Bool.and_eq_true, List.all_eq_true, decide_eq_true_eq] at hv
    by_cases hl : xs.length = 2
    · obtain ⟨a, b, rfl⟩ : ∃ a b, xs = [a, b] := by
        match xs, hl with
        | [a, b], _ => exact ⟨a, b, rfl⟩
      have ha := hv.1 a (by simp)
      have hb := hv.1 b (by simp)
      have e := c_is_within (T := T) n b 0 ((m : Int) - 1) h hb
      cases a <;> first | (simp [known] at ha; done) | skip
      case str z =>
        (try simp (disch := first | omega | assumption | (simp only [List.length_cons, List.length_nil, List.length_append, List.length_map]; omega) | decide) only [↓WA, WB, if_true, if_false, peek, hasTys, hasTy, wipeA, tgSlots, tgsSlots, cmpSlots, List.replicate, Nat.reduceAdd, Nat.reduceSub, Nat.reduceLT, Nat.reduceLeDiff, f_is_tie, tieB, e, d22])
        refine Br_of (fun hz => ?_) (fun hz => ?_) <;> (try simp (disch := first | omega | assumption | (simp only [List.length_cons, List.length_nil, List.length_append, List.length_map]; omega) | decide) only [↓WA, WB, if_true, if_false, peek, hasTys, hasTy, wipeA, tgSlots, tgsSlots, cmpSlots, List.replicate, Nat.reduceAdd, Nat.reduceSub, Nat.reduceLT, Nat.reduceLeDiff, e, hz])
      all_goals ((try simp (disch := first | omega | assumption | (simp only [List.length_cons, List.length_nil, List.length_append, List.length_map]; omega) | decide) only [↓WA, WB, if_true, if_false, peek, hasTys, hasTy, wipeA, tgSlots, tgsSlots, cmpSlots, List.replicate, Nat.reduceAdd, Nat.reduceSub, Nat.reduceLT, Nat.reduceLeDiff, f_is_tie, tieB, d22]); try exact ⟨rfl, rfl⟩)
    · have hl' : decide ((xs.length : Int) = 2) = false := decide_eq_false (by omega)
      have ht : tieB m (.tup xs) = false := by
        match xs, hl with
        | [], _ => rfl
        | [_], _ => simp [tieB]
        | [_, _], h => exact absurd rfl h
        | _ :: _ :: _ :: _, _ => simp [tieB]
      (try simp (disch := first | omega | assumption | (simp only [List.length_cons, List.length_nil, List.length_append, List.length_map]; omega) | decide) only [↓WA, WB, if_true, if_false, peek, hasTys, hasTy, wipeA, tgSlots, tgsSlots, cmpSlots, List.replicate, Nat.reduceAdd, Nat.reduceSub, Nat.reduceLT, Nat.reduceLeDiff, f_is_tie, hl', ht])
  all_goals ((try simp (disch := first | omega | assumption | (simp only [List.length_cons, List.length_nil, List.length_append, List.length_map]; omega) | decide) only [↓WA, WB, if_true, if_false, peek, hasTys, hasTy, wipeA, tgSlots, tgsSlots, cmpSlots, List.replicate, Nat.reduceAdd, Nat.reduceSub, Nat.reduceLT, Nat.reduceLeDiff, f_is_tie, tieB]); try exact ⟨rfl, rfl⟩)
theorem d00 : decide (((0 : Nat) : Int) = 0) = true := by decide
theorem c_size_of [Graphs T] {g : Nat} (hg : g ≤ 10) : ∀ (d k : Nat) (v : AV) (D : Nat) (h : AH), gd g D v = true → callN T (k + d + 4) (Str.ofString "size_of") [v, .int d] h = .ok (szV (szO d v)) h
  | 0, k, v, D, h, hv => by
    rw [callN_step Graphs.size_of]
    refine Ok_eq (w_run rfl ?_)
    (try simp (disch := first | omega | assumption | (simp only [List.length_cons, List.length_nil, List.length_append, List.length_map]; omega) | decide) only [↓WA, WB, if_true, if_false, peek, hasTys, hasTy, wipeA, tgSlots, tgsSlots, cmpSlots, List.replicate, Nat.reduceAdd, Nat.reduceSub, Nat.reduceLT, Nat.reduceLeDiff, f_size_of, szO, szV, d00])
  | d + 1, k, v, D, h, hv => by
    rw [callN_step Graphs.size_of]
    refine Ok_eq (w_run rfl ?_)
    have hd : decide (((d + 1 : Nat) : Int) = 0) = false := decide_eq_false (by omega)
    have hkn := gd_known hv
    cases v <;> first | (simp [known] at hkn; done) | skip
    case tup bs =>
      obtain ⟨D', rfl, hl, hm⟩ := gd_tup hv
      have hs : szO (d + 1) (.tup bs) = if 1 ≤ bs.length ∧ bs.length ≤ 8 then (sumO (bxS (szO d) bs.length) bs).map fun s => bs.length + s else none := rfl
      (try simp (disch := first | omega | assumption | (simp only [List.length_cons, List.length_nil, List.length_append, List.length_map]; omega) | decide) only [↓WA, WB, if_true, if_false, peek, hasTys, hasTy, wipeA, tgSlots, tgsSlots, cmpSlots, List.replicate, Nat.reduceAdd, Nat.reduceSub, Nat.reduceLT, Nat.reduceLeDiff, f_size_of, hd])
      refine Br_dec (fun h1 => ?_) (fun h1 => ?_) <;> (try simp (disch := first | omega | assumption | (simp only [List.length_cons, List.length_nil, List.length_append, List.length_map]; omega) | decide) only [↓WA, WB, if_true, if_false, peek, hasTys, hasTy, wipeA, tgSlots, tgsSlots, cmpSlots, List.replicate, Nat.reduceAdd, Nat.reduceSub, Nat.reduceLT, Nat.reduceLeDiff])
      · refine IfK_of (fun h2 => ?_) (fun h2 => ?_) <;> (try simp (disch := first | omega | assumption | (simp only [List.length_cons, List.length_nil, List.length_append, List.length_map]; omega) | decide) only [↓WA, WB, if_true, if_false, peek, hasTys, hasTy, wipeA, tgSlots, tgsSlots, cmpSlots, List.replicate, Nat.reduceAdd, Nat.reduceSub, Nat.reduceLT, Nat.reduceLeDiff])
        · rw [hs, if_neg (by simp at h2; omega)]
          exact rfl
        · have hc : 1 ≤ bs.length ∧ bs.length ≤ 8 := by simp at h2; omega
          rw [if_pos hc] at hs
          refine w_for (fun i σ h' => h' = h ∧ ∃ s a3 a4 a5, sumO (bxS (szO d) bs.length) (bs.take i) = some s ∧ σ = [.vl (.tup bs), .vl (.int (d + 1 : Nat)), .vl (.int (bs.length + s : Nat)), a3, a4, a5]) ⟨rfl, 0, _, _, _, rfl, rfl⟩ (fun i hi σ h' ⟨eh, s, a3, a4, a5, e1, eσ⟩ => ?_) (fun σ h' ⟨eh, s, a3, a4, a5, e1, eσ⟩ => ?_)
          · subst eh eσ
            refine ⟨_, asg_nm (by simp), ?_⟩
            have hb := hm bs[i] (List.getElem_mem hi)
            have hbm : bs[i] ∈ bs := List.getElem_mem hi
            generalize hbi : bs[i] = b at hb hbm
            refine Rs.Ok.mono (P := fun fl h2 => h2 = h' ∧ ((∃ a x4 x5, bxS (szO d) bs.length b = some a ∧ fl = .nx [.vl (.tup bs), .vl (.int (d + 1 : Nat)), .vl (.int (bs.length + s + a : Nat)), .vl b, x4, x5]) ∨ (bxS (szO d) bs.length b = none ∧ fl = .rt .non))) ?_ (fun fl h2 ⟨eh, q⟩ => ?_)
            · have hkb := gd_known hb
              cases b <;> first | (simp [known] at hkb; done) | skip
              case tup ps =>
                obtain ⟨D2, rfl, hl2, hm2⟩ := gd_tup hb
                have hx : bxS (szO d) bs.length (.tup ps) = if ps.length = 3 then sumO (plS (szO d) bs.length) ps else none := rfl
                by_cases h3 : ps.length = 3
                · have h3' : decide ((ps.length : Int) = 3) = true := decide_eq_true (by omega)
                  rw [if_pos h3] at hx
                  (try simp (disch := first | omega | assumption | (simp only [List.length_cons, List.length_nil, List.length_append, List.length_map]; omega) | decide) only [↓WA, WB, if_true, if_false, peek, hasTys, hasTy, wipeA, tgSlots, tgsSlots, cmpSlots, List.replicate, Nat.reduceAdd, Nat.reduceSub, Nat.reduceLT, Nat.reduceLeDiff, h3'])
                  refine w_for (fun j σ h3 => h3 = h' ∧ ∃ a x4 x5, sumO (plS (szO d) bs.length) (ps.take j) = some a ∧ σ = [.vl (.tup bs), .vl (.int (d + 1 : Nat)), .vl (.int (bs.length + s + a : Nat)), .vl (.tup ps), x4, x5]) ⟨rfl, 0, _, _, rfl, rfl⟩ (fun j hj σ h3 ⟨eh, a, x4, x5, f1, eσ⟩ => ?_) (fun σ h3 ⟨eh, a, x4, x5, f1, eσ⟩ => ?_)
                  · subst eh eσ
                    refine ⟨_, asg_nm (by simp), ?_⟩
                    have hp := hm2 ps[j] (List.getElem_mem hj)
                    have hpm : ps[j] ∈ ps := List.getElem_mem hj
                    generalize hpj : ps[j] = q at hp hpm
                    have q1 : callN T (k + (d + 1) + 3) (Str.ofString "is_number") [q] h3 = _ := c_is_number (k + d + 1) q h3 (gd_known hp)
                    have q2 : callN T (k + (d + 1) + 3) (Str.ofString "is_tie") [q, .int bs.length] h3 = _ := c_is_tie (k + d + 1) q bs.length h3 (gd_knownT hg hp)
                    have q3 : callN T (k + (d + 1) + 3) (Str.ofString "size_of") [q, .int d] h3 = _ := c_size_of hg d k q D2 h3 hp
                    have q4 : ((d + 1 : Nat) : Int) - 1 = d := by omega
                    have hq : plS (szO d) bs.length q = if (numB q || tieB bs.length q) = true then some 0 else szO d q := rfl
                    (try simp (disch := first | omega | assumption | (simp only [List.length_cons, List.length_nil, List.length_append, List.length_map]; omega) | decide) only [↓WA, WB, if_true, if_false, peek, hasTys, hasTy, wipeA, tgSlots, tgsSlots, cmpSlots, List.replicate, Nat.reduceAdd, Nat.reduceSub, Nat.reduceLT, Nat.reduceLeDiff, q1, q2, q3, q4])
                    have hnone : szO d q = none → numB q = false → tieB bs.length q = false → bxS (szO d) bs.length (.tup ps) = none := fun c1 c2 c3 => by
                      rw [hx]
                      exact sumO_none (by rw [hq, c2, c3]; exact c1) hpm
                    have hsome : ∀ c, plS (szO d) bs.length q = some c → sumO (plS (szO d) bs.length) (ps.take (j + 1)) = some (a + c) := fun c hc => sumO_take hj f1 (by rw [hpj]; exact hc)
                    refine Br_of (fun n1 => ?_) (fun n1 => ?_) <;> (try simp (disch := first | omega | assumption | (simp only [List.length_cons, List.length_nil, List.length_append, List.length_map]; omega) | decide) only [↓WA, WB, if_true, if_false, peek, hasTys, hasTy, wipeA, tgSlots, tgsSlots, cmpSlots, List.replicate, Nat.reduceAdd, Nat.reduceSub, Nat.reduceLT, Nat.reduceLeDiff, q2])
                    · simp only [Bool.not_eq_true'] at n1
                      refine IfK_of (fun n2 => ?_) (fun n2 => ?_) <;> (try simp (disch := first | omega | assumption | (simp only [List.length_cons, List.length_nil, List.length_append, List.length_map]; omega) | decide) only [↓WA, WB, if_true, if_false, peek, hasTys, hasTy, wipeA, tgSlots, tgsSlots, cmpSlots, List.replicate, Nat.reduceAdd, Nat.reduceSub, Nat.reduceLT, Nat.reduceLeDiff, q3, q4])
                      · simp only [Bool.not_eq_true'] at n2
                        cases hz : szO d q with
                        | none =>
                          (try simp (disch := first | omega | assumption | (simp only [List.length_cons, List.length_nil, List.length_append, List.length_map]; omega) | decide) only [↓WA, WB, if_true, if_false, peek, hasTys, hasTy, wipeA, tgSlots, tgsSlots, cmpSlots, List.replicate, Nat.reduceAdd, Nat.reduceSub, Nat.reduceLT, Nat.reduceLeDiff, szV])
                          exact .inr (hnone hz n1 n2)
                        | some c =>
                          (try simp (disch := first | omega | assumption | (simp only [List.length_cons, List.length_nil, List.length_append, List.length_map]; omega) | decide) only [↓WA, WB, if_true, if_false, peek, hasTys, hasTy, wipeA, tgSlots, tgsSlots, cmpSlots, List.replicate, Nat.reduceAdd, Nat.reduceSub, Nat.reduceLT, Nat.reduceLeDiff, szV])
                          have e5 := hsome c (by rw [hq, n1, n2]; exact hz)
                          exact ⟨a + c, .vl q, .vl (.int c), e5, by simp only [Int.natCast_add, Int.add_assoc]⟩
                      · simp only [Bool.not_eq_false'] at n2
                        have e5 := hsome 0 (by rw [hq, n2]; simp)
                        exact ⟨a, _, _, e5, rfl⟩
                    · simp only [Bool.not_eq_false'] at n1
                      have e5 := hsome 0 (by rw [hq, n1]; simp)
                      exact ⟨a, _, _, e5, rfl⟩
                  · subst eh eσ
                    rw [List.take_length] at f1
                    (try simp (disch := first | omega | assumption | (simp only [List.length_cons, List.length_nil, List.length_append, List.length_map]; omega) | decide) only [↓WA, WB, if_true, if_false, peek, hasTys, hasTy, wipeA, tgSlots, tgsSlots, cmpSlots, List.replicate, Nat.reduceAdd, Nat.reduceSub, Nat.reduceLT, Nat.reduceLeDiff])
                    exact .inl ⟨a, x4, x5, by rw [hx, f1], rfl⟩
                · have h3' : decide ((ps.length : Int) = 3) = false := decide_eq_false (by omega)
                  rw [if_neg h3] at hx
                  (try simp (disch := first | omega | assumption | (simp only [List.length_cons, List.length_nil, List.length_append, List.length_map]; omega) | decide) only [↓WA, WB, if_true, if_false, peek, hasTys, hasTy, wipeA, tgSlots, tgsSlots, cmpSlots, List.replicate, Nat.reduceAdd, Nat.reduceSub, Nat.reduceLT, Nat.reduceLeDiff, h3'])
                  exact .inr hx
              all_goals ((try simp (disch := first | omega | assumption | (simp only [List.length_cons, List.length_nil, List.length_append, List.length_map]; omega) | decide) only [↓WA, WB, if_true, if_false, peek, hasTys, hasTy, wipeA, tgSlots, tgsSlots, cmpSlots, List.replicate, Nat.reduceAdd, Nat.reduceSub, Nat.reduceLT, Nat.reduceLeDiff]); exact .inr rfl)
            · subst eh
              rcases q with ⟨a, x4, x5, e2, rfl⟩ | ⟨e2, rfl⟩
              · subst hbi
                exact ⟨rfl, s + a, _, _, _, sumO_take hi e1 e2, by rw [Nat.add_assoc]⟩
              · (try simp (disch := first | omega | assumption | (simp only [List.length_cons, List.length_nil, List.length_append, List.length_map]; omega) | decide) only [↓WA, WB, if_true, if_false, peek, hasTys, hasTy, wipeA, tgSlots, tgsSlots, cmpSlots, List.replicate, Nat.reduceAdd, Nat.reduceSub, Nat.reduceLT, Nat.reduceLeDiff])
                rw [hs, sumO_none e2 hbm]
                exact rfl
          · subst eh eσ
            rw [List.take_length] at e1
            (try simp (disch := first | omega | assumption | (simp only [List.length_cons, List.length_nil, List.length_append, List.length_map]; omega) | decide) only [↓WA, WB, if_true, if_false, peek, hasTys, hasTy, wipeA, tgSlots, tgsSlots, cmpSlots, List.replicate, Nat.reduceAdd, Nat.reduceSub, Nat.reduceLT, Nat.reduceLeDiff])
            rw [hs, e1]
            exact rfl
      · rw [hs, if_neg (by omega)]
        exact rfl
    all_goals ((try simp (disch := first | omega | assumption | (simp only [List.length_cons, List.length_nil, List.length_append, List.length_map]; omega) | decide) only [↓WA, WB, if_true, if_false, peek, hasTys, hasTy, wipeA, tgSlots, tgsSlots, cmpSlots, List.replicate, Nat.reduceAdd, Nat.reduceSub, Nat.reduceLT, Nat.reduceLeDiff, f_size_of, hd, szO, szV]); try exact ⟨rfl, rfl⟩)
theorem c_is_graph [Graphs T] {g : Nat} (hg : g ≤ 10) (k : Nat) (v : AV) (D : Nat) (h : AH) (hv : gd g D v = true) : callN T (k + 9) (Str.ofString "is_graph") [v] h = .ok (.bl (grB v)) h := by
  rw [callN_step Graphs.is_graph]
  refine Ok_eq (w_run rfl ?_)
  have e : callN T (k + 8) (Str.ofString "size_of") [v, .int 4] h = _ := c_size_of hg 4 k v D h hv
  (try simp (disch := first | omega | assumption | (simp only [List.length_cons, List.length_nil, List.length_append, List.length_map]; omega) | decide) only [↓WA, WB, if_true, if_false, peek, hasTys, hasTy, wipeA, tgSlots, tgsSlots, cmpSlots, List.replicate, Nat.reduceAdd, Nat.reduceSub, Nat.reduceLT, Nat.reduceLeDiff, f_is_graph, e])
  cases hz : szO 4 v with
  | none => (try simp (disch := first | omega | assumption | (simp only [List.length_cons, List.length_nil, List.length_append, List.length_map]; omega) | decide) only [↓WA, WB, if_true, if_false, peek, hasTys, hasTy, wipeA, tgSlots, tgsSlots, cmpSlots, List.replicate, Nat.reduceAdd, Nat.reduceSub, Nat.reduceLT, Nat.reduceLeDiff, szV, grB, hz])
  | some n =>
    (try simp (disch := first | omega | assumption | (simp only [List.length_cons, List.length_nil, List.length_append, List.length_map]; omega) | decide) only [↓WA, WB, if_true, if_false, peek, hasTys, hasTy, wipeA, tgSlots, tgsSlots, cmpSlots, List.replicate, Nat.reduceAdd, Nat.reduceSub, Nat.reduceLT, Nat.reduceLeDiff, szV, grB, hz])
    have q : decide ((n : Int) ≤ 24) = decide (n ≤ 24) := by simp only [decide_eq_decide]; omega
    rw [q]
theorem c_need_graph [Graphs T] {g : Nat} (hg : g ≤ 10) (k : Nat) (v : AV) (D : Nat) (h : AH) (hv : gd g D v = true) (hgr : grB v = true) : callN T (k + 10) (Str.ofString "need_graph") [v] h = .ok .non h := by
  rw [callN_step Graphs.need_graph]
  refine Ok_eq (w_run rfl ?_)
  have e := c_is_graph (T := T) hg k v D h hv
  (try simp (disch := first | omega | assumption | (simp only [List.length_cons, List.length_nil, List.length_append, List.length_map]; omega) | decide) only [↓WA, WB, if_true, if_false, peek, hasTys, hasTy, wipeA, tgSlots, tgsSlots, cmpSlots, List.replicate, Nat.reduceAdd, Nat.reduceSub, Nat.reduceLT, Nat.reduceLeDiff, f_need_graph, e, hgr])
theorem c_need_place [Graphs T] (k : Nat) (i : Int) (h : AH) (h0 : 0 ≤ i) (h1 : i < 3) : callN T (k + 3) (Str.ofString "need_place") [.int i] h = .ok .non h := by
  rw [callN_step Graphs.need_place]
  refine Ok_eq (w_run rfl ?_)
  have e : callN T (k + 2) (Str.ofString "is_within") [.int i, .int 0, .int (3 - 1)] h = .ok (.bl true) h := by
    rw [c_is_within (T := T) k (.int i) 0 (3 - 1) h rfl]
    simp only [within]
    rw [decide_eq_true (by omega)]
  (try simp (disch := first | omega | assumption | (simp only [List.length_cons, List.length_nil, List.length_append, List.length_map]; omega) | decide) only [↓WA, WB, if_true, if_false, peek, hasTys, hasTy, wipeA, tgSlots, tgsSlots, cmpSlots, List.replicate, Nat.reduceAdd, Nat.reduceSub, Nat.reduceLT, Nat.reduceLeDiff, f_need_place, e])
theorem c_need_both [Graphs T] {g : Nat} (hg : g ≤ 10) (k : Nat) (v : AV) (D : Nat) (i : Int) (h : AH) (hv : gd g D v = true) (hgr : grB v = true) (h0 : 0 ≤ i) (h1 : i < 3) : callN T (k + 11) (Str.ofString "need_both") [v, .int i] h = .ok .non h := by
  rw [callN_step Graphs.need_both]
  refine Ok_eq (w_run rfl ?_)
  have e1 := c_need_graph (T := T) hg k v D h hv hgr
  have e2 : callN T (k + 10) (Str.ofString "need_place") [.int i] h = _ := c_need_place (T := T) (k + 7) i h h0 h1
  (try simp (disch := first | omega | assumption | (simp only [List.length_cons, List.length_nil, List.length_append, List.length_map]; omega) | decide) only [↓WA, WB, if_true, if_false, peek, hasTys, hasTy, wipeA, tgSlots, tgsSlots, cmpSlots, List.replicate, Nat.reduceAdd, Nat.reduceSub, Nat.reduceLT, Nat.reduceLeDiff, f_need_both, e1, e2])
end
/-! ### what a graph is made of -/
inductive Pl (f : AV → Option Nat) (m : Nat) (s : Nat) : AV → Prop
  | num (i : Int) : -9999 ≤ i → i ≤ 9999 → s = 0 → Pl f m s (.int i)
  | tie (t : Int) : 0 ≤ t → t < m → s = 0 → Pl f m s (.tup [.str "tie", .int t])
  | gr (v : AV) : f v = some s → numB v = false → tieB m v = false → Pl f m s v
theorem pl_of {f : AV → Option Nat} {m s : Nat} {p : AV} (h : plS f m p = some s) : Pl f m s p := by
  unfold plS at h
  split at h
  · rename_i q
    cases h
    rw [Bool.or_eq_true] at q
    rcases q with q | q
    · obtain ⟨i, rfl, h1, h2⟩ := within_int q
      exact .num i h1 h2 rfl
    · unfold tieB at q
      split at q
      · rw [Bool.and_eq_true, beq_iff_eq] at q
        obtain ⟨rfl, q⟩ := q
        obtain ⟨i, rfl, h1, h2⟩ := within_int q
        exact .tie i h1 (by omega) rfl
      · cases q
  · rename_i q
    simp only [Bool.not_eq_true, Bool.or_eq_false_iff] at q
    exact .gr p h q.1 q.2
theorem gr_boxes {d n : Nat} {v : AV} (h : szO (d + 1) v = some n) : ∃ bs s, v = .tup bs ∧ 1 ≤ bs.length ∧ bs.length ≤ 8 ∧ sumO (bxS (szO d) bs.length) bs = some s ∧ n = bs.length + s := by
  cases v <;> first | (simp [szO] at h; done) | skip
  rename_i bs
  simp only [szO] at h
  split at h
  · rename_i c
    obtain ⟨s, e, rfl⟩ := Option.map_eq_some_iff.mp h
    exact ⟨bs, s, rfl, c.1, c.2, e, rfl⟩
  · cases h
theorem bx_places {f : AV → Option Nat} {m s : Nat} {b : AV} (h : bxS f m b = some s) : ∃ ps, b = .tup ps ∧ ps.length = 3 ∧ sumO (plS f m) ps = some s := by
  cases b <;> first | (simp [bxS] at h; done) | skip
  rename_i ps
  simp only [bxS] at h
  split at h
  · rename_i c
    exact ⟨ps, rfl, c, h⟩
  · cases h
/-- a graph is a tuple of tuples -/
theorem gr_shape {d n : Nat} {v : AV} (h : szO d v = some n) : ∃ x bs, v = .tup (.tup x :: bs) := by
  cases d with
  | zero => simp [szO] at h
  | succ d =>
    obtain ⟨bs, s, rfl, h1, h2, h3, h4⟩ := gr_boxes h
    cases bs with
    | nil => simp at h1
    | cons b bs =>
      obtain ⟨a, ha, _⟩ := sumO_mem h3 (List.mem_cons_self)
      obtain ⟨ps, rfl, _, _⟩ := bx_places ha
      exact ⟨ps, bs, rfl⟩
theorem wts_sum {f : AV → Option Nat} {c : Nat} : ∀ {xs : List AV} {a : Nat}, (∀ x ∈ xs, ∀ s, f x = some s → wt x + 2 ≤ c + 2000 * s) → sumO f xs = some a → wts xs ≤ c * xs.length + 2000 * a
  | [], a, _, _ => by simp [wts]
  | x :: xs, a, h, e => by
    simp only [sumO, Option.bind_eq_some_iff, Option.map_eq_some_iff] at e
    obtain ⟨s, h1, b, h2, rfl⟩ := e
    have q1 := h x (by simp) s h1
    have q2 := wts_sum (fun y hy => h y (List.mem_cons_of_mem _ hy)) h2
    simp only [wts, List.length_cons, Nat.mul_add, Nat.mul_one]
    omega
theorem gr_gd : ∀ {d n : Nat} {v : AV}, szO d v = some n → gd 0 (2 * d + 1) v = true ∧ wt v ≤ 2000 * n
  | 0, n, v, h => by simp [szO] at h
  | d + 1, n, v, h => by
    obtain ⟨bs, s, rfl, h1, h2, h3, rfl⟩ := gr_boxes h
    have hp : ∀ m p s, m ≤ 8 → plS (szO d) m p = some s → gd 0 (2 * d + 1) p = true ∧ wt p + 2 ≤ 409 + 2000 * s := fun m p s hm e => by
      cases pl_of e with
      | num i a b c => exact ⟨by simp only [gd, sc, decide_eq_true_eq]; omega, by simp only [wt]; omega⟩
      | tie t a b c =>
        refine ⟨mk_tup (by simp) fun x hx => ?_, by simp only [wt, wts]; omega⟩
        simp only [List.mem_cons, List.not_mem_nil, or_false] at hx
        rcases hx with rfl | rfl
        · exact gd_mono (Nat.le_refl 0) (Nat.zero_le _) (show gd 0 0 (.str "tie") = true by decide +kernel)
        · exact gd_mono (Nat.le_refl 0) (Nat.zero_le _) (by simp only [gd, sc, decide_eq_true_eq]; omega)
      | gr _ a b c =>
        obtain ⟨q1, q2⟩ := gr_gd a
        exact ⟨q1, by omega⟩
    have hb : ∀ b s, bxS (szO d) bs.length b = some s → gd 0 (2 * d + 2) b = true ∧ wt b + 2 ≤ 1240 + 2000 * s := fun b s e => by
      obtain ⟨ps, rfl, l, e2⟩ := bx_places e
      refine ⟨mk_tup (by omega) fun x hx => ?_, ?_⟩
      · obtain ⟨a, ha, _⟩ := sumO_mem e2 hx
        exact (hp _ _ _ h2 ha).1
      · have := wts_sum (c := 409) (fun x _ s q => (hp _ _ _ h2 q).2) e2
        simp only [wt]
        rw [l] at this
        omega
    refine ⟨mk_tup (by omega) fun x hx => ?_, ?_⟩
    · obtain ⟨a, ha, _⟩ := sumO_mem h3 hx
      exact (hb _ _ ha).1
    · have := wts_sum (c := 1240) (fun x _ s q => (hb _ _ q).2) h3
      simp only [wt]
      omega
theorem pyEqs_self : ∀ {xs : List AV}, (∀ x ∈ xs, pyEq x x = some true) → pyEqs xs xs = some true
  | [], _ => rfl
  | x :: xs, h => by
    simp only [pyEqs, h x (by simp), pyEqs_self fun y hy => h y (List.mem_cons_of_mem _ hy), Option.bind_some, Option.map_some, Bool.and_self]
theorem gr_pyEq : ∀ {d n : Nat} {v : AV}, szO d v = some n → pyEq v v = some true
  | 0, n, v, h => by simp [szO] at h
  | d + 1, n, v, h => by
    obtain ⟨bs, s, rfl, h1, h2, h3, rfl⟩ := gr_boxes h
    refine pyEqs_self fun b hb => ?_
    obtain ⟨a, ha, _⟩ := sumO_mem h3 hb
    obtain ⟨ps, rfl, l, e2⟩ := bx_places ha
    refine pyEqs_self fun p hp => ?_
    obtain ⟨c, hc, _⟩ := sumO_mem e2 hp
    cases pl_of hc with
    | num i _ _ _ => simp [pyEq]
    | tie t _ _ _ => simp [pyEq, pyEqs]
    | gr _ q _ _ => exact gr_pyEq q
theorem dep_gd : ∀ {g d : Nat} {v : AV}, gd g d v = true → dep v ≤ d := fun {g d} => by
  induction d with
  | zero => intro v h; cases v <;> first | (simp [dep]; done) | (simp [gd, sc] at h)
  | succ d ih =>
    intro v h
    have key : ∀ xs : List AV, (∀ x ∈ xs, gd g d x = true) → deps xs ≤ d := fun xs => by
      induction xs with
      | nil => intro _; simp [deps]
      | cons x xs ihx =>
        intro hx
        have := ih (hx x (by simp))
        have := ihx fun y hy => hx y (List.mem_cons_of_mem _ hy)
        simp only [deps]; omega
    cases v
    case tup xs =>
      obtain ⟨_, e, _, hx⟩ := gd_tup h; cases e
      simp only [dep]; have := key xs hx; omega
    case lst xs =>
      obtain ⟨_, e, _, hx⟩ := gd_lst h; cases e
      simp only [dep]; have := key xs hx; omega
    all_goals simp [dep]
theorem gr_eqD {d n : Nat} {v : AV} (h : szO d v = some n) (hd : d ≤ 20) : eqD v v = some true := by
  unfold eqD
  rw [if_pos (by have := dep_gd (gr_gd h).1; omega)]
  exact gr_pyEq h
end S

set_option linter.all false
set_option maxRecDepth 100000
set_option maxHeartbeats 4000000
/-! SH: the questions about graphs; the laws' drawn graphs. -/
namespace S
open PySem G
class GraphB (T : Tab) : Prop extends Graphs T where
  has_box : T.lookup (Str.ofString "has_box") = some f_has_box
class GraphQ (T : Tab) : Prop extends GraphB T where
  holds_graph : T.lookup (Str.ofString "holds_graph") = some f_holds_graph
  sort_of : T.lookup (Str.ofString "sort_of") = some f_sort_of
  number_of : T.lookup (Str.ofString "number_of") = some f_number_of
  graph_of : T.lookup (Str.ofString "graph_of") = some f_graph_of
  sort_at : T.lookup (Str.ofString "sort_at") = some f_sort_at
  number_at : T.lookup (Str.ofString "number_at") = some f_number_at
  graph_at : T.lookup (Str.ofString "graph_at") = some f_graph_at
class GraphL (T : Tab) : Prop extends Graphs T, Draw T where
  law_size : T.lookup (Str.ofString "_law_size") = some f_law_size
  law_graph : T.lookup (Str.ofString "_law_graph") = some f_law_graph
  law_some_graph : T.lookup (Str.ofString "_law_some_graph") = some f_law_some_graph
  law_inner : T.lookup (Str.ofString "_law_inner") = some f_law_inner
def bare : AV := .tup [.tup [.int 0, .int 0, .int 0]]
/-- a place's sort, number, graph -/
def sortP : AV → Int
  | .int _ => 0
  | .tup (.str _ :: _) => 1
  | _ => 2
def isGp : AV → Bool
  | .int _ => false
  | .tup (.str _ :: _) => false
  | _ => true
def numP : AV → AV
  | .int i => .int i
  | .tup [.str _, t] => t
  | _ => .int 0
def grP (p : AV) : AV := if sortP p = 2 then p else bare
section
variable {T : Tab}
theorem c_has_box [GraphB T] (k : Nat) (bs : List AV) (b : Int) (h : AH) : callN T (k + 1) (Str.ofString "has_box") [.tup bs, .int b] h = .ok (.bl (decide (0 ≤ b ∧ b < bs.length))) h := by
  rw [callN_step GraphB.has_box]
  refine Ok_eq (w_run rfl ?_)
  (try simp (disch := first | omega | assumption | (simp only [List.length_cons, List.length_nil, List.length_append, List.length_map]; omega) | decide) only [↓WA, WB, if_true, if_false, peek, hasTys, hasTy, wipeA, tgSlots, tgsSlots, cmpSlots, List.replicate, Nat.reduceAdd, Nat.reduceSub, Nat.reduceLT, Nat.reduceLeDiff, f_has_box])
  refine Br_dec (fun h1 => ?_) (fun h1 => ?_) <;> (try simp (disch := first | omega | assumption | (simp only [List.length_cons, List.length_nil, List.length_append, List.length_map]; omega) | decide) only [↓WA, WB, if_true, if_false, peek, hasTys, hasTy, wipeA, tgSlots, tgsSlots, cmpSlots, List.replicate, Nat.reduceAdd, Nat.reduceSub, Nat.reduceLT, Nat.reduceLeDiff])
  · simp [h1]
  · simp [h1]
theorem c_holds_graph [GraphQ T] (k : Nat) {f : AV → Option Nat} {d m s : Nat} {p : AV} (h : AH) (hp : Pl (szO d) m s p) : callN T (k + 1) (Str.ofString "holds_graph") [p] h = .ok (.bl (isGp p)) h := by
  rw [callN_step GraphQ.holds_graph]
  refine Ok_eq (w_run rfl ?_)
  cases hp with
  | num i a b c => (try simp (disch := first | omega | assumption | (simp only [List.length_cons, List.length_nil, List.length_append, List.length_map]; omega) | decide) only [↓WA, WB, if_true, if_false, peek, hasTys, hasTy, wipeA, tgSlots, tgsSlots, cmpSlots, List.replicate, Nat.reduceAdd, Nat.reduceSub, Nat.reduceLT, Nat.reduceLeDiff, f_holds_graph, isGp])
  | tie t a b c => (try simp (disch := first | omega | assumption | (simp only [List.length_cons, List.length_nil, List.length_append, List.length_map]; omega) | decide) only [↓WA, WB, if_true, if_false, peek, hasTys, hasTy, wipeA, tgSlots, tgsSlots, cmpSlots, List.replicate, Nat.reduceAdd, Nat.reduceSub, Nat.reduceLT, Nat.reduceLeDiff, f_holds_graph, isGp])
  | gr _ a b c =>
    obtain ⟨x, bs, rfl⟩ := gr_shape a
    (try simp (disch := first | omega | assumption | (simp only [List.length_cons, List.length_nil, List.length_append, List.length_map]; omega) | decide) only [↓WA, WB, if_true, if_false, peek, hasTys, hasTy, wipeA, tgSlots, tgsSlots, cmpSlots, List.replicate, Nat.reduceAdd, Nat.reduceSub, Nat.reduceLT, Nat.reduceLeDiff, f_holds_graph, isGp])
/-- a graph with a box, a place in it -/
structure At (d : Nat) (bs : List AV) (b k : Int) (p : AV) : Prop where
  b0 : 0 ≤ b
  b1 : b < bs.length
  at_ : ∃ ps, L2.atI bs b = some (.tup ps) ∧ L2.atI ps k = some p
  pl : ∃ m s, Pl (szO d) m s p
theorem c_sort_in [GraphQ T] (n : Nat) {d : Nat} {bs : List AV} {b k : Int} {p : AV} (h : AH) (a : At d bs b k p) : callN T (n + 2) (Str.ofString "sort_of") [.tup bs, .int b, .int k] h = .ok (.int (sortP p)) h := by
  rw [callN_step GraphQ.sort_of]
  refine Ok_eq (w_run rfl ?_)
  obtain ⟨ps, e1, e2⟩ := a.at_
  obtain ⟨m, s, hp⟩ := a.pl
  have q1 := c_has_box (T := T) n bs b h
  rw [decide_eq_true ⟨a.b0, a.b1⟩] at q1
  have q2 := c_holds_graph (T := T) n (f := szO d) h hp
  (try simp (disch := first | omega | assumption | (simp only [List.length_cons, List.length_nil, List.length_append, List.length_map]; omega) | decide) only [↓WA, WB, if_true, if_false, peek, hasTys, hasTy, wipeA, tgSlots, tgsSlots, cmpSlots, List.replicate, Nat.reduceAdd, Nat.reduceSub, Nat.reduceLT, Nat.reduceLeDiff, f_sort_of, q1, e1, e2, q2])
  cases hp with
  | num i _ _ _ => (try simp (disch := first | omega | assumption | (simp only [List.length_cons, List.length_nil, List.length_append, List.length_map]; omega) | decide) only [↓WA, WB, if_true, if_false, peek, hasTys, hasTy, wipeA, tgSlots, tgsSlots, cmpSlots, List.replicate, Nat.reduceAdd, Nat.reduceSub, Nat.reduceLT, Nat.reduceLeDiff, sortP, isGp, e1, e2])
  | tie t _ _ _ => (try simp (disch := first | omega | assumption | (simp only [List.length_cons, List.length_nil, List.length_append, List.length_map]; omega) | decide) only [↓WA, WB, if_true, if_false, peek, hasTys, hasTy, wipeA, tgSlots, tgsSlots, cmpSlots, List.replicate, Nat.reduceAdd, Nat.reduceSub, Nat.reduceLT, Nat.reduceLeDiff, sortP, isGp, e1, e2])
  | gr _ c _ _ =>
    obtain ⟨x, bs, rfl⟩ := gr_shape c
    (try simp (disch := first | omega | assumption | (simp only [List.length_cons, List.length_nil, List.length_append, List.length_map]; omega) | decide) only [↓WA, WB, if_true, if_false, peek, hasTys, hasTy, wipeA, tgSlots, tgsSlots, cmpSlots, List.replicate, Nat.reduceAdd, Nat.reduceSub, Nat.reduceLT, Nat.reduceLeDiff, sortP, isGp, e1, e2])
theorem c_sort_out [GraphQ T] (n : Nat) {bs : List AV} {b : Int} (k : Int) (h : AH) (a : ¬ (0 ≤ b ∧ b < bs.length)) : callN T (n + 2) (Str.ofString "sort_of") [.tup bs, .int b, .int k] h = .ok (.int 3) h := by
  rw [callN_step GraphQ.sort_of]
  refine Ok_eq (w_run rfl ?_)
  have q1 := c_has_box (T := T) n bs b h
  rw [decide_eq_false a] at q1
  (try simp (disch := first | omega | assumption | (simp only [List.length_cons, List.length_nil, List.length_append, List.length_map]; omega) | decide) only [↓WA, WB, if_true, if_false, peek, hasTys, hasTy, wipeA, tgSlots, tgsSlots, cmpSlots, List.replicate, Nat.reduceAdd, Nat.reduceSub, Nat.reduceLT, Nat.reduceLeDiff, f_sort_of, q1])
theorem c_num_in [GraphQ T] (n : Nat) {d : Nat} {bs : List AV} {b k : Int} {p : AV} (h : AH) (a : At d bs b k p) : callN T (n + 3) (Str.ofString "number_of") [.tup bs, .int b, .int k] h = .ok (numP p) h := by
  rw [callN_step GraphQ.number_of]
  refine Ok_eq (w_run rfl ?_)
  have q1 := c_sort_in (T := T) n h a
  obtain ⟨ps, e1, e2⟩ := a.at_
  obtain ⟨m, s, hp⟩ := a.pl
  cases hp with
  | num i _ _ _ => (try simp (disch := first | omega | assumption | (simp only [List.length_cons, List.length_nil, List.length_append, List.length_map]; omega) | decide) only [↓WA, WB, if_true, if_false, peek, hasTys, hasTy, wipeA, tgSlots, tgsSlots, cmpSlots, List.replicate, Nat.reduceAdd, Nat.reduceSub, Nat.reduceLT, Nat.reduceLeDiff, f_number_of, q1, sortP, numP, e1, e2, show decide ((0 : Int) = 0) = true from rfl])
  | tie t _ _ _ => (try simp (disch := first | omega | assumption | (simp only [List.length_cons, List.length_nil, List.length_append, List.length_map]; omega) | decide) only [↓WA, WB, if_true, if_false, peek, hasTys, hasTy, wipeA, tgSlots, tgsSlots, cmpSlots, List.replicate, Nat.reduceAdd, Nat.reduceSub, Nat.reduceLT, Nat.reduceLeDiff, f_number_of, q1, sortP, numP, e1, e2, show decide ((1 : Int) = 0) = false from rfl, show decide ((1 : Int) = 1) = true from rfl])
  | gr _ c _ _ =>
    obtain ⟨x, bs', rfl⟩ := gr_shape c
    (try simp (disch := first | omega | assumption | (simp only [List.length_cons, List.length_nil, List.length_append, List.length_map]; omega) | decide) only [↓WA, WB, if_true, if_false, peek, hasTys, hasTy, wipeA, tgSlots, tgsSlots, cmpSlots, List.replicate, Nat.reduceAdd, Nat.reduceSub, Nat.reduceLT, Nat.reduceLeDiff, f_number_of, q1, sortP, numP, e1, e2, show decide ((2 : Int) = 0) = false from rfl, show decide ((2 : Int) = 1) = false from rfl])
theorem c_num_out [GraphQ T] (n : Nat) {bs : List AV} {b : Int} (k : Int) (h : AH) (a : ¬ (0 ≤ b ∧ b < bs.length)) : callN T (n + 3) (Str.ofString "number_of") [.tup bs, .int b, .int k] h = .ok (.int 0) h := by
  rw [callN_step GraphQ.number_of]
  refine Ok_eq (w_run rfl ?_)
  have q1 := c_sort_out (T := T) n k h a
  (try simp (disch := first | omega | assumption | (simp only [List.length_cons, List.length_nil, List.length_append, List.length_map]; omega) | decide) only [↓WA, WB, if_true, if_false, peek, hasTys, hasTy, wipeA, tgSlots, tgsSlots, cmpSlots, List.replicate, Nat.reduceAdd, Nat.reduceSub, Nat.reduceLT, Nat.reduceLeDiff, f_number_of, q1, show decide ((3 : Int) = 0) = false from rfl, show decide ((3 : Int) = 1) = false from rfl])
theorem c_gr_in [GraphQ T] (n : Nat) {d : Nat} {bs : List AV} {b k : Int} {p : AV} (h : AH) (a : At d bs b k p) : callN T (n + 3) (Str.ofString "graph_of") [.tup bs, .int b, .int k] h = .ok (grP p) h := by
  rw [callN_step GraphQ.graph_of]
  refine Ok_eq (w_run rfl ?_)
  have q1 := c_sort_in (T := T) n h a
  obtain ⟨ps, e1, e2⟩ := a.at_
  obtain ⟨m, s, hp⟩ := a.pl
  cases hp with
  | num i _ _ _ => (try simp (disch := first | omega | assumption | (simp only [List.length_cons, List.length_nil, List.length_append, List.length_map]; omega) | decide) only [↓WA, WB, if_true, if_false, peek, hasTys, hasTy, wipeA, tgSlots, tgsSlots, cmpSlots, List.replicate, Nat.reduceAdd, Nat.reduceSub, Nat.reduceLT, Nat.reduceLeDiff, f_graph_of, q1, sortP, grP, e1, e2, show decide ((0 : Int) = 2) = false from rfl]); rfl
  | tie t _ _ _ => (try simp (disch := first | omega | assumption | (simp only [List.length_cons, List.length_nil, List.length_append, List.length_map]; omega) | decide) only [↓WA, WB, if_true, if_false, peek, hasTys, hasTy, wipeA, tgSlots, tgsSlots, cmpSlots, List.replicate, Nat.reduceAdd, Nat.reduceSub, Nat.reduceLT, Nat.reduceLeDiff, f_graph_of, q1, sortP, grP, e1, e2, show decide ((1 : Int) = 2) = false from rfl]); rfl
  | gr _ c _ _ =>
    obtain ⟨x, bs', rfl⟩ := gr_shape c
    (try simp (disch := first | omega | assumption | (simp only [List.length_cons, List.length_nil, List.length_append, List.length_map]; omega) | decide) only [↓WA, WB, if_true, if_false, peek, hasTys, hasTy, wipeA, tgSlots, tgsSlots, cmpSlots, List.replicate, Nat.reduceAdd, Nat.reduceSub, Nat.reduceLT, Nat.reduceLeDiff, f_graph_of, q1, sortP, grP, e1, e2, show decide ((2 : Int) = 2) = true from rfl])
theorem c_gr_out [GraphQ T] (n : Nat) {bs : List AV} {b : Int} (k : Int) (h : AH) (a : ¬ (0 ≤ b ∧ b < bs.length)) : callN T (n + 3) (Str.ofString "graph_of") [.tup bs, .int b, .int k] h = .ok bare h := by
  rw [callN_step GraphQ.graph_of]
  refine Ok_eq (w_run rfl ?_)
  have q1 := c_sort_out (T := T) n k h a
  (try simp (disch := first | omega | assumption | (simp only [List.length_cons, List.length_nil, List.length_append, List.length_map]; omega) | decide) only [↓WA, WB, if_true, if_false, peek, hasTys, hasTy, wipeA, tgSlots, tgsSlots, cmpSlots, List.replicate, Nat.reduceAdd, Nat.reduceSub, Nat.reduceLT, Nat.reduceLeDiff, f_graph_of, q1, bare, show decide ((3 : Int) = 2) = false from rfl])
/-- a graph that is handed in -/
structure Gr (v : AV) (N : Nat) : Prop where
  sz : szO 4 v = some N
  le : N ≤ 24
theorem Gr.grB {v : AV} {N : Nat} (g : Gr v N) : grB v = true := by
  unfold S.grB
  rw [g.sz]
  simpa using g.le
theorem Gr.gd {v : AV} {N : Nat} (g : Gr v N) : gd 0 9 v = true := (gr_gd g.sz).1
theorem c_ask [GraphQ T] (n : Nat) {v r : AV} {N : Nat} {b k : Int} {h : AH} (g : Gr v N) (h0 : 0 ≤ k) (h1 : k < 3) {nm q : Str} {f : Fn}
    (hl : T.lookup nm = some f) (hf : f = ⟨3, 3, [.expr (.call "need_both" [.var 0, .var 2]), .ret (.call q [.var 0, .var 1, .var 2])]⟩) (hq : callN T (n + 11) q [v, .int b, .int k] h = .ok r h) : callN T (n + 12) nm [v, .int b, .int k] h = .ok r h := by
  subst hf
  rw [callN_step hl]
  refine Ok_eq (w_run rfl ?_)
  have q1 := c_need_both (T := T) (g := 0) (by omega) n v 9 k h g.gd g.grB h0 h1
  (try simp (disch := first | omega | assumption | (simp only [List.length_cons, List.length_nil, List.length_append, List.length_map]; omega) | decide) only [↓WA, WB, if_true, if_false, peek, hasTys, hasTy, wipeA, tgSlots, tgsSlots, cmpSlots, List.replicate, Nat.reduceAdd, Nat.reduceSub, Nat.reduceLT, Nat.reduceLeDiff, q1, hq])
end
/-! ### the laws' own helpers -/
def psOf : AV → List AV
  | .tup ps => ps
  | _ => []
def innerL (bs : List AV) : List AV := bs.flatMap fun b => (psOf b).filter isGp
theorem innerL_cons (ps bs : List AV) : innerL (.tup ps :: bs) = ps.filter isGp ++ innerL bs := by
  unfold innerL
  rw [List.flatMap_cons]
  rfl
theorem innerL_append (as bs : List AV) : innerL (as ++ bs) = innerL as ++ innerL bs := by
  unfold innerL
  rw [List.flatMap_append]
def szI (d : Nat) (x : AV) : Int := match szO d x with
  | some n => n
  | none => 0
theorem pl_isGp {d m s : Nat} {p : AV} (h : Pl (szO d) m s p) : (isGp p = false ∧ s = 0) ∨ (isGp p = true ∧ szO d p = some s) := by
  cases h with
  | num i _ _ e => exact .inl ⟨rfl, e⟩
  | tie t _ _ e => exact .inl ⟨rfl, e⟩
  | gr _ c _ _ =>
    obtain ⟨x, bs', rfl⟩ := gr_shape c
    exact .inr ⟨rfl, c⟩
theorem sum_inner_ps {d m : Nat} : ∀ {ps : List AV} {s : Nat}, sumO (plS (szO d) m) ps = some s → ((ps.filter isGp).map (szI d)).sum = s
  | [], s, e => by simp only [sumO, Option.some.injEq] at e; subst e; rfl
  | p :: ps, s, e => by
    simp only [sumO, Option.bind_eq_some_iff, Option.map_eq_some_iff] at e
    obtain ⟨a, h1, b, h2, rfl⟩ := e
    have ih := sum_inner_ps h2
    rcases pl_isGp (pl_of h1) with ⟨q, rfl⟩ | ⟨q, e⟩
    · rw [List.filter_cons_of_neg (by simp [q]), ih]; omega
    · rw [List.filter_cons_of_pos q, List.map_cons, List.sum_cons, ih]
      simp only [szI, e]; omega
theorem sum_inner {d m : Nat} : ∀ {bs : List AV} {s : Nat}, sumO (bxS (szO d) m) bs = some s → ((innerL bs).map (szI d)).sum = s
  | [], s, e => by simp only [sumO, Option.some.injEq] at e; subst e; rfl
  | b :: bs, s, e => by
    simp only [sumO, Option.bind_eq_some_iff, Option.map_eq_some_iff] at e
    obtain ⟨a, h1, c, h2, rfl⟩ := e
    have ih := sum_inner h2
    obtain ⟨ps, rfl, _, h3⟩ := bx_places h1
    have := sum_inner_ps h3
    rw [innerL_cons, List.map_append, List.sum_append, ih, this]
    omega
theorem inner_mem {d m : Nat} {bs : List AV} {s : Nat} (e : sumO (bxS (szO d) m) bs = some s) {x : AV} (h : x ∈ innerL bs) : ∃ n, szO d x = some n ∧ n ≤ s := by
  obtain ⟨b, hb, hx⟩ := List.mem_flatMap.mp h
  obtain ⟨a, ha, la⟩ := sumO_mem e hb
  obtain ⟨ps, rfl, _, h3⟩ := bx_places ha
  obtain ⟨hx1, hx2⟩ := List.mem_filter.mp hx
  obtain ⟨c, hc, lc⟩ := sumO_mem h3 hx1
  rcases pl_isGp (pl_of hc) with ⟨q, _⟩ | ⟨q, e⟩
  · rw [q] at hx2; cases hx2
  · exact ⟨c, e, by omega⟩
theorem innerL_len {d m : Nat} : ∀ {bs : List AV} {s : Nat}, sumO (bxS (szO d) m) bs = some s → (innerL bs).length ≤ 3 * bs.length
  | [], _, _ => by simp [innerL]
  | b :: bs, s, e => by
    simp only [sumO, Option.bind_eq_some_iff, Option.map_eq_some_iff] at e
    obtain ⟨a, h1, c, h2, rfl⟩ := e
    have ih := innerL_len h2
    obtain ⟨ps, rfl, l, h3⟩ := bx_places h1
    have := List.length_filter_le isGp ps
    rw [innerL_cons, List.length_append, List.length_cons]
    omega
theorem sumO_takes {f : AV → Option Nat} : ∀ {xs : List AV} {a : Nat} (i : Nat), sumO f xs = some a → ∃ b, sumO f (xs.take i) = some b
  | [], a, i, e => ⟨0, by simp [sumO]⟩
  | x :: xs, a, 0, e => ⟨0, rfl⟩
  | x :: xs, a, i + 1, e => by
    simp only [sumO, Option.bind_eq_some_iff, Option.map_eq_some_iff] at e
    obtain ⟨c, h1, d, h2, rfl⟩ := e
    obtain ⟨b, hb⟩ := sumO_takes i h2
    exact ⟨c + b, by simp [sumO, h1, hb]⟩
section
variable {T : Tab}
theorem c_inner [GraphL T] (k : Nat) {d n : Nat} {bs : List AV} (h : AH) (e : szO (d + 1) (.tup bs) = some n) : callN T (k + 1) (Str.ofString "_law_inner") [.tup bs] h = .ok (.lst (innerL bs)) h := by
  rw [callN_step GraphL.law_inner]
  refine Ok_eq (w_run rfl ?_)
  obtain ⟨bs, s, e0, l1, l2, e1, rfl⟩ := gr_boxes e
  cases e0
  (try simp (disch := first | omega | assumption | (simp only [List.length_cons, List.length_nil, List.length_append, List.length_map]; omega) | decide) only [↓WA, WB, if_true, if_false, peek, hasTys, hasTy, wipeA, tgSlots, tgsSlots, cmpSlots, List.replicate, Nat.reduceAdd, Nat.reduceSub, Nat.reduceLT, Nat.reduceLeDiff, f_law_inner])
  refine w_for (fun i σ h' => h' = h ∧ ∃ a2 a3, σ = [.vl (.tup bs), .vl (.lst (innerL (bs.take i))), a2, a3]) ⟨rfl, _, _, rfl⟩ (fun i hi σ h' ⟨eh, a2, a3, eσ⟩ => ?_) (fun σ h' ⟨eh, a2, a3, eσ⟩ => ?_)
  · subst eh eσ
    refine ⟨_, asg_nm (by simp), ?_⟩
    obtain ⟨s', hs'⟩ := sumO_takes i e1
    have ln := innerL_len hs'
    rw [List.length_take] at ln
    obtain ⟨a, ha, _⟩ := sumO_mem e1 (List.getElem_mem hi)
    obtain ⟨ps, hb, l3, h3⟩ := bx_places ha
    rw [hb]
    (try simp (disch := first | omega | assumption | (simp only [List.length_cons, List.length_nil, List.length_append, List.length_map]; omega) | decide) only [↓WA, WB, if_true, if_false, peek, hasTys, hasTy, wipeA, tgSlots, tgsSlots, cmpSlots, List.replicate, Nat.reduceAdd, Nat.reduceSub, Nat.reduceLT, Nat.reduceLeDiff])
    refine w_filt isGp (fun x hx => ⟨_, asg_nm (by simp), ?_⟩) ?_
    · obtain ⟨c, hc, _⟩ := sumO_mem h3 hx
      cases pl_of hc with
      | num i _ _ e => (try simp (disch := first | omega | assumption | (simp only [List.length_cons, List.length_nil, List.length_append, List.length_map]; omega) | decide) only [↓WA, WB, if_true, if_false, peek, hasTys, hasTy, wipeA, tgSlots, tgsSlots, cmpSlots, List.replicate, Nat.reduceAdd, Nat.reduceSub, Nat.reduceLT, Nat.reduceLeDiff, w_bodyC, isGp]); try rfl
      | tie t _ _ e => (try simp (disch := first | omega | assumption | (simp only [List.length_cons, List.length_nil, List.length_append, List.length_map]; omega) | decide) only [↓WA, WB, if_true, if_false, peek, hasTys, hasTy, wipeA, tgSlots, tgsSlots, cmpSlots, List.replicate, Nat.reduceAdd, Nat.reduceSub, Nat.reduceLT, Nat.reduceLeDiff, w_bodyC, isGp]); try rfl
      | gr _ c _ _ =>
        obtain ⟨x, bs', rfl⟩ := gr_shape c
        (try simp (disch := first | omega | assumption | (simp only [List.length_cons, List.length_nil, List.length_append, List.length_map]; omega) | decide) only [↓WA, WB, if_true, if_false, peek, hasTys, hasTy, wipeA, tgSlots, tgsSlots, cmpSlots, List.replicate, Nat.reduceAdd, Nat.reduceSub, Nat.reduceLT, Nat.reduceLeDiff, w_bodyC, isGp]); try rfl
    · have hf := List.length_filter_le isGp ps
      (try simp (disch := first | omega | assumption | (simp only [List.length_cons, List.length_nil, List.length_append, List.length_map]; omega) | decide) only [↓WA, WB, if_true, if_false, peek, hasTys, hasTy, wipeA, tgSlots, tgsSlots, cmpSlots, List.replicate, Nat.reduceAdd, Nat.reduceSub, Nat.reduceLT, Nat.reduceLeDiff])
      refine ⟨.vl (.tup ps), a3, ?_⟩
      rw [List.take_succ_eq_append_getElem hi, innerL_append, hb, innerL_cons]
      simp [innerL]
  · subst eh eσ
    rw [List.take_length]
    (try simp (disch := first | omega | assumption | (simp only [List.length_cons, List.length_nil, List.length_append, List.length_map]; omega) | decide) only [↓WA, WB, if_true, if_false, peek, hasTys, hasTy, wipeA, tgSlots, tgsSlots, cmpSlots, List.replicate, Nat.reduceAdd, Nat.reduceSub, Nat.reduceLT, Nat.reduceLeDiff])
theorem c_size [GraphL T] : ∀ (d k : Nat) {n : Nat} {v : AV} (h : AH), szO d v = some n → callN T (k + d + 1) (Str.ofString "_law_size") [v] h = .ok (.int n) h
  | 0, k, n, v, h, e => by simp [szO] at e
  | d + 1, k, n, v, h, e => by
    rw [callN_step GraphL.law_size]
    refine Ok_eq (w_run rfl ?_)
    obtain ⟨bs, s, rfl, l1, l2, e1, rfl⟩ := gr_boxes e
    have q1 : callN T (k + (d + 1)) (Str.ofString "_law_inner") [.tup bs] h = _ := c_inner (T := T) (k + d) h e
    have ln := innerL_len e1
    (try simp (disch := first | omega | assumption | (simp only [List.length_cons, List.length_nil, List.length_append, List.length_map]; omega) | decide) only [↓WA, WB, if_true, if_false, peek, hasTys, hasTy, wipeA, tgSlots, tgsSlots, cmpSlots, List.replicate, Nat.reduceAdd, Nat.reduceSub, Nat.reduceLT, Nat.reduceLeDiff, f_law_size, q1])
    refine w_map (fun x => .int (szI d x)) (fun x hx => ⟨_, asg_nm (by simp), ?_⟩) ?_
    · obtain ⟨m, hm, _⟩ := inner_mem e1 hx
      have q2 : callN T (k + (d + 1)) (Str.ofString "_law_size") [x] h = _ := c_size d k h hm
      (try simp (disch := first | omega | assumption | (simp only [List.length_cons, List.length_nil, List.length_append, List.length_map]; omega) | decide) only [↓WA, WB, if_true, if_false, peek, hasTys, hasTy, wipeA, tgSlots, tgsSlots, cmpSlots, List.replicate, Nat.reduceAdd, Nat.reduceSub, Nat.reduceLT, Nat.reduceLeDiff, w_bodyC, q2, szI, hm])
    · have q3 : (innerL bs).map (fun x => AV.int (szI d x)) = ((innerL bs).map (szI d)).map AV.int := by rw [List.map_map]; rfl
      (try simp (disch := first | omega | assumption | (simp only [List.length_cons, List.length_nil, List.length_append, List.length_map]; omega) | decide) only [↓WA, WB, if_true, if_false, peek, hasTys, hasTy, wipeA, tgSlots, tgsSlots, cmpSlots, List.replicate, Nat.reduceAdd, Nat.reduceSub, Nat.reduceLT, Nat.reduceLeDiff])
      rw [q3]
      (try simp (disch := first | omega | assumption | (simp only [List.length_cons, List.length_nil, List.length_append, List.length_map]; omega) | decide) only [↓WA, WB, if_true, if_false, peek, hasTys, hasTy, wipeA, tgSlots, tgsSlots, cmpSlots, List.replicate, Nat.reduceAdd, Nat.reduceSub, Nat.reduceLT, Nat.reduceLeDiff, ints_int])
      rw [sum_inner e1]
      simp
end
end S

set_option linter.all false
set_option maxRecDepth 100000
set_option maxHeartbeats 4000000
/-! SI: drawn graphs. -/
namespace S
open PySem G
theorem pl_num {f : AV → Option Nat} {m : Nat} {i : Int} (h0 : -9999 ≤ i) (h1 : i ≤ 9999) : plS f m (.int i) = some 0 := by
  unfold plS
  rw [if_pos (by simp only [numB, within, Bool.or_eq_true, decide_eq_true_eq]; exact .inl ⟨h0, h1⟩)]
theorem pl_tie {f : AV → Option Nat} {m : Nat} {t : Int} (h0 : 0 ≤ t) (h1 : t < m) : plS f m (.tup [.str "tie", .int t]) = some 0 := by
  unfold plS
  rw [if_pos (by
    have e : tieB m (.tup [.str "tie", .int t]) = within 0 ((m : Int) - 1) (.int t) := by simp [tieB]
    rw [e, Bool.or_eq_true]
    right
    simp only [within, decide_eq_true_eq]; omega)]
theorem pl_gr {d m n : Nat} {v : AV} (h : szO d v = some n) : plS (szO d) m v = some n := by
  obtain ⟨x, bs, rfl⟩ := gr_shape h
  unfold plS
  rw [if_neg (by
    have e : tieB m (.tup (.tup x :: bs)) = false := by
      unfold tieB
      split
      · rename_i q; cases q
      · rfl
    rw [e]
    simp [numB, within])]
  exact h
theorem sumO_congr {f g : AV → Option Nat} : ∀ {xs : List AV} {a : Nat}, (∀ x ∈ xs, ∀ s, f x = some s → g x = some s) → sumO f xs = some a → sumO g xs = some a
  | [], _, _, e => e
  | x :: xs, a, h, e => by
    simp only [sumO, Option.bind_eq_some_iff, Option.map_eq_some_iff] at e ⊢
    obtain ⟨c, h1, d, h2, rfl⟩ := e
    exact ⟨c, h x (by simp) c h1, d, sumO_congr (fun y hy => h y (List.mem_cons_of_mem _ hy)) h2, rfl⟩
theorem szO_mono : ∀ {d d' n : Nat} {v : AV}, d ≤ d' → szO d v = some n → szO d' v = some n
  | 0, d', n, v, _, e => by simp [szO] at e
  | d + 1, 0, n, v, h, e => by omega
  | d + 1, d' + 1, n, v, h, e => by
    obtain ⟨bs, s, rfl, l1, l2, e1, rfl⟩ := gr_boxes e
    simp only [szO]
    rw [if_pos ⟨l1, l2⟩]
    refine Option.map_eq_some_iff.mpr ⟨s, sumO_congr (fun b hb s' e2 => ?_) e1, rfl⟩
    obtain ⟨ps, rfl, l3, e3⟩ := bx_places e2
    simp only [bxS]
    rw [if_pos l3]
    refine sumO_congr (fun p hp s2 e4 => ?_) e3
    unfold plS at e4 ⊢
    split at e4
    · rename_i q; rw [if_pos q]; exact e4
    · rename_i q; rw [if_neg q]; exact szO_mono (by omega) e4
section
variable {T : Tab} {n : Nat} {h0 h : AH}
def grBody : List Stm := match f_law_graph.body with
  | [_, _, .for _ _ b, _] => b
  | _ => []
def plBody : List Stm := match grBody with
  | [_, .for _ _ b, _] => b
  | _ => []
/-- one place -/
theorem place_ok [GraphL T] (k d : Nat) (rec_ : 1 ≤ d → ∀ {h : AH} (room : Int), StT n h0 h → 1 ≤ room → room ≤ 24 → Rs.Ok (callN T (k + d + 2) (Str.ofString "_law_graph") [.ref n, .int d, .int room] h) fun v h' => (∃ N : Nat, szO d v = some N ∧ (N : Int) ≤ room) ∧ StT n h0 h')
    (s : StT n h0 h) {room left : Int} {many spot : Nat} {bs ps : List AV} (hm : 1 ≤ many ∧ many ≤ 8) (hl : 0 ≤ left ∧ left ≤ 23) (hps : ps.length ≤ 3) (a8 : Sv) (j : Nat) (a9 a10 a11 : Sv) :
    Rs.Ok (evSs (callN T (k + d + 2)) plBody [.vl (.ref n), .vl (.int (d + 1 : Nat)), .vl (.int room), .vl (.int many), .vl (.int left), .ol bs, .vl (.int spot), .ol ps, .vl (.int j), a9, a10, a11] h)
      fun fl h' => StT n h0 h' ∧ ∃ p s' b9 b10 b11, plS (szO d) many p = some s' ∧ (s' : Int) ≤ left ∧ fl = .nx [.vl (.ref n), .vl (.int (d + 1 : Nat)), .vl (.int room), .vl (.int many), .vl (.int (left - s')), .ol bs, .vl (.int spot), .ol (ps ++ [p]), .vl (.int j), b9, b10, b11] := by
  (try simp (disch := first | omega | assumption | (simp only [List.length_cons, List.length_nil, List.length_append, List.length_map]; omega) | decide) only [↓WA, WB, if_true, if_false, peek, hasTys, hasTy, wipeA, tgSlots, tgsSlots, cmpSlots, List.replicate, Nat.reduceAdd, Nat.reduceSub, Nat.reduceLT, Nat.reduceLeDiff, plBody, grBody, f_law_graph])
  refine (c_choice (T := T) s (k + d + 1) (m := 8) (by omega) (by omega)).mono fun v h1 ⟨way, ev, w0, w1, s1⟩ => ?_
  subst ev
  (try simp (disch := first | omega | assumption | (simp only [List.length_cons, List.length_nil, List.length_append, List.length_map]; omega) | decide) only [↓WA, WB, if_true, if_false, peek, hasTys, hasTy, wipeA, tgSlots, tgsSlots, cmpSlots, List.replicate, Nat.reduceAdd, Nat.reduceSub, Nat.reduceLT, Nat.reduceLeDiff])
  refine (c_choice (T := T) s1 (k + d + 1) (m := many) (by omega) (by omega)).mono fun v h2 ⟨t, ev, t0, t1, s2⟩ => ?_
  subst ev
  (try simp (disch := first | omega | assumption | (simp only [List.length_cons, List.length_nil, List.length_append, List.length_map]; omega) | decide) only [↓WA, WB, if_true, if_false, peek, hasTys, hasTy, wipeA, tgSlots, tgsSlots, cmpSlots, List.replicate, Nat.reduceAdd, Nat.reduceSub, Nat.reduceLT, Nat.reduceLeDiff])
  refine (c_choice (T := T) s2 (k + d + 1) (m := 19999) (by omega) (by omega)).mono fun v h3 ⟨z, ev, z0, z1, s3⟩ => ?_
  subst ev
  (try simp (disch := first | omega | assumption | (simp only [List.length_cons, List.length_nil, List.length_append, List.length_map]; omega) | decide) only [↓WA, WB, if_true, if_false, peek, hasTys, hasTy, wipeA, tgSlots, tgsSlots, cmpSlots, List.replicate, Nat.reduceAdd, Nat.reduceSub, Nat.reduceLT, Nat.reduceLeDiff])
  obtain ⟨w, ew, mw⟩ := atI_mem (α := AV) (xs := [.int 9999, .int (-9999)]) (r := (spot : Int) % 2) (by omega) (by simp; omega)
  have hw : ∃ y : Int, w = .int y ∧ -9999 ≤ y ∧ y ≤ 9999 := by
    simp only [List.mem_cons, List.not_mem_nil, or_false] at mw
    rcases mw with rfl | rfl
    · exact ⟨_, rfl, by omega, by omega⟩
    · exact ⟨_, rfl, by omega, by omega⟩
  obtain ⟨y, rfl, y0, y1⟩ := hw
  obtain ⟨p, ep, mp⟩ := atI_mem (α := AV) (xs := [.int 0, .tup [.str "tie", .int t], .int (z - 9999), .int y]) (r := way % 4) (by omega) (by simp; omega)
  have hp : plS (szO d) many p = some 0 := by
    simp only [List.mem_cons, List.not_mem_nil, or_false] at mp
    rcases mp with rfl | rfl | rfl | rfl
    · exact pl_num (by omega) (by omega)
    · exact pl_tie t0 t1
    · exact pl_num (by omega) (by omega)
    · exact pl_num y0 y1
  (try simp (disch := first | omega | assumption | (simp only [List.length_cons, List.length_nil, List.length_append, List.length_map]; omega) | decide) only [↓WA, WB, if_true, if_false, peek, hasTys, hasTy, wipeA, tgSlots, tgsSlots, cmpSlots, List.replicate, Nat.reduceAdd, Nat.reduceSub, Nat.reduceLT, Nat.reduceLeDiff, ew, ep])
  refine Br_dec (fun c1 => ?_) (fun c1 => ?_) <;> (try simp (disch := first | omega | assumption | (simp only [List.length_cons, List.length_nil, List.length_append, List.length_map]; omega) | decide) only [↓WA, WB, if_true, if_false, peek, hasTys, hasTy, wipeA, tgSlots, tgsSlots, cmpSlots, List.replicate, Nat.reduceAdd, Nat.reduceSub, Nat.reduceLT, Nat.reduceLeDiff])
  · refine Br_dec (fun c2 => ?_) (fun c2 => ?_) <;> (try simp (disch := first | omega | assumption | (simp only [List.length_cons, List.length_nil, List.length_append, List.length_map]; omega) | decide) only [↓WA, WB, if_true, if_false, peek, hasTys, hasTy, wipeA, tgSlots, tgsSlots, cmpSlots, List.replicate, Nat.reduceAdd, Nat.reduceSub, Nat.reduceLT, Nat.reduceLeDiff])
    · refine IfK_dec (fun c3 => ?_) (fun c3 => ?_) <;> (try simp (disch := first | omega | assumption | (simp only [List.length_cons, List.length_nil, List.length_append, List.length_map]; omega) | decide) only [↓WA, WB, if_true, if_false, peek, hasTys, hasTy, wipeA, tgSlots, tgsSlots, cmpSlots, List.replicate, Nat.reduceAdd, Nat.reduceSub, Nat.reduceLT, Nat.reduceLeDiff])
      · refine (c_choice (T := T) s3 (k + d + 1) (m := 9) (by omega) (by omega)).mono fun v h4 ⟨c, ev, r0, r1, s4⟩ => ?_
        subst ev
        have q4 : ((d + 1 : Nat) : Int) - 1 = d := by omega
        (try simp (disch := first | omega | assumption | (simp only [List.length_cons, List.length_nil, List.length_append, List.length_map]; omega) | decide) only [↓WA, WB, if_true, if_false, peek, hasTys, hasTy, wipeA, tgSlots, tgsSlots, cmpSlots, List.replicate, Nat.reduceAdd, Nat.reduceSub, Nat.reduceLT, Nat.reduceLeDiff, q4])
        refine (rec_ (by omega) (if 1 + c < left then 1 + c else left) s4 (by split <;> omega) (by split <;> omega)).mono fun v h5 ⟨⟨N, e1, e2⟩, s5⟩ => ?_
        have q5 : callN T (k + d + 2) (Str.ofString "_law_size") [v] h5 = .ok (.int N) h5 := by
          have := c_size (T := T) d (k + 1) h5 e1
          rw [show k + 1 + d + 1 = k + d + 2 by omega] at this
          exact this
        (try simp (disch := first | omega | assumption | (simp only [List.length_cons, List.length_nil, List.length_append, List.length_map]; omega) | decide) only [↓WA, WB, if_true, if_false, peek, hasTys, hasTy, wipeA, tgSlots, tgsSlots, cmpSlots, List.replicate, Nat.reduceAdd, Nat.reduceSub, Nat.reduceLT, Nat.reduceLeDiff, q5])
        exact ⟨s5, v, N, _, _, _, pl_gr e1, by split at e2 <;> omega, rfl⟩
      · exact ⟨s3, p, 0, _, _, _, hp, by omega, by simp; exact ⟨rfl, rfl, rfl⟩⟩
    · exact ⟨s3, p, 0, _, _, _, hp, by omega, by simp; exact ⟨rfl, rfl, rfl⟩⟩
  · exact ⟨s3, p, 0, _, _, _, hp, by omega, by simp; exact ⟨rfl, rfl, rfl⟩⟩
theorem r3_len : (rangeA 0 3).length = 3 := rfl
theorem c_law_graph [GraphL T] : ∀ (d k : Nat) {h : AH} (room : Int), StT n h0 h → 1 ≤ d → 1 ≤ room → room ≤ 24 → Rs.Ok (callN T (k + d + 2) (Str.ofString "_law_graph") [.ref n, .int d, .int room] h) fun v h' => (∃ N : Nat, szO d v = some N ∧ (N : Int) ≤ room) ∧ StT n h0 h'
  | 0, k, h, room, s, hd, h1, h2 => by omega
  | d + 1, k, h, room, s, hd, h1, h2 => by
    rw [callN_step GraphL.law_graph]
    refine w_run rfl ?_
    (try simp (disch := first | omega | assumption | (simp only [List.length_cons, List.length_nil, List.length_append, List.length_map]; omega) | decide) only [↓WA, WB, if_true, if_false, peek, hasTys, hasTy, wipeA, tgSlots, tgsSlots, cmpSlots, List.replicate, Nat.reduceAdd, Nat.reduceSub, Nat.reduceLT, Nat.reduceLeDiff, f_law_graph])
    refine (c_choice (T := T) s (k + d + 1) (m := if room < 8 then room else 8) (by split <;> omega) (by split <;> omega)).mono fun v h1' ⟨c, ev, c0, c1, s1⟩ => ?_
    subst ev
    obtain ⟨many, hmany, hm1, hm2, hm3⟩ : ∃ many : Nat, 1 + c = many ∧ 1 ≤ many ∧ many ≤ 8 ∧ (many : Int) ≤ room := ⟨(1 + c).toNat, by omega, by omega, by split at c1 <;> omega, by split at c1 <;> omega⟩
    (try simp (disch := first | omega | assumption | (simp only [List.length_cons, List.length_nil, List.length_append, List.length_map]; omega) | decide) only [↓WA, WB, if_true, if_false, peek, hasTys, hasTy, wipeA, tgSlots, tgsSlots, cmpSlots, List.replicate, Nat.reduceAdd, Nat.reduceSub, Nat.reduceLT, Nat.reduceLeDiff, hmany])
    refine ⟨by omega, ?_⟩
    refine w_for (fun i σ h' => StT n h0 h' ∧ ∃ (bs : List AV) (a : Nat) (b6 b7 b8 b9 b10 b11 : Sv), bs.length = i ∧ sumO (bxS (szO d) many) bs = some a ∧ (a : Int) + many ≤ room ∧ σ = [.vl (.ref n), .vl (.int (d + 1 : Nat)), .vl (.int room), .vl (.int many), .vl (.int (room - many - a)), .ol bs, b6, b7, b8, b9, b10, b11])
      ⟨s1, [], 0, .un, .un, .un, .un, .un, .un, rfl, rfl, by omega, by simp⟩ (fun i hi σ h' ⟨s2, bs, a, b6, b7, b8, b9, b10, b11, e1, e2, e3, eσ⟩ => ?_) (fun σ h' ⟨s2, bs, a, b6, b7, b8, b9, b10, b11, e1, e2, e3, eσ⟩ => ?_)
    · subst eσ
      rw [rangeA_len] at hi
      refine ⟨_, asg_nm (by simp), ?_⟩
      rw [rangeA_at, Int.zero_add]
      (try simp (disch := first | omega | assumption | (simp only [List.length_cons, List.length_nil, List.length_append, List.length_map]; omega) | decide) only [↓WA, WB, if_true, if_false, peek, hasTys, hasTy, wipeA, tgSlots, tgsSlots, cmpSlots, List.replicate, Nat.reduceAdd, Nat.reduceSub, Nat.reduceLT, Nat.reduceLeDiff])
      refine ⟨by omega, ?_⟩
      refine w_for (fun j σ h'' => StT n h0 h'' ∧ ∃ (ps : List AV) (a' : Nat) (b8 b9 b10 b11 : Sv), ps.length = j ∧ sumO (plS (szO d) many) ps = some a' ∧ (a : Int) + a' + many ≤ room ∧ σ = [.vl (.ref n), .vl (.int (d + 1 : Nat)), .vl (.int room), .vl (.int many), .vl (.int (room - many - a - a')), .ol bs, .vl (.int i), .ol ps, b8, b9, b10, b11])
        ⟨s2, [], 0, b8, b9, b10, b11, rfl, rfl, by omega, by simp⟩ (fun j hj σ h'' ⟨s3, ps, a', b8, b9, b10, b11, f1, f2, f3, eσ⟩ => ?_) (fun σ h'' ⟨s3, ps, a', b8, b9, b10, b11, f1, f2, f3, eσ⟩ => ?_)
      · subst eσ
        rw [r3_len] at hj
        refine ⟨_, asg_nm (by simp), ?_⟩
        rw [rangeA_at, Int.zero_add]
        refine (place_ok k d (fun hd {h} room' s' r1 r2 => c_law_graph d k room' s' hd r1 r2) s3 (room := room) (left := room - many - a - a') (many := many) (spot := i) (bs := bs) (ps := ps) ⟨hm1, hm2⟩ (by omega) (by omega) b8 j b9 b10 b11).mono fun fl h3 ⟨s4, p, s', c9, c10, c11, g1, g2, ef⟩ => ?_
        subst ef
        exact ⟨s4, ps ++ [p], a' + s', _, _, _, _, by simp [f1], sumO_snoc g1 f2, by omega, by rw [show room - (many : Int) - a - a' - s' = room - many - a - ((a' + s' : Nat) : Int) by omega]⟩
      · subst eσ
        rw [r3_len] at f1
        have hb : bxS (szO d) many (.tup ps) = some a' := by simp only [bxS]; rw [if_pos f1]; exact f2
        (try simp (disch := first | omega | assumption | (simp only [List.length_cons, List.length_nil, List.length_append, List.length_map]; omega) | decide) only [↓WA, WB, if_true, if_false, peek, hasTys, hasTy, wipeA, tgSlots, tgsSlots, cmpSlots, List.replicate, Nat.reduceAdd, Nat.reduceSub, Nat.reduceLT, Nat.reduceLeDiff])
        refine ⟨s3, bs ++ [.tup ps], a + a', .vl (.int i), .ol ps, b8, b9, b10, b11, by simp [e1], sumO_snoc hb e2, by omega, by rw [show room - (many : Int) - a - a' = room - many - ((a + a' : Nat) : Int) by omega]⟩
    · subst eσ
      rw [rangeA_len] at e1
      have hg : szO (d + 1) (.tup bs) = some (many + a) := by
        simp only [szO]
        rw [if_pos (by omega), e1, e2]
        rfl
      (try simp (disch := first | omega | assumption | (simp only [List.length_cons, List.length_nil, List.length_append, List.length_map]; omega) | decide) only [↓WA, WB, if_true, if_false, peek, hasTys, hasTy, wipeA, tgSlots, tgsSlots, cmpSlots, List.replicate, Nat.reduceAdd, Nat.reduceSub, Nat.reduceLT, Nat.reduceLeDiff])
      exact ⟨⟨many + a, hg, by omega⟩, s2⟩
def in8 : AV := .tup [.tup [.int 0, .tup [.str "tie", .int 0], .int 0], .tup [.int 1, .tup [.str "tie", .int 1], .int 0], .tup [.int 2, .tup [.str "tie", .int 2], .int 0], .tup [.int 3, .tup [.str "tie", .int 3], .int 0], .tup [.int 4, .tup [.str "tie", .int 4], .int 0], .tup [.int 5, .tup [.str "tie", .int 5], .int 0], .tup [.int 6, .tup [.str "tie", .int 6], .int 0], .tup [.int 7, .tup [.str "tie", .int 7], .int 0]]
def inF : AV → AV
  | .int i => .tup [.int i, .tup [.str "tie", .int i], .int 0]
  | _ => .non
def tpF : AV → AV
  | .int i => .tup [if i < 2 then in8 else if i = 2 then .int 0 else .int (-1), .int i, .tup [.str "tie", .int (7 - i)]]
  | _ => .non
def fo : Nat → AV
  | 0 => .tup [.tup [.int 5, .int 0, .int 0]]
  | n + 1 => .tup [.tup [fo n, .tup [.str "tie", .int 0], .int n]]
theorem r8_mem {x : AV} (h : x ∈ rangeA 0 8) : ∃ i : Nat, x = .int i ∧ i < 8 := by
  obtain ⟨i, hi, rfl⟩ := List.mem_map.mp h
  exact ⟨i, by simp, by simpa using hi⟩
theorem in8_gr : szO 4 in8 = some 8 := by decide +kernel
theorem tp_gr : szO 4 (.tup ((rangeA 0 8).map tpF)) = some 24 := by decide +kernel
theorem w2_gr : szO 4 (.tup [.tup [in8, in8, .tup (cutL [.tup [.int 0, .tup [.str "tie", .int 0], .int 0], .tup [.int 1, .tup [.str "tie", .int 1], .int 0], .tup [.int 2, .tup [.str "tie", .int 2], .int 0], .tup [.int 3, .tup [.str "tie", .int 3], .int 0], .tup [.int 4, .tup [.str "tie", .int 4], .int 0], .tup [.int 5, .tup [.str "tie", .int 5], .int 0], .tup [.int 6, .tup [.str "tie", .int 6], .int 0], .tup [.int 7, .tup [.str "tie", .int 7], .int 0]] none (some 7))]]) = some 24 := by decide +kernel
theorem fo_gr : szO 4 (fo 3) = some 4 := by decide +kernel
theorem bare_gr : szO 4 bare = some 1 := by decide +kernel
theorem c_some_graph [GraphL T] (k : Nat) (s : StT n h0 h) : Rs.Ok (callN T (k + 7) (Str.ofString "_law_some_graph") [.ref n] h) fun v h' => (∃ N, Gr v N) ∧ StT n h0 h' := by
  rw [callN_step GraphL.law_some_graph]
  refine w_run rfl ?_
  (try simp (disch := first | omega | assumption | (simp only [List.length_cons, List.length_nil, List.length_append, List.length_map]; omega) | decide) only [↓WA, WB, if_true, if_false, peek, hasTys, hasTy, wipeA, tgSlots, tgsSlots, cmpSlots, List.replicate, Nat.reduceAdd, Nat.reduceSub, Nat.reduceLT, Nat.reduceLeDiff, f_law_some_graph])
  refine (c_choice (T := T) s (k + 5) (m := 7) (by omega) (by omega)).mono fun v h1 ⟨way, ev, w0, w1, s1⟩ => ?_
  subst ev
  (try simp (disch := first | omega | assumption | (simp only [List.length_cons, List.length_nil, List.length_append, List.length_map]; omega) | decide) only [↓WA, WB, if_true, if_false, peek, hasTys, hasTy, wipeA, tgSlots, tgsSlots, cmpSlots, List.replicate, Nat.reduceAdd, Nat.reduceSub, Nat.reduceLT, Nat.reduceLeDiff])
  refine ⟨by omega, ?_⟩
  refine w_map inF (fun x hx => ?_) ?_
  · obtain ⟨i, rfl, hi⟩ := r8_mem hx
    refine ⟨_, asg_nm (by simp), ?_⟩
    (try simp (disch := first | omega | assumption | (simp only [List.length_cons, List.length_nil, List.length_append, List.length_map]; omega) | decide) only [↓WA, WB, if_true, if_false, peek, hasTys, hasTy, wipeA, tgSlots, tgsSlots, cmpSlots, List.replicate, Nat.reduceAdd, Nat.reduceSub, Nat.reduceLT, Nat.reduceLeDiff, w_bodyC, inF])
  · have e8 : AV.tup ((rangeA 0 8).map inF) = in8 := rfl
    have l8 : ((rangeA 0 8).map inF).length = 8 := rfl
    (try simp (disch := first | omega | assumption | (simp only [List.length_cons, List.length_nil, List.length_append, List.length_map]; omega) | decide) only [↓WA, WB, if_true, if_false, peek, hasTys, hasTy, wipeA, tgSlots, tgsSlots, cmpSlots, List.replicate, Nat.reduceAdd, Nat.reduceSub, Nat.reduceLT, Nat.reduceLeDiff, l8, e8])
    refine IfK_dec (fun c0 => ?_) (fun c0 => ?_) <;> (try simp (disch := first | omega | assumption | (simp only [List.length_cons, List.length_nil, List.length_append, List.length_map]; omega) | decide) only [↓WA, WB, if_true, if_false, peek, hasTys, hasTy, wipeA, tgSlots, tgsSlots, cmpSlots, List.replicate, Nat.reduceAdd, Nat.reduceSub, Nat.reduceLT, Nat.reduceLeDiff])
    · exact ⟨⟨1, bare_gr, by omega⟩, s1⟩
    refine IfK_dec (fun c1 => ?_) (fun c1 => ?_) <;> (try simp (disch := first | omega | assumption | (simp only [List.length_cons, List.length_nil, List.length_append, List.length_map]; omega) | decide) only [↓WA, WB, if_true, if_false, peek, hasTys, hasTy, wipeA, tgSlots, tgsSlots, cmpSlots, List.replicate, Nat.reduceAdd, Nat.reduceSub, Nat.reduceLT, Nat.reduceLeDiff])
    · refine ⟨by omega, ?_⟩
      refine w_map tpF (fun x hx => ?_) ?_
      · obtain ⟨i, rfl, hi⟩ := r8_mem hx
        refine ⟨_, asg_nm (by simp), ?_⟩
        have ea : L2.atI [in8, in8, .int 0, .int (-1)] (if (3 : Int) < i then 3 else i) = some (if (i : Int) < 2 then in8 else if (i : Int) = 2 then .int 0 else .int (-1)) := by
          have : i = 0 ∨ i = 1 ∨ i = 2 ∨ i = 3 ∨ i = 4 ∨ i = 5 ∨ i = 6 ∨ i = 7 := by omega
          rcases this with rfl | rfl | rfl | rfl | rfl | rfl | rfl | rfl <;> rfl
        (try simp (disch := first | omega | assumption | (simp only [List.length_cons, List.length_nil, List.length_append, List.length_map]; omega) | decide) only [↓WA, WB, if_true, if_false, peek, hasTys, hasTy, wipeA, tgSlots, tgsSlots, cmpSlots, List.replicate, Nat.reduceAdd, Nat.reduceSub, Nat.reduceLT, Nat.reduceLeDiff, w_bodyC, ea, tpF])
      · have l8' : ((rangeA 0 8).map tpF).length = 8 := rfl
        (try simp (disch := first | omega | assumption | (simp only [List.length_cons, List.length_nil, List.length_append, List.length_map]; omega) | decide) only [↓WA, WB, if_true, if_false, peek, hasTys, hasTy, wipeA, tgSlots, tgsSlots, cmpSlots, List.replicate, Nat.reduceAdd, Nat.reduceSub, Nat.reduceLT, Nat.reduceLeDiff, l8'])
        exact ⟨⟨24, tp_gr, by omega⟩, s1⟩
    refine IfK_dec (fun c2 => ?_) (fun c2 => ?_) <;> (try simp (disch := first | omega | assumption | (simp only [List.length_cons, List.length_nil, List.length_append, List.length_map]; omega) | decide) only [↓WA, WB, if_true, if_false, peek, hasTys, hasTy, wipeA, tgSlots, tgsSlots, cmpSlots, List.replicate, Nat.reduceAdd, Nat.reduceSub, Nat.reduceLT, Nat.reduceLeDiff])
    · (try simp (disch := first | omega | assumption | (simp only [List.length_cons, List.length_nil, List.length_append, List.length_map]; omega) | decide) only [↓WA, WB, if_true, if_false, peek, hasTys, hasTy, wipeA, tgSlots, tgsSlots, cmpSlots, List.replicate, Nat.reduceAdd, Nat.reduceSub, Nat.reduceLT, Nat.reduceLeDiff, in8])
      exact ⟨⟨24, w2_gr, by omega⟩, s1⟩
    refine IfK_dec (fun c3 => ?_) (fun c3 => ?_) <;> (try simp (disch := first | omega | assumption | (simp only [List.length_cons, List.length_nil, List.length_append, List.length_map]; omega) | decide) only [↓WA, WB, if_true, if_false, peek, hasTys, hasTy, wipeA, tgSlots, tgsSlots, cmpSlots, List.replicate, Nat.reduceAdd, Nat.reduceSub, Nat.reduceLT, Nat.reduceLeDiff])
    · refine ⟨by omega, ?_⟩
      refine w_for (fun i σ h' => h' = h1 ∧ ∃ b4, σ = [.vl (.ref n), .vl (.int way), .vl in8, .vl (fo i), b4]) ⟨rfl, _, rfl⟩ (fun i hi σ h' ⟨eh, b4, eσ⟩ => ?_) (fun σ h' ⟨eh, b4, eσ⟩ => ?_)
      · subst eh eσ
        refine ⟨_, asg_nm (by simp), ?_⟩
        rw [rangeA_at, Int.zero_add]
        (try simp (disch := first | omega | assumption | (simp only [List.length_cons, List.length_nil, List.length_append, List.length_map]; omega) | decide) only [↓WA, WB, if_true, if_false, peek, hasTys, hasTy, wipeA, tgSlots, tgsSlots, cmpSlots, List.replicate, Nat.reduceAdd, Nat.reduceSub, Nat.reduceLT, Nat.reduceLeDiff])
        exact ⟨.vl (.int i), rfl⟩
      · subst eh eσ
        (try simp (disch := first | omega | assumption | (simp only [List.length_cons, List.length_nil, List.length_append, List.length_map]; omega) | decide) only [↓WA, WB, if_true, if_false, peek, hasTys, hasTy, wipeA, tgSlots, tgsSlots, cmpSlots, List.replicate, Nat.reduceAdd, Nat.reduceSub, Nat.reduceLT, Nat.reduceLeDiff])
        exact ⟨⟨4, fo_gr, by omega⟩, s1⟩
    refine (c_choice (T := T) s1 (k + 5) (m := 4) (by omega) (by omega)).mono fun v h2 ⟨c, ev, r0, r1, s2⟩ => ?_
    subst ev
    (try simp (disch := first | omega | assumption | (simp only [List.length_cons, List.length_nil, List.length_append, List.length_map]; omega) | decide) only [↓WA, WB, if_true, if_false, peek, hasTys, hasTy, wipeA, tgSlots, tgsSlots, cmpSlots, List.replicate, Nat.reduceAdd, Nat.reduceSub, Nat.reduceLT, Nat.reduceLeDiff])
    obtain ⟨w, ew, mw⟩ := atI_mem (α := AV) (xs := [.int 3, .int 8, .int 24]) (r := way - 4) (by omega) (by simp; omega)
    have hw : ∃ y : Int, w = .int y ∧ 1 ≤ y ∧ y ≤ 24 := by
      simp only [List.mem_cons, List.not_mem_nil, or_false] at mw
      rcases mw with rfl | rfl | rfl <;> exact ⟨_, rfl, by omega, by omega⟩
    obtain ⟨y, rfl, y0, y1⟩ := hw
    obtain ⟨D, hD, d0, d1⟩ : ∃ D : Nat, 1 + c = D ∧ 1 ≤ D ∧ D ≤ 4 := ⟨(1 + c).toNat, by omega, by omega, by omega⟩
    (try simp (disch := first | omega | assumption | (simp only [List.length_cons, List.length_nil, List.length_append, List.length_map]; omega) | decide) only [↓WA, WB, if_true, if_false, peek, hasTys, hasTy, wipeA, tgSlots, tgsSlots, cmpSlots, List.replicate, Nat.reduceAdd, Nat.reduceSub, Nat.reduceLT, Nat.reduceLeDiff, ew, hD])
    have q := c_law_graph (T := T) (n := n) (h0 := h0) D (k + (4 - D)) (h := h2) y s2 d0 y0 y1
    rw [show k + (4 - D) + D + 2 = k + 6 by omega] at q
    refine q.mono fun v h3 ⟨⟨N, e1, e2⟩, s3⟩ => ?_
    (try simp (disch := first | omega | assumption | (simp only [List.length_cons, List.length_nil, List.length_append, List.length_map]; omega) | decide) only [↓WA, WB, if_true, if_false, peek, hasTys, hasTy, wipeA, tgSlots, tgsSlots, cmpSlots, List.replicate, Nat.reduceAdd, Nat.reduceSub, Nat.reduceLT, Nat.reduceLeDiff])
    exact ⟨⟨N, szO_mono d1 e1, by omega⟩, s3⟩
end
end S

set_option linter.all false
set_option maxRecDepth 100000
set_option maxHeartbeats 4000000
/-! SN: nets: what the defs come to, in whatever table. -/
namespace S
open PySem G
def kd_UNLIKE : List (Str × AV) := [("let", (.tup [(.int 1), (.int 2)])), ("hang", (.tup [(.int 1), (.int 4)]))]
def kd_FORMS : List (Str × AV) := [("num", (.str "an")), ("sum", (.str "aaoa")), ("new", (.str "g")), ("let", (.str "gg")), ("add", (.str "ga")), ("put", (.str "gaka")), ("tie", (.str "gaka")), ("hang", (.str "gakg")), ("get", (.str "agak")), ("sort", (.str "agak")), ("pick", (.str "ggak")), ("send", (.str "sg")), ("take", (.str "gt")), ("tell", (.str "a")), ("show", (.str "g")), ("if", (.str "abb")), ("while", (.str "ab"))]
def f_is_number_name : Fn := ⟨2, 1, [(.ife (.or (.not (.e (.isi (.var 0) [.str]))) (.not (.e (.chain .le .le (.c (.int 1)) (.bi .len [(.var 0)]) (.c (.int 6)))))) [(.ret (.c (.bl false)))] []), (.ret (.bi .all [(.comp (.cl (.nm 1) (.sq (.var 0)) [] (.elt (.cmp .mem (.var 1) (.c (.str "abcdefghijklmnopqrstuvwxyz"))))))]))]⟩
def f_is_graph_name : Fn := ⟨2, 1, [(.ife (.or (.not (.e (.isi (.var 0) [.str]))) (.or (.not (.e (.chain .le .le (.c (.int 1)) (.bi .len [(.var 0)]) (.c (.int 6))))) (.e (.cmp .nmem (.sub (.var 0) (.c (.int 0))) (.c (.str "ABCDEFGHIJKLMNOPQRSTUVWXYZ")))))) [(.ret (.c (.bl false)))] []), (.ret (.bi .all [(.comp (.cl (.nm 1) (.sq (.slice (.var 0) (some (.c (.int 1))) none)) [] (.elt (.cmp .mem (.var 1) (.c (.str "abcdefghijklmnopqrstuvwxyz"))))))]))]⟩
def f_is_op : Fn := ⟨1, 1, [(.ret (.and (.isi (.var 0) [.str]) (.cmp .mem (.var 0) (.c (.tup [(.str "+"), (.str "-"), (.str "*"), (.str "<"), (.str "=")])))))]⟩
def f_is_end_of : Fn := ⟨4, 4, [(.ife (.e (.cmp .is (.var 0) (.c .non))) [(.ret (.call "is_within" [(.var 1), (.c (.int 0)), (.bin .sub (.c (.int 6)) (.c (.int 1)))]))] []), (.ret (.and (.call "is_within" [(.var 1), (.c (.int 0)), (.bin .sub (.bi .len [(.var 0)]) (.c (.int 1)))]) (.cmp .eq (.sub (.sub (.var 0) (.var 1)) (.var 3)) (.var 2))))]⟩
def f_is_part : Fn := ⟨4, 4, [(.ife (.e (.cmp .eq (.var 2) (.c (.str "a")))) [(.ret (.call "is_number_name" [(.var 3)]))] []), (.ife (.e (.cmp .eq (.var 2) (.c (.str "g")))) [(.ret (.call "is_graph_name" [(.var 3)]))] []), (.ife (.e (.cmp .eq (.var 2) (.c (.str "n")))) [(.ret (.call "is_number" [(.var 3)]))] []), (.ife (.e (.cmp .eq (.var 2) (.c (.str "o")))) [(.ret (.call "is_op" [(.var 3)]))] []), (.ife (.e (.cmp .eq (.var 2) (.c (.str "k")))) [(.ret (.call "is_within" [(.var 3), (.c (.int 0)), (.bin .sub (.c (.int 3)) (.c (.int 1)))]))] []), (.ife (.e (.cmp .eq (.var 2) (.c (.str "s")))) [(.ret (.call "is_end_of" [(.var 0), (.var 3), (.var 1), (.c (.int 0))]))] []), (.ret (.call "is_end_of" [(.var 0), (.var 3), (.var 1), (.c (.int 1))]))]⟩
def f_has_word : Fn := ⟨1, 1, [(.ret (.and (.isi (.var 0) [.tuple]) (.and (.cmp .ne (.var 0) (.tup [])) (.and (.isi (.sub (.var 0) (.c (.int 0))) [.str]) (.kin false (.sub (.var 0) (.c (.int 0))) kd_FORMS)))))]⟩
def f_is_deed : Fn := ⟨10, 3, [(.ife (.or (.not (.e (.call "has_word" [(.var 2)]))) (.e (.cmp .ne (.bi .len [(.var 2)]) (.bin .add (.c (.int 1)) (.bi .len [(.kget kd_FORMS (.sub (.var 2) (.c (.int 0))))]))))) [(.ret (.c (.bl false)))] []), (.star 3 4 (.var 2)), (.frzd [4] (.set 5 (.comp (.cl (.tp [(.nm 8), (.nm 9)]) (.zp (.kget kd_FORMS (.var 3)) (.var 4)) [(.e (.cmp .ne (.var 8) (.c (.str "b"))))] (.elt (.tup [(.var 8), (.var 9)])))))), (.ife (.not (.e (.bi .all [(.comp (.cl (.tp [(.nm 8), (.nm 9)]) (.sq (.var 5)) [] (.elt (.call "is_part" [(.var 0), (.var 1), (.var 8), (.var 9)]))))]))) [(.ret (.c (.bl false)))] []), (.ife (.e (.kin true (.var 3) kd_UNLIKE)) [(.ret (.c (.bl true)))] []), (.asg (.tp [(.nm 6), (.nm 7)]) (.kget kd_UNLIKE (.var 3))), (.ret (.cmp .ne (.sub (.var 2) (.var 6)) (.sub (.var 2) (.var 7))))]⟩
def f_blocks_in : Fn := ⟨1, 1, [(.ife (.e (.cmp .eq (.sub (.var 0) (.c (.int 0))) (.c (.str "if")))) [(.ret (.slice (.var 0) (some (.c (.int 2))) none))] []), (.ret (.ife (.e (.cmp .eq (.sub (.var 0) (.c (.int 0))) (.c (.str "while")))) (.slice (.var 0) (some (.c (.int 2))) none) (.tup [])))]⟩
def f_is_block : Fn := ⟨6, 4, [(.ife (.or (.e (.cmp .eq (.var 3) (.c (.int 0)))) (.or (.not (.e (.isi (.var 2) [.tuple]))) (.e (.cmp .gt (.bi .len [(.var 2)]) (.c (.int 12)))))) [(.ret (.c (.bl false)))] []), (.for (.nm 4) (.sq (.var 2)) [(.ife (.not (.e (.call "is_deed" [(.var 0), (.var 1), (.var 4)]))) [(.ret (.c (.bl false)))] []), (.ife (.not (.e (.bi .all [(.comp (.cl (.nm 5) (.sq (.call "blocks_in" [(.var 4)])) [] (.elt (.call "is_block" [(.var 0), (.var 1), (.var 5), (.bin .sub (.var 3) (.c (.int 1)))]))))]))) [(.ret (.c (.bl false)))] [])]), (.ret (.c (.bl true)))]⟩
def f_many_in : Fn := ⟨3, 1, [(.ret (.bi .sum [(.comp (.cl (.nm 1) (.sq (.var 0)) [] (.elt (.bin .add (.c (.int 1)) (.bi .sum [(.comp (.cl (.nm 2) (.sq (.call "blocks_in" [(.var 1)])) [] (.elt (.call "many_in" [(.var 2)]))))])))))]))]⟩
def f_are_channels : Fn := ⟨4, 2, [(.ife (.or (.not (.e (.isi (.var 1) [.tuple]))) (.e (.cmp .gt (.bi .len [(.var 1)]) (.c (.int 6))))) [(.ret (.c (.bl false)))] []), (.for (.nm 2) (.sq (.var 1)) [(.ife (.or (.not (.e (.isi (.var 2) [.tuple]))) (.or (.e (.cmp .ne (.bi .len [(.var 2)]) (.c (.int 2)))) (.not (.e (.bi .all [(.comp (.cl (.nm 3) (.sq (.var 2)) [] (.elt (.call "is_within" [(.var 3), (.c (.int 0)), (.bin .sub (.var 0) (.c (.int 1)))]))))]))))) [(.ret (.c (.bl false)))] []), (.ife (.e (.cmp .eq (.sub (.var 2) (.c (.int 0))) (.sub (.var 2) (.c (.int 1))))) [(.ret (.c (.bl false)))] [])]), (.ret (.c (.bl true)))]⟩
def f_is_net : Fn := ⟨5, 1, [(.ife (.or (.not (.e (.isi (.var 0) [.tuple]))) (.e (.cmp .ne (.bi .len [(.var 0)]) (.c (.int 2))))) [(.ret (.c (.bl false)))] []), (.asg (.tp [(.nm 1), (.nm 2)]) (.var 0)), (.ife (.or (.not (.e (.isi (.var 2) [.tuple]))) (.not (.e (.chain .le .le (.c (.int 1)) (.bi .len [(.var 2)]) (.c (.int 4)))))) [(.ret (.c (.bl false)))] []), (.ife (.not (.e (.call "are_channels" [(.bi .len [(.var 2)]), (.var 1)]))) [(.ret (.c (.bl false)))] []), (.for (.tp [(.nm 3), (.nm 4)]) (.en (.var 2)) [(.ife (.or (.not (.e (.call "is_block" [(.var 1), (.var 3), (.var 4), (.c (.int 4))]))) (.e (.cmp .gt (.call "many_in" [(.var 4)]) (.c (.int 40))))) [(.ret (.c (.bl false)))] [])]), (.ret (.c (.bl true)))]⟩
def f_need_net : Fn := ⟨1, 1, [(.ife (.not (.e (.call "is_net" [(.var 0)]))) [.never] [])]⟩
class Nets (T : Tab) : Prop extends Core T where
  is_number : T.lookup (Str.ofString "is_number") = some f_is_number
  is_number_name : T.lookup (Str.ofString "is_number_name") = some f_is_number_name
  is_graph_name : T.lookup (Str.ofString "is_graph_name") = some f_is_graph_name
  is_op : T.lookup (Str.ofString "is_op") = some f_is_op
  is_end_of : T.lookup (Str.ofString "is_end_of") = some f_is_end_of
  is_part : T.lookup (Str.ofString "is_part") = some f_is_part
  has_word : T.lookup (Str.ofString "has_word") = some f_has_word
  is_deed : T.lookup (Str.ofString "is_deed") = some f_is_deed
  blocks_in : T.lookup (Str.ofString "blocks_in") = some f_blocks_in
  is_block : T.lookup (Str.ofString "is_block") = some f_is_block
  many_in : T.lookup (Str.ofString "many_in") = some f_many_in
  are_channels : T.lookup (Str.ofString "are_channels") = some f_are_channels
  is_net : T.lookup (Str.ofString "is_net") = some f_is_net
  need_net : T.lookup (Str.ofString "need_net") = some f_need_net
def smallS : Str := "abcdefghijklmnopqrstuvwxyz"
def capS : Str := "ABCDEFGHIJKLMNOPQRSTUVWXYZ"
def memS (b : Str) : AV → Bool
  | .str a => !(Builtin.Str.occurrences b a 0 b.length 1).isEmpty
  | _ => false
theorem opC_memS {a b : Str} {h : AH} : opC .mem (.str a) (.str b) h = some (memS b (.str a)) := rfl
theorem opC_nmemS {a b : Str} {h : AH} : opC .nmem (.str a) (.str b) h = some (!memS b (.str a)) := rfl
theorem bi_lenZ {z : Str} {h : AH} (hz : z.length ≤ 1000) : opBi .len [.str z] h = .ok (.int z.length) h := if_pos (szle hz)
theorem strA_str {z : Str} {x : AV} (h : x ∈ strA z) : ∃ a, x = .str a := by
  obtain ⟨c, _, rfl⟩ := List.mem_map.mp h
  exact ⟨_, rfl⟩
theorem strA_ln (z : Str) : (strA z).length = z.length := by
  unfold strA
  rw [List.length_map, str_len]
/-- a number-name, a graph-name, an op -/
def nmB : AV → Bool
  | .str z => decide (1 ≤ z.length ∧ z.length ≤ 6) && (strA z).all (memS smallS)
  | _ => false
def gnB : AV → Bool
  | .str z => decide (1 ≤ z.length ∧ z.length ≤ 6) && ((strA z).take 1).all (memS capS) && (strA (L2.cutS z (some 1) none)).all (memS smallS)
  | _ => false
def opsB : AV → Bool
  | .str z => ("+" : Str) == z || (("-" : Str) == z || (("*" : Str) == z || (("<" : Str) == z || (("=" : Str) == z || false))))
  | _ => false
/-- what is known, and not too long a text -/
def kn : AV → Bool
  | .str z => decide (z.length ≤ 1000)
  | v => known v
theorem kn_known {v : AV} (h : kn v = true) : known v = true := by cases v <;> first | exact h | rfl
/-- channels, or none -/
def cnV (cs : List (Int × Int)) : AV := .tup (cs.map fun p => .tup [.int p.1, .int p.2])
def cnO : Option (List (Int × Int)) → AV
  | none => .non
  | some cs => cnV cs
def sideI (s : Bool) : Int := if s then 1 else 0
def endB : Option (List (Int × Int)) → Int → Bool → AV → Bool
  | none, _, _, x => within 0 5 x
  | some cs, a, s, .int i => decide (0 ≤ i ∧ i ≤ (cs.length : Int) - 1) && (match cs[i.toNat]? with
    | some p => decide ((if s then p.2 else p.1) = a)
    | none => false)
  | some _, _, _, _ => false
def partB (cn : Option (List (Int × Int))) (a : Int) (f : Str) (x : AV) : Bool :=
  if (f == "a") = true then nmB x else if (f == "g") = true then gnB x else if (f == "n") = true then numB x else if (f == "o") = true then opsB x
  else if (f == "k") = true then within 0 2 x else if (f == "s") = true then endB cn a false x else endB cn a true x
section
variable {T : Tab}
theorem c_number [Nets T] (n : Nat) (v : AV) (h : AH) (hv : known v = true) : callN T (n + 3) (Str.ofString "is_number") [v] h = .ok (.bl (numB v)) h := by
  rw [callN_step Nets.is_number]
  refine Ok_eq (w_run rfl ?_)
  have e := c_is_within (T := T) n v (-9999) 9999 h hv
  (try simp (disch := first | omega | assumption | (simp only [List.length_cons, List.length_nil, List.length_append, List.length_map]; omega) | decide) only [↓WA, WB, if_true, if_false, peek, hasTys, hasTy, wipeA, tgSlots, tgsSlots, cmpSlots, List.replicate, Nat.reduceAdd, Nat.reduceSub, Nat.reduceLT, Nat.reduceLeDiff, f_is_number, e, numB])
theorem c_num_name [Nets T] (n : Nat) (v : AV) (h : AH) (hv : kn v = true) : callN T (n + 1) (Str.ofString "is_number_name") [v] h = .ok (.bl (nmB v)) h := by
  rw [callN_step Nets.is_number_name]
  refine Ok_eq (w_run rfl ?_)
  have hk := kn_known hv
  cases v <;> first | (simp [known] at hk; done) | skip
  case str z =>
    have hz : z.length ≤ 1000 := by simpa [kn] using hv
    have hl := strA_ln z
    (try simp (disch := first | omega | assumption | (simp only [List.length_cons, List.length_nil, List.length_append, List.length_map]; omega) | decide) only [↓WA, WB, if_true, if_false, peek, hasTys, hasTy, wipeA, tgSlots, tgsSlots, cmpSlots, List.replicate, Nat.reduceAdd, Nat.reduceSub, Nat.reduceLT, Nat.reduceLeDiff, f_is_number_name, bi_lenZ hz])
    refine Br_dec (fun c1 => ?_) (fun c1 => ?_) <;> (try simp (disch := first | omega | assumption | (simp only [List.length_cons, List.length_nil, List.length_append, List.length_map]; omega) | decide) only [↓WA, WB, if_true, if_false, peek, hasTys, hasTy, wipeA, tgSlots, tgsSlots, cmpSlots, List.replicate, Nat.reduceAdd, Nat.reduceSub, Nat.reduceLT, Nat.reduceLeDiff])
    · refine IfK_of (fun c2 => ?_) (fun c2 => ?_) <;> (try simp (disch := first | omega | assumption | (simp only [List.length_cons, List.length_nil, List.length_append, List.length_map]; omega) | decide) only [↓WA, WB, if_true, if_false, peek, hasTys, hasTy, wipeA, tgSlots, tgsSlots, cmpSlots, List.replicate, Nat.reduceAdd, Nat.reduceSub, Nat.reduceLT, Nat.reduceLeDiff])
      · have : nmB (.str z) = false := by simp only [nmB]; rw [decide_eq_false (by simp at c2; omega)]; rfl
        rw [this]
      · refine w_map (fun x => .bl (memS smallS x)) (fun x hx => ?_) ?_
        · obtain ⟨a, rfl⟩ := strA_str hx
          refine ⟨_, asg_nm (by simp), ?_⟩
          (try simp (disch := first | omega | assumption | (simp only [List.length_cons, List.length_nil, List.length_append, List.length_map]; omega) | decide) only [↓WA, WB, if_true, if_false, peek, hasTys, hasTy, wipeA, tgSlots, tgsSlots, cmpSlots, List.replicate, Nat.reduceAdd, Nat.reduceSub, Nat.reduceLT, Nat.reduceLeDiff, w_bodyC, opC_memS])
          try rfl
        · (try simp (disch := first | omega | assumption | (simp only [List.length_cons, List.length_nil, List.length_append, List.length_map]; omega) | decide) only [↓WA, WB, if_true, if_false, peek, hasTys, hasTy, wipeA, tgSlots, tgsSlots, cmpSlots, List.replicate, Nat.reduceAdd, Nat.reduceSub, Nat.reduceLT, Nat.reduceLeDiff])
          simp only [nmB]
          rw [decide_eq_true (by simp at c2; omega), List.all_map]
          rfl
    · have : nmB (.str z) = false := by simp only [nmB]; rw [decide_eq_false (by omega)]; rfl
      rw [this]
  all_goals (try simp (disch := first | omega | assumption | (simp only [List.length_cons, List.length_nil, List.length_append, List.length_map]; omega) | decide) only [↓WA, WB, if_true, if_false, peek, hasTys, hasTy, wipeA, tgSlots, tgsSlots, cmpSlots, List.replicate, Nat.reduceAdd, Nat.reduceSub, Nat.reduceLT, Nat.reduceLeDiff, f_is_number_name, nmB])
theorem c_graph_name [Nets T] (n : Nat) (v : AV) (h : AH) (hv : kn v = true) : callN T (n + 1) (Str.ofString "is_graph_name") [v] h = .ok (.bl (gnB v)) h := by
  rw [callN_step Nets.is_graph_name]
  refine Ok_eq (w_run rfl ?_)
  have hk := kn_known hv
  cases v <;> first | (simp [known] at hk; done) | skip
  case str z =>
    have hz : z.length ≤ 1000 := by simpa [kn] using hv
    (try simp (disch := first | omega | assumption | (simp only [List.length_cons, List.length_nil, List.length_append, List.length_map]; omega) | decide) only [↓WA, WB, if_true, if_false, peek, hasTys, hasTy, wipeA, tgSlots, tgsSlots, cmpSlots, List.replicate, Nat.reduceAdd, Nat.reduceSub, Nat.reduceLT, Nat.reduceLeDiff, f_is_graph_name, bi_lenZ hz])
    refine Br_dec (fun c1 => ?_) (fun c1 => ?_) <;> (try simp (disch := first | omega | assumption | (simp only [List.length_cons, List.length_nil, List.length_append, List.length_map]; omega) | decide) only [↓WA, WB, if_true, if_false, peek, hasTys, hasTy, wipeA, tgSlots, tgsSlots, cmpSlots, List.replicate, Nat.reduceAdd, Nat.reduceSub, Nat.reduceLT, Nat.reduceLeDiff])
    · refine Br_of (fun c2 => ?_) (fun c2 => ?_) <;> (try simp (disch := first | omega | assumption | (simp only [List.length_cons, List.length_nil, List.length_append, List.length_map]; omega) | decide) only [↓WA, WB, if_true, if_false, peek, hasTys, hasTy, wipeA, tgSlots, tgsSlots, cmpSlots, List.replicate, Nat.reduceAdd, Nat.reduceSub, Nat.reduceLT, Nat.reduceLeDiff])
      · have : gnB (.str z) = false := by simp only [gnB]; rw [decide_eq_false (by simp at c2; omega)]; rfl
        rw [this]
      · obtain ⟨c, r, hc⟩ : ∃ c r, z.cps.toList = c :: r := by
          cases q : z.cps.toList with
          | nil => rw [str_len, q] at c1; simp at c1
          | cons c r => exact ⟨c, r, rfl⟩
        have e0 : opSub (.str z) (.int 0) h = some (.str ⟨#[c]⟩) := by
          simp only [opSub]
          rw [if_pos (szle hz), hc, atI_zero]
          rfl
        have e1 : (strA z).take 1 = [.str ⟨#[c]⟩] := by unfold strA; rw [hc]; rfl
        have hg : gnB (.str z) = (memS capS (.str ⟨#[c]⟩) && (strA (L2.cutS z (some 1) none)).all (memS smallS)) := by
          simp only [gnB]
          rw [decide_eq_true (by simp at c2; omega), e1]
          simp
        (try simp (disch := first | omega | assumption | (simp only [List.length_cons, List.length_nil, List.length_append, List.length_map]; omega) | decide) only [↓WA, WB, if_true, if_false, peek, hasTys, hasTy, wipeA, tgSlots, tgsSlots, cmpSlots, List.replicate, Nat.reduceAdd, Nat.reduceSub, Nat.reduceLT, Nat.reduceLeDiff, e0, opC_nmemS])
        refine IfK_of (fun c3 => ?_) (fun c3 => ?_) <;> (try simp (disch := first | omega | assumption | (simp only [List.length_cons, List.length_nil, List.length_append, List.length_map]; omega) | decide) only [↓WA, WB, if_true, if_false, peek, hasTys, hasTy, wipeA, tgSlots, tgsSlots, cmpSlots, List.replicate, Nat.reduceAdd, Nat.reduceSub, Nat.reduceLT, Nat.reduceLeDiff])
        · have c3' : memS capS (.str ⟨#[c]⟩) = false := by simpa [capS] using c3
          rw [hg, c3']; rfl
        · have c3' : memS capS (.str ⟨#[c]⟩) = true := by simpa [capS] using c3
          have e2 : opSlice (.str z) (some 1) none h = some (.str (L2.cutS z (some 1) none)) := if_pos (szle hz)
          have hl := strA_ln (L2.cutS z (some 1) none)
          have hl2 : (L2.cutS z (some 1) none).length ≤ 1000 := by
            rw [str_len]
            unfold L2.cutS
            simp
            have : z.cps.size = z.length := rfl
            omega
          (try simp (disch := first | omega | assumption | (simp only [List.length_cons, List.length_nil, List.length_append, List.length_map]; omega) | decide) only [↓WA, WB, if_true, if_false, peek, hasTys, hasTy, wipeA, tgSlots, tgsSlots, cmpSlots, List.replicate, Nat.reduceAdd, Nat.reduceSub, Nat.reduceLT, Nat.reduceLeDiff, e2])
          refine w_map (fun x => .bl (memS smallS x)) (fun x hx => ?_) ?_
          · obtain ⟨a, rfl⟩ := strA_str hx
            refine ⟨_, asg_nm (by simp), ?_⟩
            (try simp (disch := first | omega | assumption | (simp only [List.length_cons, List.length_nil, List.length_append, List.length_map]; omega) | decide) only [↓WA, WB, if_true, if_false, peek, hasTys, hasTy, wipeA, tgSlots, tgsSlots, cmpSlots, List.replicate, Nat.reduceAdd, Nat.reduceSub, Nat.reduceLT, Nat.reduceLeDiff, w_bodyC, opC_memS])
            try rfl
          · (try simp (disch := first | omega | assumption | (simp only [List.length_cons, List.length_nil, List.length_append, List.length_map]; omega) | decide) only [↓WA, WB, if_true, if_false, peek, hasTys, hasTy, wipeA, tgSlots, tgsSlots, cmpSlots, List.replicate, Nat.reduceAdd, Nat.reduceSub, Nat.reduceLT, Nat.reduceLeDiff])
            rw [hg, c3', List.all_map]
            rfl
    · have : gnB (.str z) = false := by simp only [gnB]; rw [decide_eq_false (by omega)]; rfl
      rw [this]
  all_goals (try simp (disch := first | omega | assumption | (simp only [List.length_cons, List.length_nil, List.length_append, List.length_map]; omega) | decide) only [↓WA, WB, if_true, if_false, peek, hasTys, hasTy, wipeA, tgSlots, tgsSlots, cmpSlots, List.replicate, Nat.reduceAdd, Nat.reduceSub, Nat.reduceLT, Nat.reduceLeDiff, f_is_graph_name, gnB])
theorem c_op [Nets T] (n : Nat) (v : AV) (h : AH) (hv : known v = true) : callN T (n + 1) (Str.ofString "is_op") [v] h = .ok (.bl (opsB v)) h := by
  rw [callN_step Nets.is_op]
  refine Ok_eq (w_run rfl ?_)
  cases v <;> first | (simp [known] at hv; done) | skip
  case str z =>
    have e : opC .mem (.str z) (.tup [(.str "+"), (.str "-"), (.str "*"), (.str "<"), (.str "=")]) h = some (opsB (.str z)) := by
      simp only [opC, items, Option.bind_some, pyIn, eqD_str, Option.map_some, opsB]
    (try simp (disch := first | omega | assumption | (simp only [List.length_cons, List.length_nil, List.length_append, List.length_map]; omega) | decide) only [↓WA, WB, if_true, if_false, peek, hasTys, hasTy, wipeA, tgSlots, tgsSlots, cmpSlots, List.replicate, Nat.reduceAdd, Nat.reduceSub, Nat.reduceLT, Nat.reduceLeDiff, f_is_op, e])
  all_goals (try simp (disch := first | omega | assumption | (simp only [List.length_cons, List.length_nil, List.length_append, List.length_map]; omega) | decide) only [↓WA, WB, if_true, if_false, peek, hasTys, hasTy, wipeA, tgSlots, tgsSlots, cmpSlots, List.replicate, Nat.reduceAdd, Nat.reduceSub, Nat.reduceLT, Nat.reduceLeDiff, f_is_op, opsB])
theorem c_end_of [Nets T] (n : Nat) (cn : Option (List (Int × Int))) (v : AV) (a : Int) (sd : Bool) (h : AH) (hv : known v = true) (hl : ∀ cs, cn = some cs → cs.length ≤ 900) : callN T (n + 3) (Str.ofString "is_end_of") [cnO cn, v, .int a, .int (sideI sd)] h = .ok (.bl (endB cn a sd v)) h := by
  rw [callN_step Nets.is_end_of]
  refine Ok_eq (w_run rfl ?_)
  cases cn with
  | none =>
    have e := c_is_within (T := T) n v 0 (6 - 1) h hv
    (try simp (disch := first | omega | assumption | (simp only [List.length_cons, List.length_nil, List.length_append, List.length_map]; omega) | decide) only [↓WA, WB, if_true, if_false, peek, hasTys, hasTy, wipeA, tgSlots, tgsSlots, cmpSlots, List.replicate, Nat.reduceAdd, Nat.reduceSub, Nat.reduceLT, Nat.reduceLeDiff, f_is_end_of, e, cnO])
    simp only [endB]
    rfl
  | some cs =>
    have hc := hl cs rfl
    have e := c_is_within (T := T) n v 0 ((cs.length : Int) - 1) h hv
    cases v <;> first | (simp [known] at hv; done) | skip
    case int i =>
      (try simp (disch := first | omega | assumption | (simp only [List.length_cons, List.length_nil, List.length_append, List.length_map]; omega) | decide) only [↓WA, WB, if_true, if_false, peek, hasTys, hasTy, wipeA, tgSlots, tgsSlots, cmpSlots, List.replicate, Nat.reduceAdd, Nat.reduceSub, Nat.reduceLT, Nat.reduceLeDiff, f_is_end_of, e, cnO, cnV, within])
      refine Br_dec (fun c1 => ?_) (fun c1 => ?_) <;> (try simp (disch := first | omega | assumption | (simp only [List.length_cons, List.length_nil, List.length_append, List.length_map]; omega) | decide) only [↓WA, WB, if_true, if_false, peek, hasTys, hasTy, wipeA, tgSlots, tgsSlots, cmpSlots, List.replicate, Nat.reduceAdd, Nat.reduceSub, Nat.reduceLT, Nat.reduceLeDiff])
      · obtain ⟨I, rfl⟩ : ∃ I : Nat, i = I := ⟨i.toNat, by omega⟩
        have hI : I < cs.length := by omega
        have e1 : L2.atI (cs.map fun p => AV.tup [.int p.1, .int p.2]) (I : Int) = some (.tup [.int cs[I].1, .int cs[I].2]) := by rw [atI_nat (by simpa using hI)]; simp
        have e2 : cs[(I : Int).toNat]? = some cs[I] := by simp [hI]
        have hB : endB (some cs) a sd (.int I) = decide ((if sd = true then cs[I].2 else cs[I].1) = a) := by
          simp only [endB, e2]
          rw [decide_eq_true (by omega)]; simp
        cases sd with
        | false => (try simp (disch := first | omega | assumption | (simp only [List.length_cons, List.length_nil, List.length_append, List.length_map]; omega) | decide) only [↓WA, WB, if_true, if_false, peek, hasTys, hasTy, wipeA, tgSlots, tgsSlots, cmpSlots, List.replicate, Nat.reduceAdd, Nat.reduceSub, Nat.reduceLT, Nat.reduceLeDiff, e1, sideI, hB])
        | true => (try simp (disch := first | omega | assumption | (simp only [List.length_cons, List.length_nil, List.length_append, List.length_map]; omega) | decide) only [↓WA, WB, if_true, if_false, peek, hasTys, hasTy, wipeA, tgSlots, tgsSlots, cmpSlots, List.replicate, Nat.reduceAdd, Nat.reduceSub, Nat.reduceLT, Nat.reduceLeDiff, e1, sideI, hB])
      · have : endB (some cs) a sd (.int i) = false := by
          simp only [endB]
          rw [decide_eq_false c1]; rfl
        rw [this]
    all_goals (try simp (disch := first | omega | assumption | (simp only [List.length_cons, List.length_nil, List.length_append, List.length_map]; omega) | decide) only [↓WA, WB, if_true, if_false, peek, hasTys, hasTy, wipeA, tgSlots, tgsSlots, cmpSlots, List.replicate, Nat.reduceAdd, Nat.reduceSub, Nat.reduceLT, Nat.reduceLeDiff, f_is_end_of, e, cnO, cnV, within, endB])
theorem c_part [Nets T] (n : Nat) (cn : Option (List (Int × Int))) (a : Int) (f : Str) (v : AV) (h : AH) (hv : kn v = true) (hl : ∀ cs, cn = some cs → cs.length ≤ 900) : callN T (n + 4) (Str.ofString "is_part") [cnO cn, .int a, .str f, v] h = .ok (.bl (partB cn a f v)) h := by
  rw [callN_step Nets.is_part]
  refine Ok_eq (w_run rfl ?_)
  have hk := kn_known hv
  have q1 := c_num_name (T := T) (n + 2) v h hv
  have q2 := c_graph_name (T := T) (n + 2) v h hv
  have q3 := c_number (T := T) n v h hk
  have q4 := c_op (T := T) (n + 2) v h hk
  have q5 := c_is_within (T := T) (n + 1) v 0 (3 - 1) h hk
  have q6 : callN T (n + 3) (Str.ofString "is_end_of") [cnO cn, v, .int a, .int 0] h = _ := c_end_of n cn v a false h hk hl
  have q7 : callN T (n + 3) (Str.ofString "is_end_of") [cnO cn, v, .int a, .int 1] h = _ := c_end_of n cn v a true h hk hl
  (try simp (disch := first | omega | assumption | (simp only [List.length_cons, List.length_nil, List.length_append, List.length_map]; omega) | decide) only [↓WA, WB, if_true, if_false, peek, hasTys, hasTy, wipeA, tgSlots, tgsSlots, cmpSlots, List.replicate, Nat.reduceAdd, Nat.reduceSub, Nat.reduceLT, Nat.reduceLeDiff, f_is_part])
  refine IfK_of (fun c => ?_) (fun c => ?_) <;> (try simp (disch := first | omega | assumption | (simp only [List.length_cons, List.length_nil, List.length_append, List.length_map]; omega) | decide) only [↓WA, WB, if_true, if_false, peek, hasTys, hasTy, wipeA, tgSlots, tgsSlots, cmpSlots, List.replicate, Nat.reduceAdd, Nat.reduceSub, Nat.reduceLT, Nat.reduceLeDiff, q1])
  · simp only [partB]; rw [if_pos c]
  simp only [partB]; rw [if_neg (by simp [c])]
  refine IfK_of (fun c => ?_) (fun c => ?_) <;> (try simp (disch := first | omega | assumption | (simp only [List.length_cons, List.length_nil, List.length_append, List.length_map]; omega) | decide) only [↓WA, WB, if_true, if_false, peek, hasTys, hasTy, wipeA, tgSlots, tgsSlots, cmpSlots, List.replicate, Nat.reduceAdd, Nat.reduceSub, Nat.reduceLT, Nat.reduceLeDiff, q2])
  · rw [if_pos c]
  rw [if_neg (by simp [c])]
  refine IfK_of (fun c => ?_) (fun c => ?_) <;> (try simp (disch := first | omega | assumption | (simp only [List.length_cons, List.length_nil, List.length_append, List.length_map]; omega) | decide) only [↓WA, WB, if_true, if_false, peek, hasTys, hasTy, wipeA, tgSlots, tgsSlots, cmpSlots, List.replicate, Nat.reduceAdd, Nat.reduceSub, Nat.reduceLT, Nat.reduceLeDiff, q3])
  · rw [if_pos c]
  rw [if_neg (by simp [c])]
  refine IfK_of (fun c => ?_) (fun c => ?_) <;> (try simp (disch := first | omega | assumption | (simp only [List.length_cons, List.length_nil, List.length_append, List.length_map]; omega) | decide) only [↓WA, WB, if_true, if_false, peek, hasTys, hasTy, wipeA, tgSlots, tgsSlots, cmpSlots, List.replicate, Nat.reduceAdd, Nat.reduceSub, Nat.reduceLT, Nat.reduceLeDiff, q4])
  · rw [if_pos c]
  rw [if_neg (by simp [c])]
  refine IfK_of (fun c => ?_) (fun c => ?_) <;> (try simp (disch := first | omega | assumption | (simp only [List.length_cons, List.length_nil, List.length_append, List.length_map]; omega) | decide) only [↓WA, WB, if_true, if_false, peek, hasTys, hasTy, wipeA, tgSlots, tgsSlots, cmpSlots, List.replicate, Nat.reduceAdd, Nat.reduceSub, Nat.reduceLT, Nat.reduceLeDiff, q5])
  · rw [if_pos c]; rfl
  rw [if_neg (by simp [c])]
  refine IfK_of (fun c => ?_) (fun c => ?_) <;> (try simp (disch := first | omega | assumption | (simp only [List.length_cons, List.length_nil, List.length_append, List.length_map]; omega) | decide) only [↓WA, WB, if_true, if_false, peek, hasTys, hasTy, wipeA, tgSlots, tgsSlots, cmpSlots, List.replicate, Nat.reduceAdd, Nat.reduceSub, Nat.reduceLT, Nat.reduceLeDiff, q6])
  · rw [if_pos c]
  rw [if_neg (by simp [c])]
  (try simp (disch := first | omega | assumption | (simp only [List.length_cons, List.length_nil, List.length_append, List.length_map]; omega) | decide) only [↓WA, WB, if_true, if_false, peek, hasTys, hasTy, wipeA, tgSlots, tgsSlots, cmpSlots, List.replicate, Nat.reduceAdd, Nat.reduceSub, Nat.reduceLT, Nat.reduceLeDiff, q7])
end
theorem lookup_mem {α : Type} : ∀ {l : List (Str × α)} {w : Str} {v : α}, l.lookup w = some v → (w, v) ∈ l
  | [], _, _, h => by cases h
  | q :: l, w, v, h => by
    rw [List.lookup_cons] at h
    cases hb : w == q.1 with
    | true =>
      rw [hb] at h
      cases h
      rw [beq_iff_eq] at hb
      rw [hb]; exact List.mem_cons_self
    | false => rw [hb] at h; exact List.mem_cons_of_mem _ (lookup_mem h)
theorem forms_str {w : Str} {v : AV} (h : kd_FORMS.lookup w = some v) : ∃ f, v = .str f ∧ f.length ≤ 4 := by
  have hall : kd_FORMS.all (fun p => match p.2 with
    | .str f => decide (f.length ≤ 4)
    | _ => false) = true := by decide +kernel
  have q := List.all_eq_true.mp hall _ (lookup_mem h)
  dsimp only at q
  split at q
  · exact ⟨_, rfl, by simpa using q⟩
  · cases q
theorem unlike_ok {w : Str} {v : AV} (h : kd_UNLIKE.lookup w = some v) : (w = "let" ∧ v = .tup [.int 1, .int 2]) ∨ (w = "hang" ∧ v = .tup [.int 1, .int 4]) := by
  have := lookup_mem h
  simp only [kd_UNLIKE, List.mem_cons, Prod.mk.injEq, List.not_mem_nil, or_false] at this
  exact this
def notB : AV → Bool
  | .tup [.str f, _] => !(f == ("b" : Str))
  | _ => true
def pairB (cn : Option (List (Int × Int))) (a : Int) : AV → Bool
  | .tup [.str f, x] => partB cn a f x
  | _ => false
def unlB (w : Str) (th : List AV) : Bool := match kd_UNLIKE.lookup w with
  | some (.tup [.int i, .int j]) => (match th[i.toNat]?, th[j.toNat]? with
    | some (.str x), some (.str y) => !(x == y)
    | _, _ => false)
  | _ => true
/-- a statement, its blocks not looked at -/
def dedB (cn : Option (List (Int × Int))) (a : Int) : AV → Bool
  | .tup (.str w :: ps) => (match kd_FORMS.lookup w with
    | some (.str f) => decide (ps.length = f.length) && (((zipA (strA f) ps).filter notB).all (pairB cn a) && unlB w (.str w :: ps))
    | _ => false)
  | _ => false
theorem g_notB (x : AV) : notB (.tup [.str "g", x]) = true := by
  simp only [notB]
  decide
theorem g_str {cn : Option (List (Int × Int))} {a : Int} {x : AV} (h : pairB cn a (.tup [.str "g", x]) = true) : ∃ z, x = .str z := by
  simp only [pairB, partB] at h
  rw [if_neg (by decide), if_pos (by decide)] at h
  cases x <;> first | exact ⟨_, rfl⟩ | (simp [gnB] at h)
section
variable {T : Tab}
theorem gd_kn {g D : Nat} {v : AV} (hg : g ≤ 10) (h : gd g D v = true) : kn v = true := by
  cases v
  case str z =>
    have : okS (6 + g) z := okS_sc.mp h
    simp only [kn, decide_eq_true_eq]
    rw [str_len]
    have := this.1
    omega
  all_goals exact gd_known h
def hasW : AV → Bool
  | .tup (.str w :: _) => (kd_FORMS.lookup w).isSome
  | _ => false
theorem c_has_word [Nets T] {g D : Nat} (hg : g ≤ 10) (n : Nat) (v : AV) (h : AH) (hv : gd g D v = true) : callN T (n + 1) (Str.ofString "has_word") [v] h = .ok (.bl (hasW v)) h := by
  rw [callN_step Nets.has_word]
  refine Ok_eq (w_run rfl ?_)
  have hk := gd_known hv
  cases v <;> first | (simp [known] at hk; done) | skip
  case tup xs =>
    obtain ⟨D', rfl, hl, hm⟩ := gd_tup hv
    cases xs with
    | nil => (try simp (disch := first | omega | assumption | (simp only [List.length_cons, List.length_nil, List.length_append, List.length_map]; omega) | decide) only [↓WA, WB, if_true, if_false, peek, hasTys, hasTy, wipeA, tgSlots, tgsSlots, cmpSlots, List.replicate, Nat.reduceAdd, Nat.reduceSub, Nat.reduceLT, Nat.reduceLeDiff, f_has_word, eqD_tnil, List.isEmpty_nil, hasW])
    | cons x xs =>
      have hx := gd_known (hm x (by simp))
      cases x <;> first | (simp [known] at hx; done) | skip
      case str w => (try simp (disch := first | omega | assumption | (simp only [List.length_cons, List.length_nil, List.length_append, List.length_map]; omega) | decide) only [↓WA, WB, if_true, if_false, peek, hasTys, hasTy, wipeA, tgSlots, tgsSlots, cmpSlots, List.replicate, Nat.reduceAdd, Nat.reduceSub, Nat.reduceLT, Nat.reduceLeDiff, f_has_word, eqD_tnil, List.isEmpty_cons, hasW])
      all_goals (try simp (disch := first | omega | assumption | (simp only [List.length_cons, List.length_nil, List.length_append, List.length_map]; omega) | decide) only [↓WA, WB, if_true, if_false, peek, hasTys, hasTy, wipeA, tgSlots, tgsSlots, cmpSlots, List.replicate, Nat.reduceAdd, Nat.reduceSub, Nat.reduceLT, Nat.reduceLeDiff, f_has_word, eqD_tnil, List.isEmpty_cons, hasW])
  all_goals (try simp (disch := first | omega | assumption | (simp only [List.length_cons, List.length_nil, List.length_append, List.length_map]; omega) | decide) only [↓WA, WB, if_true, if_false, peek, hasTys, hasTy, wipeA, tgSlots, tgsSlots, cmpSlots, List.replicate, Nat.reduceAdd, Nat.reduceSub, Nat.reduceLT, Nat.reduceLeDiff, f_has_word, hasW])
theorem c_deed [Nets T] {g D : Nat} (hg : g ≤ 10) (n : Nat) (cn : Option (List (Int × Int))) (a : Int) (v : AV) (h : AH) (hv : gd g D v = true) (hcn : ∀ cs, cn = some cs → cs.length ≤ 900) : callN T (n + 5) (Str.ofString "is_deed") [cnO cn, .int a, v] h = .ok (.bl (dedB cn a v)) h := by
  rw [callN_step Nets.is_deed]
  refine Ok_eq (w_run rfl ?_)
  have q1 := c_has_word (T := T) hg (n + 3) v h hv
  by_cases hw : ∃ w ps f, v = .tup (.str w :: ps) ∧ kd_FORMS.lookup w = some (.str f)
  · obtain ⟨w, ps, f, rfl, hf⟩ := hw
    obtain ⟨D', rfl, hl, hm⟩ := gd_tup hv
    obtain ⟨f', ef, hf4⟩ := forms_str hf
    cases ef
    have hd : dedB cn a (.tup (.str w :: ps)) = (decide (ps.length = f.length) && (((zipA (strA f) ps).filter notB).all (pairB cn a) && unlB w (.str w :: ps))) := by simp only [dedB, hf]
    simp only [hasW, hf, Option.isSome_some] at q1
    simp only [List.length_cons] at hl
    (try simp (disch := first | omega | assumption | (simp only [List.length_cons, List.length_nil, List.length_append, List.length_map]; omega) | decide) only [↓WA, WB, if_true, if_false, peek, hasTys, hasTy, wipeA, tgSlots, tgsSlots, cmpSlots, List.replicate, Nat.reduceAdd, Nat.reduceSub, Nat.reduceLT, Nat.reduceLeDiff, f_is_deed, q1, hf, bi_lenZ (show f.length ≤ 1000 by omega)])
    have hzl := zipA_len (strA f) ps
    have hpr : ∀ z ∈ zipA (strA f) ps, ∃ c x, z = .tup [.str c, x] ∧ x ∈ ps := fun z hz => by
      obtain ⟨c, x, h1, h2, rfl⟩ := zip_mem hz
      obtain ⟨c, rfl⟩ := strA_str h1
      exact ⟨c, x, rfl, h2⟩
    have hfl := List.length_filter_le notB (zipA (strA f) ps)
    refine IfK_of (fun c1 => ?_) (fun c1 => ?_) <;> (try simp (disch := first | omega | assumption | (simp only [List.length_cons, List.length_nil, List.length_append, List.length_map]; omega) | decide) only [↓WA, WB, if_true, if_false, peek, hasTys, hasTy, wipeA, tgSlots, tgsSlots, cmpSlots, List.replicate, Nat.reduceAdd, Nat.reduceSub, Nat.reduceLT, Nat.reduceLeDiff, hf, frzAt])
    · rw [hd, decide_eq_false (by simp at c1; omega)]; rfl
    have hlen : ps.length = f.length := by simp at c1; omega
    refine w_filt notB (fun z hz => ?_) ?_
    · obtain ⟨c, x, rfl, _⟩ := hpr z hz
      refine ⟨_, rfl, ?_⟩
      (try simp (disch := first | omega | assumption | (simp only [List.length_cons, List.length_nil, List.length_append, List.length_map]; omega) | decide) only [↓WA, WB, if_true, if_false, peek, hasTys, hasTy, wipeA, tgSlots, tgsSlots, cmpSlots, List.replicate, Nat.reduceAdd, Nat.reduceSub, Nat.reduceLT, Nat.reduceLeDiff, w_bodyC, notB])
      refine Br_of (fun c2 => ?_) (fun c2 => ?_) <;> (try simp (disch := first | omega | assumption | (simp only [List.length_cons, List.length_nil, List.length_append, List.length_map]; omega) | decide) only [↓WA, WB, if_true, if_false, peek, hasTys, hasTy, wipeA, tgSlots, tgsSlots, cmpSlots, List.replicate, Nat.reduceAdd, Nat.reduceSub, Nat.reduceLT, Nat.reduceLeDiff])
      · simp only [Bool.not_eq_true'] at c2
        simp only [notB, c2]
        simp
      · simp only [Bool.not_eq_false'] at c2
        simp only [notB, c2]
        simp
    (try simp (disch := first | omega | assumption | (simp only [List.length_cons, List.length_nil, List.length_append, List.length_map]; omega) | decide) only [↓WA, WB, if_true, if_false, peek, hasTys, hasTy, wipeA, tgSlots, tgsSlots, cmpSlots, List.replicate, Nat.reduceAdd, Nat.reduceSub, Nat.reduceLT, Nat.reduceLeDiff])
    refine w_map (fun z => .bl (pairB cn a z)) (fun z hz => ?_) ?_
    · obtain ⟨c, x, rfl, hx⟩ := hpr z (List.mem_filter.mp hz).1
      refine ⟨_, rfl, ?_⟩
      have e := c_part (T := T) n cn a c x h (gd_kn hg (hm x (List.mem_cons_of_mem _ hx))) hcn
      (try simp (disch := first | omega | assumption | (simp only [List.length_cons, List.length_nil, List.length_append, List.length_map]; omega) | decide) only [↓WA, WB, if_true, if_false, peek, hasTys, hasTy, wipeA, tgSlots, tgsSlots, cmpSlots, List.replicate, Nat.reduceAdd, Nat.reduceSub, Nat.reduceLT, Nat.reduceLeDiff, w_bodyC, e, pairB])
    (try simp (disch := first | omega | assumption | (simp only [List.length_cons, List.length_nil, List.length_append, List.length_map]; omega) | decide) only [↓WA, WB, if_true, if_false, peek, hasTys, hasTy, wipeA, tgSlots, tgsSlots, cmpSlots, List.replicate, Nat.reduceAdd, Nat.reduceSub, Nat.reduceLT, Nat.reduceLeDiff])
    rw [List.all_map]
    refine IfK_of (fun c2 => ?_) (fun c2 => ?_) <;> (try simp (disch := first | omega | assumption | (simp only [List.length_cons, List.length_nil, List.length_append, List.length_map]; omega) | decide) only [↓WA, WB, if_true, if_false, peek, hasTys, hasTy, wipeA, tgSlots, tgsSlots, cmpSlots, List.replicate, Nat.reduceAdd, Nat.reduceSub, Nat.reduceLT, Nat.reduceLeDiff])
    · rw [hd]
      have c2' : ((zipA (strA f) ps).filter notB).all (pairB cn a) = false := by simpa [Function.comp_def] using c2
      rw [c2']; simp
    have c2' : ((zipA (strA f) ps).filter notB).all (pairB cn a) = true := by simpa [Function.comp_def] using c2
    rw [c2', hlen] at hd
    cases hu : kd_UNLIKE.lookup w with
    | none =>
      (try simp (disch := first | omega | assumption | (simp only [List.length_cons, List.length_nil, List.length_append, List.length_map]; omega) | decide) only [↓WA, WB, if_true, if_false, peek, hasTys, hasTy, wipeA, tgSlots, tgsSlots, cmpSlots, List.replicate, Nat.reduceAdd, Nat.reduceSub, Nat.reduceLT, Nat.reduceLeDiff, hu, Option.isSome_none])
      rw [hd]
      simp [unlB, hu]
    | some v =>
      (try simp (disch := first | omega | assumption | (simp only [List.length_cons, List.length_nil, List.length_append, List.length_map]; omega) | decide) only [↓WA, WB, if_true, if_false, peek, hasTys, hasTy, wipeA, tgSlots, tgsSlots, cmpSlots, List.replicate, Nat.reduceAdd, Nat.reduceSub, Nat.reduceLT, Nat.reduceLeDiff, hu, Option.isSome_some])
      have hall := List.all_eq_true.mp c2'
      rcases unlike_ok hu with ⟨rfl, rfl⟩ | ⟨rfl, rfl⟩
      · have ef : f = "gg" := by
          have e : kd_FORMS.lookup (Str.ofString "let") = some (.str "gg") := rfl
          rw [e] at hf; cases hf; rfl
        subst ef
        have hl2 : ps.length = 2 := by rw [hlen]; decide
        obtain ⟨x, y, rfl⟩ : ∃ x y, ps = [x, y] := by
          match ps, hl2 with
          | [x, y], _ => exact ⟨x, y, rfl⟩
        have m1 := hall (.tup [.str "g", x]) (List.mem_filter.mpr ⟨by show _ ∈ [_, _]; simp [strA]; exact .inl rfl, g_notB x⟩)
        have m2 := hall (.tup [.str "g", y]) (List.mem_filter.mpr ⟨by show _ ∈ [_, _]; simp [strA]; exact .inr rfl, g_notB y⟩)
        obtain ⟨z1, rfl⟩ := g_str m1
        obtain ⟨z2, rfl⟩ := g_str m2
        refine Ok_lift rfl ?_
        (try simp (disch := first | omega | assumption | (simp only [List.length_cons, List.length_nil, List.length_append, List.length_map]; omega) | decide) only [↓WA, WB, if_true, if_false, peek, hasTys, hasTy, wipeA, tgSlots, tgsSlots, cmpSlots, List.replicate, Nat.reduceAdd, Nat.reduceSub, Nat.reduceLT, Nat.reduceLeDiff])
        rw [hd]
        simp [unlB, hu]
      · have ef : f = "gakg" := by
          have e : kd_FORMS.lookup (Str.ofString "hang") = some (.str "gakg") := rfl
          rw [e] at hf; cases hf; rfl
        subst ef
        have hl2 : ps.length = 4 := by rw [hlen]; decide
        obtain ⟨x, y1, y2, y, rfl⟩ : ∃ x y1 y2 y, ps = [x, y1, y2, y] := by
          match ps, hl2 with
          | [x, y1, y2, y], _ => exact ⟨x, y1, y2, y, rfl⟩
        have m1 := hall (.tup [.str "g", x]) (List.mem_filter.mpr ⟨by show _ ∈ [_, _, _, _]; simp [strA]; exact .inl rfl, g_notB x⟩)
        have m2 := hall (.tup [.str "g", y]) (List.mem_filter.mpr ⟨by show _ ∈ [_, _, _, _]; simp [strA]; exact .inr (.inr (.inr rfl)), g_notB y⟩)
        obtain ⟨z1, rfl⟩ := g_str m1
        obtain ⟨z2, rfl⟩ := g_str m2
        refine Ok_lift rfl ?_
        have e4 : L2.atI [.str "hang", .str z1, y1, y2, .str z2] 4 = some (.str z2) := rfl
        (try simp (disch := first | omega | assumption | (simp only [List.length_cons, List.length_nil, List.length_append, List.length_map]; omega) | decide) only [↓WA, WB, if_true, if_false, peek, hasTys, hasTy, wipeA, tgSlots, tgsSlots, cmpSlots, List.replicate, Nat.reduceAdd, Nat.reduceSub, Nat.reduceLT, Nat.reduceLeDiff, e4])
        rw [hd]
        simp [unlB, hu]
  · have hd : dedB cn a v = false := by
      unfold dedB
      split
      · split
        · rename_i f hf
          exact absurd ⟨_, _, f, rfl, hf⟩ hw
        · rfl
      · rfl
    have hb : hasW v = false := by
      unfold hasW
      split
      · rename_i _ w ps
        cases e : kd_FORMS.lookup w with
        | none => rfl
        | some u =>
          obtain ⟨f, rfl, _⟩ := forms_str e
          exact absurd ⟨_, _, f, rfl, e⟩ hw
      · rfl
    rw [hb] at q1
    (try simp (disch := first | omega | assumption | (simp only [List.length_cons, List.length_nil, List.length_append, List.length_map]; omega) | decide) only [↓WA, WB, if_true, if_false, peek, hasTys, hasTy, wipeA, tgSlots, tgsSlots, cmpSlots, List.replicate, Nat.reduceAdd, Nat.reduceSub, Nat.reduceLT, Nat.reduceLeDiff, f_is_deed, q1])
    rw [hd]
end
/-! ### blocks -/
def blksOf : AV → List AV
  | .tup (.str w :: r) => if (w == "if") = true then r.drop 1 else if (w == "while") = true then r.drop 1 else []
  | _ => []
def blkB (cn : Option (List (Int × Int))) (a : Int) : Nat → AV → Bool
  | 0, _ => false
  | d + 1, v => match v with
    | .tup bs => decide (bs.length ≤ 12) && bs.all fun one => dedB cn a one && (blksOf one).all (blkB cn a d)
    | _ => false
def manyN : Nat → AV → Nat
  | 0, _ => 0
  | d + 1, v => match v with
    | .tup bs => (bs.map fun one => 1 + ((blksOf one).map (manyN d)).sum).sum
    | _ => 0
theorem dedB_shape {cn : Option (List (Int × Int))} {a : Int} {v : AV} (h : dedB cn a v = true) : ∃ w ps, v = .tup (.str w :: ps) := by
  unfold dedB at h
  split at h
  · exact ⟨_, _, rfl⟩
  · cases h
section
variable {T : Tab}
theorem c_blocks_in [Nets T] (n : Nat) (w : Str) (ps : List AV) (h : AH) : callN T (n + 1) (Str.ofString "blocks_in") [.tup (.str w :: ps)] h = .ok (.tup (blksOf (.tup (.str w :: ps)))) h := by
  rw [callN_step Nets.blocks_in]
  refine Ok_eq (w_run rfl ?_)
  have e2 : cutL (AV.str w :: ps) (some 2) none = ps.drop 1 := cut_from (AV.str w :: ps) 2
  (try simp (disch := first | omega | assumption | (simp only [List.length_cons, List.length_nil, List.length_append, List.length_map]; omega) | decide) only [↓WA, WB, if_true, if_false, peek, hasTys, hasTy, wipeA, tgSlots, tgsSlots, cmpSlots, List.replicate, Nat.reduceAdd, Nat.reduceSub, Nat.reduceLT, Nat.reduceLeDiff, f_blocks_in, e2])
  refine IfK_of (fun c => ?_) (fun c => ?_) <;> (try simp (disch := first | omega | assumption | (simp only [List.length_cons, List.length_nil, List.length_append, List.length_map]; omega) | decide) only [↓WA, WB, if_true, if_false, peek, hasTys, hasTy, wipeA, tgSlots, tgsSlots, cmpSlots, List.replicate, Nat.reduceAdd, Nat.reduceSub, Nat.reduceLT, Nat.reduceLeDiff, e2])
  · simp only [blksOf]; rw [if_pos c]
  · simp only [blksOf]
    rw [if_neg (by simp [c])]
    refine Br_of (fun c2 => ?_) (fun c2 => ?_) <;> (try simp (disch := first | omega | assumption | (simp only [List.length_cons, List.length_nil, List.length_append, List.length_map]; omega) | decide) only [↓WA, WB, if_true, if_false, peek, hasTys, hasTy, wipeA, tgSlots, tgsSlots, cmpSlots, List.replicate, Nat.reduceAdd, Nat.reduceSub, Nat.reduceLT, Nat.reduceLeDiff, e2])
    · rw [if_pos c2]
    · rw [if_neg (by simp [c2])]
theorem blks_len {w : Str} {ps : List AV} : (blksOf (.tup (.str w :: ps))).length ≤ ps.length := by
  simp only [blksOf]
  split
  · simp
  · split <;> simp
theorem blks_mem {w : Str} {ps : List AV} {x : AV} (h : x ∈ blksOf (.tup (.str w :: ps))) : x ∈ ps := by
  simp only [blksOf] at h
  split at h
  · exact List.mem_of_mem_drop h
  · split at h
    · exact List.mem_of_mem_drop h
    · cases h
theorem c_block [Nets T] {g : Nat} (hg : g ≤ 10) (cn : Option (List (Int × Int))) (a : Int) (hcn : ∀ cs, cn = some cs → cs.length ≤ 900) : ∀ (d k : Nat) (v : AV) (D : Nat) (h : AH), gd g D v = true → callN T (k + d + 6) (Str.ofString "is_block") [cnO cn, .int a, v, .int d] h = .ok (.bl (blkB cn a d v)) h
  | 0, k, v, D, h, hv => by
    rw [callN_step Nets.is_block]
    refine Ok_eq (w_run rfl ?_)
    (try simp (disch := first | omega | assumption | (simp only [List.length_cons, List.length_nil, List.length_append, List.length_map]; omega) | decide) only [↓WA, WB, if_true, if_false, peek, hasTys, hasTy, wipeA, tgSlots, tgsSlots, cmpSlots, List.replicate, Nat.reduceAdd, Nat.reduceSub, Nat.reduceLT, Nat.reduceLeDiff, f_is_block, d00, blkB])
  | d + 1, k, v, D, h, hv => by
    rw [callN_step Nets.is_block]
    refine Ok_eq (w_run rfl ?_)
    have hd : decide (((d + 1 : Nat) : Int) = 0) = false := decide_eq_false (by omega)
    have hkn := gd_known hv
    cases v <;> first | (simp [known] at hkn; done) | skip
    case tup bs =>
      obtain ⟨D', rfl, hl, hm⟩ := gd_tup hv
      have hs : blkB cn a (d + 1) (.tup bs) = (decide (bs.length ≤ 12) && bs.all fun one => dedB cn a one && (blksOf one).all (blkB cn a d)) := rfl
      (try simp (disch := first | omega | assumption | (simp only [List.length_cons, List.length_nil, List.length_append, List.length_map]; omega) | decide) only [↓WA, WB, if_true, if_false, peek, hasTys, hasTy, wipeA, tgSlots, tgsSlots, cmpSlots, List.replicate, Nat.reduceAdd, Nat.reduceSub, Nat.reduceLT, Nat.reduceLeDiff, f_is_block, hd])
      refine IfK_dec (fun h1 => ?_) (fun h1 => ?_) <;> (try simp (disch := first | omega | assumption | (simp only [List.length_cons, List.length_nil, List.length_append, List.length_map]; omega) | decide) only [↓WA, WB, if_true, if_false, peek, hasTys, hasTy, wipeA, tgSlots, tgsSlots, cmpSlots, List.replicate, Nat.reduceAdd, Nat.reduceSub, Nat.reduceLT, Nat.reduceLeDiff])
      · rw [hs, decide_eq_false (by omega)]; rfl
      · rw [decide_eq_true (by omega), Bool.true_and] at hs
        refine w_for (fun i σ h' => h' = h ∧ (bs.take i).all (fun one => dedB cn a one && (blksOf one).all (blkB cn a d)) = true ∧ ∃ a4 a5, σ = [.vl (cnO cn), .vl (.int a), .vl (.tup bs), .vl (.int (d + 1 : Nat)), a4, a5]) ⟨rfl, rfl, _, _, rfl⟩ (fun i hi σ h' ⟨eh, q, a4, a5, eσ⟩ => ?_) (fun σ h' ⟨eh, q, a4, a5, eσ⟩ => ?_)
        · subst eh eσ
          refine ⟨_, asg_nm (by simp), ?_⟩
          have hb := hm bs[i] (List.getElem_mem hi)
          have hbm : bs[i] ∈ bs := List.getElem_mem hi
          have hnext : (dedB cn a bs[i] && (blksOf bs[i]).all (blkB cn a d)) = true → (bs.take (i + 1)).all (fun one => dedB cn a one && (blksOf one).all (blkB cn a d)) = true := fun e => by
            rw [List.take_succ_eq_append_getElem hi, List.all_append, q]
            simp only [List.all_cons, List.all_nil, e, Bool.and_self]
          have hbad : (dedB cn a bs[i] && (blksOf bs[i]).all (blkB cn a d)) = false → blkB cn a (d + 1) (.tup bs) = false := fun e => by
            rw [hs]
            cases z : bs.all (fun one => dedB cn a one && (blksOf one).all (blkB cn a d)) with
            | false => rfl
            | true =>
              have := List.all_eq_true.mp z _ hbm
              rw [e] at this; cases this
          generalize bs[i] = b at hb hbm hnext hbad
          have q1 : callN T (k + (d + 1) + 5) (Str.ofString "is_deed") [cnO cn, .int a, b] h' = _ := c_deed (T := T) hg (k + (d + 1)) cn a b h' hb hcn
          have q4 : ((d + 1 : Nat) : Int) - 1 = d := by omega
          (try simp (disch := first | omega | assumption | (simp only [List.length_cons, List.length_nil, List.length_append, List.length_map]; omega) | decide) only [↓WA, WB, if_true, if_false, peek, hasTys, hasTy, wipeA, tgSlots, tgsSlots, cmpSlots, List.replicate, Nat.reduceAdd, Nat.reduceSub, Nat.reduceLT, Nat.reduceLeDiff, q1])
          refine IfK_of (fun c1 => ?_) (fun c1 => ?_) <;> (try simp (disch := first | omega | assumption | (simp only [List.length_cons, List.length_nil, List.length_append, List.length_map]; omega) | decide) only [↓WA, WB, if_true, if_false, peek, hasTys, hasTy, wipeA, tgSlots, tgsSlots, cmpSlots, List.replicate, Nat.reduceAdd, Nat.reduceSub, Nat.reduceLT, Nat.reduceLeDiff])
          · simp only [Bool.not_eq_true'] at c1
            rw [hbad (by rw [c1]; rfl)]
          · simp only [Bool.not_eq_false'] at c1
            obtain ⟨w, ps, rfl⟩ := dedB_shape c1
            obtain ⟨D2, rfl, hl2, hm2⟩ := gd_tup hb
            have hbl := blks_len (w := w) (ps := ps)
            simp only [List.length_cons] at hl2
            have q2 : callN T (k + (d + 1) + 5) (Str.ofString "blocks_in") [.tup (.str w :: ps)] h' = _ := c_blocks_in (T := T) (k + (d + 1) + 4) w ps h'
            (try simp (disch := first | omega | assumption | (simp only [List.length_cons, List.length_nil, List.length_append, List.length_map]; omega) | decide) only [↓WA, WB, if_true, if_false, peek, hasTys, hasTy, wipeA, tgSlots, tgsSlots, cmpSlots, List.replicate, Nat.reduceAdd, Nat.reduceSub, Nat.reduceLT, Nat.reduceLeDiff, q2])
            refine w_map (fun x => .bl (blkB cn a d x)) (fun x hx => ⟨_, asg_nm (by simp), ?_⟩) ?_
            · have q3 : callN T (k + (d + 1) + 5) (Str.ofString "is_block") [cnO cn, .int a, x, .int d] h' = _ := c_block hg cn a hcn d k x D2 h' (hm2 x (List.mem_cons_of_mem _ (blks_mem hx)))
              (try simp (disch := first | omega | assumption | (simp only [List.length_cons, List.length_nil, List.length_append, List.length_map]; omega) | decide) only [↓WA, WB, if_true, if_false, peek, hasTys, hasTy, wipeA, tgSlots, tgsSlots, cmpSlots, List.replicate, Nat.reduceAdd, Nat.reduceSub, Nat.reduceLT, Nat.reduceLeDiff, w_bodyC, q3, q4])
            · (try simp (disch := first | omega | assumption | (simp only [List.length_cons, List.length_nil, List.length_append, List.length_map]; omega) | decide) only [↓WA, WB, if_true, if_false, peek, hasTys, hasTy, wipeA, tgSlots, tgsSlots, cmpSlots, List.replicate, Nat.reduceAdd, Nat.reduceSub, Nat.reduceLT, Nat.reduceLeDiff])
              rw [List.all_map]
              refine IfK_of (fun c2 => ?_) (fun c2 => ?_) <;> (try simp (disch := first | omega | assumption | (simp only [List.length_cons, List.length_nil, List.length_append, List.length_map]; omega) | decide) only [↓WA, WB, if_true, if_false, peek, hasTys, hasTy, wipeA, tgSlots, tgsSlots, cmpSlots, List.replicate, Nat.reduceAdd, Nat.reduceSub, Nat.reduceLT, Nat.reduceLeDiff])
              · have c2' : (blksOf (.tup (.str w :: ps))).all (blkB cn a d) = false := by simpa [Function.comp_def] using c2
                rw [hbad (by rw [c1, c2']; rfl)]
              · have c2' : (blksOf (.tup (.str w :: ps))).all (blkB cn a d) = true := by simpa [Function.comp_def] using c2
                exact ⟨hnext (by rw [c1, c2']; rfl), _, _, rfl⟩
        · subst eh eσ
          rw [List.take_length] at q
          (try simp (disch := first | omega | assumption | (simp only [List.length_cons, List.length_nil, List.length_append, List.length_map]; omega) | decide) only [↓WA, WB, if_true, if_false, peek, hasTys, hasTy, wipeA, tgSlots, tgsSlots, cmpSlots, List.replicate, Nat.reduceAdd, Nat.reduceSub, Nat.reduceLT, Nat.reduceLeDiff])
          rw [hs, q]
    all_goals (try simp (disch := first | omega | assumption | (simp only [List.length_cons, List.length_nil, List.length_append, List.length_map]; omega) | decide) only [↓WA, WB, if_true, if_false, peek, hasTys, hasTy, wipeA, tgSlots, tgsSlots, cmpSlots, List.replicate, Nat.reduceAdd, Nat.reduceSub, Nat.reduceLT, Nat.reduceLeDiff, f_is_block, hd, blkB])
theorem blk_parts {cn : Option (List (Int × Int))} {a : Int} {d : Nat} {v : AV} (h : blkB cn a (d + 1) v = true) : ∃ bs, v = .tup bs ∧ bs.length ≤ 12 ∧ ∀ b ∈ bs, ∃ w ps, b = .tup (.str w :: ps) ∧ dedB cn a b = true ∧ ps.length ≤ 4 ∧ ∀ x ∈ blksOf b, blkB cn a d x = true := by
  cases v <;> first | (simp [blkB] at h; done) | skip
  rename_i bs
  simp only [blkB, Bool.and_eq_true, decide_eq_true_eq, List.all_eq_true] at h
  refine ⟨bs, rfl, h.1, fun b hb => ?_⟩
  obtain ⟨h1, h2⟩ := h.2 b hb
  obtain ⟨w, ps, rfl⟩ := dedB_shape h1
  refine ⟨w, ps, rfl, h1, ?_, h2⟩
  simp only [dedB] at h1
  split at h1
  · rename_i f hf
    obtain ⟨f', ef, hf4⟩ := forms_str hf
    cases ef
    simp only [Bool.and_eq_true, decide_eq_true_eq] at h1
    omega
  · cases h1
theorem sum_nat (f : AV → Nat) : ∀ xs : List AV, (xs.map fun x => (f x : Int)).sum = ((xs.map f).sum : Nat)
  | [] => rfl
  | x :: xs => by simp [sum_nat f xs]
theorem c_many [Nets T] {cn : Option (List (Int × Int))} {a : Int} : ∀ (d k : Nat) (v : AV) (h : AH), blkB cn a d v = true → callN T (k + d + 2) (Str.ofString "many_in") [v] h = .ok (.int (manyN d v)) h
  | 0, k, v, h, hb => by simp [blkB] at hb
  | d + 1, k, v, h, hb => by
    rw [callN_step Nets.many_in]
    refine Ok_eq (w_run rfl ?_)
    obtain ⟨bs, rfl, hl, hall⟩ := blk_parts hb
    (try simp (disch := first | omega | assumption | (simp only [List.length_cons, List.length_nil, List.length_append, List.length_map]; omega) | decide) only [↓WA, WB, if_true, if_false, peek, hasTys, hasTy, wipeA, tgSlots, tgsSlots, cmpSlots, List.replicate, Nat.reduceAdd, Nat.reduceSub, Nat.reduceLT, Nat.reduceLeDiff, f_many_in])
    refine w_map (fun x => .int ((1 + ((blksOf x).map (manyN d)).sum : Nat))) (fun b hbm => ⟨_, asg_nm (by simp), ?_⟩) ?_
    · obtain ⟨w, ps, rfl, h1, h4, h2⟩ := hall b hbm
      have hbl := blks_len (w := w) (ps := ps)
      have q2 : callN T (k + (d + 1) + 1) (Str.ofString "blocks_in") [.tup (.str w :: ps)] h = _ := c_blocks_in (T := T) (k + (d + 1)) w ps h
      (try simp (disch := first | omega | assumption | (simp only [List.length_cons, List.length_nil, List.length_append, List.length_map]; omega) | decide) only [↓WA, WB, if_true, if_false, peek, hasTys, hasTy, wipeA, tgSlots, tgsSlots, cmpSlots, List.replicate, Nat.reduceAdd, Nat.reduceSub, Nat.reduceLT, Nat.reduceLeDiff, w_bodyC, q2])
      refine w_map (fun x => .int (manyN d x)) (fun x hx => ⟨_, asg_nm (by simp), ?_⟩) ?_
      · have q3 : callN T (k + (d + 1) + 1) (Str.ofString "many_in") [x] h = _ := c_many d k x h (h2 x hx)
        (try simp (disch := first | omega | assumption | (simp only [List.length_cons, List.length_nil, List.length_append, List.length_map]; omega) | decide) only [↓WA, WB, if_true, if_false, peek, hasTys, hasTy, wipeA, tgSlots, tgsSlots, cmpSlots, List.replicate, Nat.reduceAdd, Nat.reduceSub, Nat.reduceLT, Nat.reduceLeDiff, w_bodyC, q3])
      · have q5 : (blksOf (.tup (.str w :: ps))).map (fun x => AV.int (manyN d x)) = ((blksOf (.tup (.str w :: ps))).map fun x => (manyN d x : Int)).map AV.int := by rw [List.map_map]; rfl
        (try simp (disch := first | omega | assumption | (simp only [List.length_cons, List.length_nil, List.length_append, List.length_map]; omega) | decide) only [↓WA, WB, if_true, if_false, peek, hasTys, hasTy, wipeA, tgSlots, tgsSlots, cmpSlots, List.replicate, Nat.reduceAdd, Nat.reduceSub, Nat.reduceLT, Nat.reduceLeDiff])
        rw [q5]
        (try simp (disch := first | omega | assumption | (simp only [List.length_cons, List.length_nil, List.length_append, List.length_map]; omega) | decide) only [↓WA, WB, if_true, if_false, peek, hasTys, hasTy, wipeA, tgSlots, tgsSlots, cmpSlots, List.replicate, Nat.reduceAdd, Nat.reduceSub, Nat.reduceLT, Nat.reduceLeDiff, ints_int])
        rw [sum_nat]
        simp
    · have q5 : bs.map (fun x => AV.int ((1 + ((blksOf x).map (manyN d)).sum : Nat))) = (bs.map fun x => ((1 + ((blksOf x).map (manyN d)).sum : Nat) : Int)).map AV.int := by rw [List.map_map]; rfl
      (try simp (disch := first | omega | assumption | (simp only [List.length_cons, List.length_nil, List.length_append, List.length_map]; omega) | decide) only [↓WA, WB, if_true, if_false, peek, hasTys, hasTy, wipeA, tgSlots, tgsSlots, cmpSlots, List.replicate, Nat.reduceAdd, Nat.reduceSub, Nat.reduceLT, Nat.reduceLeDiff])
      rw [q5]
      (try simp (disch := first | omega | assumption | (simp only [List.length_cons, List.length_nil, List.length_append, List.length_map]; omega) | decide) only [↓WA, WB, if_true, if_false, peek, hasTys, hasTy, wipeA, tgSlots, tgsSlots, cmpSlots, List.replicate, Nat.reduceAdd, Nat.reduceSub, Nat.reduceLT, Nat.reduceLeDiff, ints_int])
      rw [sum_nat]
      rfl
/-! ### nets -/
theorem enA_len : ∀ (k : Nat) (xs : List AV), (enumA k xs).length = xs.length
  | _, [] => rfl
  | k, x :: xs => by simp [enumA, enA_len (k + 1) xs]
theorem enA_at : ∀ {k : Nat} {xs : List AV} {i : Nat} (hi : i < (enumA k xs).length), (enumA k xs)[i] = .tup [.int ((k + i : Nat) : Int), xs[i]'(by rw [enA_len] at hi; exact hi)]
  | k, x :: xs, 0, _ => rfl
  | k, x :: xs, i + 1, hi => by
    have hi' : i < (enumA (k + 1) xs).length := by simpa [enumA] using hi
    have := enA_at hi'
    simp only [enumA, List.getElem_cons_succ]
    rw [this]
    simp only [AV.tup.injEq, List.cons.injEq, AV.int.injEq, and_true]
    omega
def CnOk (m : Nat) (cs : List (Int × Int)) : Prop := cs.length ≤ 6 ∧ ∀ p ∈ cs, (0 ≤ p.1 ∧ p.1 ≤ (m : Int) - 1) ∧ (0 ≤ p.2 ∧ p.2 ≤ (m : Int) - 1) ∧ p.1 ≠ p.2
structure Net (v : AV) (cs : List (Int × Int)) (bs : List AV) : Prop where
  eq : v = .tup [cnV cs, .tup bs]
  cn : CnOk bs.length cs
  l1 : 1 ≤ bs.length
  l4 : bs.length ≤ 4
  blk : ∀ (i : Nat) (hi : i < bs.length), blkB (some cs) i 4 bs[i] = true ∧ manyN 4 bs[i] ≤ 40
theorem c_channels [Nets T] (n : Nat) (m : Nat) (cs : List (Int × Int)) (h : AH) (hc : CnOk m cs) : callN T (n + 3) (Str.ofString "are_channels") [.int m, cnV cs] h = .ok (.bl true) h := by
  rw [callN_step Nets.are_channels]
  refine Ok_eq (w_run rfl ?_)
  have hl : decide ((6 : Int) < cs.length) = false := decide_eq_false (by have := hc.1; omega)
  (try simp (disch := first | omega | assumption | (simp only [List.length_cons, List.length_nil, List.length_append, List.length_map]; omega) | decide) only [↓WA, WB, if_true, if_false, peek, hasTys, hasTy, wipeA, tgSlots, tgsSlots, cmpSlots, List.replicate, Nat.reduceAdd, Nat.reduceSub, Nat.reduceLT, Nat.reduceLeDiff, f_are_channels, cnV, hl])
  refine w_for (fun i σ h' => h' = h ∧ ∃ a2 a3, σ = [.vl (.int m), .vl (cnV cs), a2, a3]) ⟨rfl, _, _, rfl⟩ (fun i hi σ h' ⟨eh, a2, a3, eσ⟩ => ?_) (fun σ h' ⟨eh, a2, a3, eσ⟩ => ?_)
  · subst eh eσ
    refine ⟨_, asg_nm (by simp), ?_⟩
    have hi' : i < cs.length := by simpa using hi
    obtain ⟨h1, h2, h3⟩ := hc.2 cs[i] (List.getElem_mem hi')
    have e : (cs.map fun p => AV.tup [.int p.1, .int p.2])[i] = .tup [.int cs[i].1, .int cs[i].2] := by simp
    rw [e]
    generalize cs[i] = p at h1 h2 h3
    have q1 : callN T (n + 2) (Str.ofString "is_within") [.int p.1, .int 0, .int ((m : Int) - 1)] h' = .ok (.bl true) h' := by
      rw [c_is_within (T := T) n (.int p.1) 0 ((m : Int) - 1) h' rfl]
      simp only [within]; rw [decide_eq_true h1]
    have q2 : callN T (n + 2) (Str.ofString "is_within") [.int p.2, .int 0, .int ((m : Int) - 1)] h' = .ok (.bl true) h' := by
      rw [c_is_within (T := T) n (.int p.2) 0 ((m : Int) - 1) h' rfl]
      simp only [within]; rw [decide_eq_true h2]
    have q3 : decide (p.1 = p.2) = false := decide_eq_false h3
    (try simp (disch := first | omega | assumption | (simp only [List.length_cons, List.length_nil, List.length_append, List.length_map]; omega) | decide) only [↓WA, WB, if_true, if_false, peek, hasTys, hasTy, wipeA, tgSlots, tgsSlots, cmpSlots, List.replicate, Nat.reduceAdd, Nat.reduceSub, Nat.reduceLT, Nat.reduceLeDiff, d22])
    refine w_map (fun _ => .bl true) (fun x hx => ?_) ?_
    · have hx' : callN T (n + 2) (Str.ofString "is_within") [x, .int 0, .int ((m : Int) - 1)] h' = .ok (.bl true) h' := by
        simp only [List.mem_cons, List.not_mem_nil, or_false] at hx
        rcases hx with rfl | rfl
        · exact q1
        · exact q2
      refine ⟨_, asg_nm (by simp), ?_⟩
      (try simp (disch := first | omega | assumption | (simp only [List.length_cons, List.length_nil, List.length_append, List.length_map]; omega) | decide) only [↓WA, WB, if_true, if_false, peek, hasTys, hasTy, wipeA, tgSlots, tgsSlots, cmpSlots, List.replicate, Nat.reduceAdd, Nat.reduceSub, Nat.reduceLT, Nat.reduceLeDiff, w_bodyC, hx'])
    · (try simp (disch := first | omega | assumption | (simp only [List.length_cons, List.length_nil, List.length_append, List.length_map]; omega) | decide) only [↓WA, WB, if_true, if_false, peek, hasTys, hasTy, wipeA, tgSlots, tgsSlots, cmpSlots, List.replicate, Nat.reduceAdd, Nat.reduceSub, Nat.reduceLT, Nat.reduceLeDiff])
      have eb : boolsOf [AV.bl true, AV.bl true] = some [true, true] := rfl
      (try simp (disch := first | omega | assumption | (simp only [List.length_cons, List.length_nil, List.length_append, List.length_map]; omega) | decide) only [↓WA, WB, if_true, if_false, peek, hasTys, hasTy, wipeA, tgSlots, tgsSlots, cmpSlots, List.replicate, Nat.reduceAdd, Nat.reduceSub, Nat.reduceLT, Nat.reduceLeDiff, eb, id, q3])
      exact ⟨_, _, rfl⟩
  · subst eh eσ
    (try simp (disch := first | omega | assumption | (simp only [List.length_cons, List.length_nil, List.length_append, List.length_map]; omega) | decide) only [↓WA, WB, if_true, if_false, peek, hasTys, hasTy, wipeA, tgSlots, tgsSlots, cmpSlots, List.replicate, Nat.reduceAdd, Nat.reduceSub, Nat.reduceLT, Nat.reduceLeDiff])
theorem c_net [Nets T] {g D : Nat} (hg : g ≤ 10) (n : Nat) {v : AV} {cs : List (Int × Int)} {bs : List AV} (N : Net v cs bs) (h : AH) (hv : gd g D v = true) : callN T (n + 11) (Str.ofString "is_net") [v] h = .ok (.bl true) h := by
  rw [callN_step Nets.is_net]
  refine Ok_eq (w_run rfl ?_)
  obtain ⟨rfl, hc, l1, l4, hb⟩ := N
  have q1 := c_channels (T := T) (n + 7) bs.length cs h hc
  have c1 : decide ((1 : Int) ≤ bs.length) = true := decide_eq_true (by omega)
  have c4 : decide ((bs.length : Int) ≤ 4) = true := decide_eq_true (by omega)
  obtain ⟨D1, rfl, _, hm⟩ := gd_tup hv
  have hbs := hm (.tup bs) (by simp)
  obtain ⟨D2, rfl, _, hm2⟩ := gd_tup hbs
  (try simp (disch := first | omega | assumption | (simp only [List.length_cons, List.length_nil, List.length_append, List.length_map]; omega) | decide) only [↓WA, WB, if_true, if_false, peek, hasTys, hasTy, wipeA, tgSlots, tgsSlots, cmpSlots, List.replicate, Nat.reduceAdd, Nat.reduceSub, Nat.reduceLT, Nat.reduceLeDiff, f_is_net, d22, c1, c4, q1])
  refine w_for (fun i σ h' => h' = h ∧ ∃ a3 a4, σ = [.vl (.tup [cnV cs, .tup bs]), .vl (cnV cs), .vl (.tup bs), a3, a4]) ⟨rfl, _, _, rfl⟩ (fun i hi σ h' ⟨eh, a3, a4, eσ⟩ => ?_) (fun σ h' ⟨eh, a3, a4, eσ⟩ => ?_)
  · subst eh eσ
    have hi' : i < bs.length := by rw [enA_len] at hi; exact hi
    rw [enA_at hi, Nat.zero_add]
    refine ⟨_, rfl, ?_⟩
    obtain ⟨b1, b2⟩ := hb i hi'
    have hbi := hm2 bs[i] (List.getElem_mem hi')
    have q2 : callN T (n + 10) (Str.ofString "is_block") [cnV cs, .int i, bs[i], .int 4] h' = _ := c_block (T := T) hg (some cs) i (fun cs' e => by cases e; have := hc.1; omega) 4 n bs[i] D2 h' hbi
    rw [b1] at q2
    have q3 : callN T (n + 10) (Str.ofString "many_in") [bs[i]] h' = _ := c_many (T := T) 4 (n + 4) bs[i] h' b1
    have c40 : decide ((40 : Int) < (manyN 4 bs[i] : Nat)) = false := decide_eq_false (by omega)
    (try simp (disch := first | omega | assumption | (simp only [List.length_cons, List.length_nil, List.length_append, List.length_map]; omega) | decide) only [↓WA, WB, if_true, if_false, peek, hasTys, hasTy, wipeA, tgSlots, tgsSlots, cmpSlots, List.replicate, Nat.reduceAdd, Nat.reduceSub, Nat.reduceLT, Nat.reduceLeDiff, q2, q3, c40])
    exact ⟨_, _, rfl⟩
  · subst eh eσ
    (try simp (disch := first | omega | assumption | (simp only [List.length_cons, List.length_nil, List.length_append, List.length_map]; omega) | decide) only [↓WA, WB, if_true, if_false, peek, hasTys, hasTy, wipeA, tgSlots, tgsSlots, cmpSlots, List.replicate, Nat.reduceAdd, Nat.reduceSub, Nat.reduceLT, Nat.reduceLeDiff])
theorem c_need_net [Nets T] {g D : Nat} (hg : g ≤ 10) (n : Nat) {v : AV} {cs : List (Int × Int)} {bs : List AV} (N : Net v cs bs) (h : AH) (hv : gd g D v = true) : callN T (n + 12) (Str.ofString "need_net") [v] h = .ok .non h := by
  rw [callN_step Nets.need_net]
  refine Ok_eq (w_run rfl ?_)
  have q := c_net (T := T) hg n N h hv
  (try simp (disch := first | omega | assumption | (simp only [List.length_cons, List.length_nil, List.length_append, List.length_map]; omega) | decide) only [↓WA, WB, if_true, if_false, peek, hasTys, hasTy, wipeA, tgSlots, tgsSlots, cmpSlots, List.replicate, Nat.reduceAdd, Nat.reduceSub, Nat.reduceLT, Nat.reduceLeDiff, f_need_net, q])
end
end S

set_option linter.all false
set_option maxRecDepth 100000
set_option maxHeartbeats 4000000
/-! SM: drawn nets. -/
namespace S
open PySem G
def f_law_many : Fn := ⟨4, 1, [(.set 1 (.c (.int 0))), (.for (.nm 2) (.sq (.var 0)) [(.set 1 (.bin .add (.bin .add (.var 1) (.c (.int 1))) (.bi .sum [(.comp (.cl (.nm 3) (.sq (.slice (.var 2) (some (.c (.int 2))) none)) [(.e (.cmp .mem (.sub (.var 2) (.c (.int 0))) (.tup [(.c (.str "if")), (.c (.str "while"))])))] (.elt (.call "_law_many" [(.var 3)]))))])))]), (.ret (.var 1))]⟩
def f_law_simple : Fn := ⟨15, 3, [(.asg (.tp [(.nm 3), (.nm 4)]) (.tup [(.lst [(.c (.str "a")), (.c (.str "b")), (.c (.str "c")), (.c (.str "count"))]), (.lst [(.c (.str "G")), (.c (.str "H")), (.c (.str "Kit"))])])), (.asg (.tp [(.nm 5), (.nm 6), (.nm 7)]) (.comp (.cl (.nm 14) (.rg (.c (.int 0)) (.c (.int 3))) [] (.elt (.sub (.var 3) (.call "_law_choice" [(.var 0), (.c (.int 4))])))))), (.par 8 9 (.call "_law_choice" [(.var 0), (.c (.int 3))]) (.call "_law_choice" [(.var 0), (.c (.int 3))])), (.par 10 11 (.sub (.var 4) (.var 8)) (.sub (.var 4) (.bin .mod (.bin .add (.bin .add (.var 8) (.c (.int 1))) (.call "_law_choice" [(.var 0), (.c (.int 2))])) (.c (.int 3))))), (.set 12 (.call "_law_choice" [(.var 0), (.c (.int 19))])), (.ife (.e (.cmp .lt (.var 12) (.c (.int 3)))) [(.ret (.tup [(.c (.str "num")), (.var 5), (.sub (.lst [(.c (.int 0)), (.c (.int 1)), (.c (.int 2)), (.neg (.c (.int 1))), (.c (.int 3)), (.c (.int 9999)), (.bin .sub (.call "_law_choice" [(.var 0), (.c (.int 19999))]) (.c (.int 9999)))]) (.call "_law_choice" [(.var 0), (.c (.int 7))]))]))] []), (.ife (.e (.cmp .eq (.var 12) (.c (.int 3)))) [(.ret (.tup [(.c (.str "sum")), (.var 5), (.var 6), (.sub (.c (.str "+-*<=")) (.call "_law_choice" [(.var 0), (.c (.int 5))])), (.var 7)]))] []), (.ife (.and (.e (.cmp .eq (.var 12) (.c (.int 16)))) (.e (.cmp .ne (.var 1) (.lst [])))) [(.ret (.tup [(.c (.str "send")), (.sub (.var 1) (.call "_law_choice" [(.var 0), (.bi .len [(.var 1)])])), (.var 10)]))] []), (.ife (.and (.e (.cmp .eq (.var 12) (.c (.int 17)))) (.e (.cmp .ne (.var 2) (.lst [])))) [(.ret (.tup [(.c (.str "take")), (.var 10), (.sub (.var 2) (.call "_law_choice" [(.var 0), (.bi .len [(.var 2)])]))]))] []), (.set 13 (.lst [(.tup [(.c (.str "new")), (.var 10)]), (.tup [(.c (.str "let")), (.var 10), (.var 11)]), (.tup [(.c (.str "add")), (.var 10), (.var 5)]), (.tup [(.c (.str "add")), (.var 10), (.var 6)]), (.tup [(.c (.str "put")), (.var 10), (.var 5), (.var 9), (.var 6)]), (.tup [(.c (.str "tie")), (.var 10), (.var 5), (.var 9), (.var 6)])])), (.set 13 (.cat (.var 13) (.lst [(.tup [(.c (.str "hang")), (.var 10), (.var 5), (.var 9), (.var 11)]), (.tup [(.c (.str "hang")), (.var 10), (.var 6), (.var 9), (.var 11)]), (.tup [(.c (.str "get")), (.var 5), (.var 10), (.var 6), (.var 9)]), (.tup [(.c (.str "sort")), (.var 5), (.var 10), (.var 6), (.var 9)])]))), (.set 13 (.cat (.var 13) (.lst [(.tup [(.c (.str "pick")), (.var 10), (.var 11), (.var 5), (.var 9)]), (.tup [(.c (.str "pick")), (.var 10), (.var 10), (.var 5), (.var 9)]), (.tup [(.c (.str "tell")), (.var 5)]), (.tup [(.c (.str "show")), (.var 10)]), (.tup [(.c (.str "show")), (.var 11)])]))), (.ret (.sub (.var 13) (.bin .mod (.bin .sub (.var 12) (.c (.int 4))) (.c (.int 15)))))]⟩
def f_law_block : Fn := ⟨11, 5, [(.own 5 (.lst [])), (.for (.nm 6) (.rg (.c (.int 0)) (.call "_law_choice" [(.var 0), (.bin .add (.var 4) (.c (.int 1)))])) [(.set 7 (.call "_law_choice" [(.var 0), (.c (.int 9))])), (.ife (.and (.e (.cmp .lt (.var 7) (.c (.int 2)))) (.e (.cmp .lt (.var 3) (.c (.int 4))))) [(.set 8 (.call "_law_block" [(.var 0), (.var 1), (.var 2), (.bin .add (.var 3) (.c (.int 1))), (.c (.int 3))])), (.set 9 (.call "_law_block" [(.var 0), (.var 1), (.var 2), (.bin .add (.var 3) (.c (.int 1))), (.c (.int 2))])), (.set 10 (.sub (.lst [(.c (.str "a")), (.c (.str "b")), (.c (.str "count"))]) (.call "_law_choice" [(.var 0), (.c (.int 3))]))), (.ife (.e (.cmp .eq (.var 7) (.c (.int 0)))) [(.app 5 (.tup [(.c (.str "if")), (.var 10), (.var 8), (.var 9)]))] [(.ife (.e (.cmp .eq (.call "_law_choice" [(.var 0), (.c (.int 5))]) (.c (.int 0)))) [(.app 5 (.tup [(.c (.str "while")), (.var 10), (.var 8)]))] [(.app 5 (.tup [(.c (.str "num")), (.c (.str "left")), (.bin .add (.c (.int 1)) (.call "_law_choice" [(.var 0), (.c (.int 3))]))])), (.app 5 (.tup [(.c (.str "num")), (.c (.str "one")), (.c (.int 1))])), (.app 5 (.tup [(.c (.str "while")), (.c (.str "left")), (.bin .add (.var 8) (.tup [(.tup [(.c (.str "sum")), (.c (.str "left")), (.c (.str "left")), (.c (.str "-")), (.c (.str "one"))])]))]))])])] [(.app 5 (.call "_law_simple" [(.var 0), (.var 1), (.var 2)]))])]), (.ret (.bi .tuple [(.slice (.var 5) none (some (.c (.int 12))))]))]⟩
def f_law_ends : Fn := ⟨5, 3, [(.ret (.comp (.cl (.tp [(.nm 3), (.nm 4)]) (.en (.var 0)) [(.e (.cmp .eq (.sub (.var 4) (.var 2)) (.var 1)))] (.elt (.var 3)))))]⟩
def f_law_net : Fn := ⟨10, 3, [(.pars [3, 4, 5] [false, true, true] [(.bin .add (.c (.int 1)) (.call "_law_choice" [(.var 0), (.var 1)])), (.lst []), (.lst [])]), (.for (.nm 6) (.rg (.c (.int 0)) (.ife (.e (.cmp .gt (.var 3) (.c (.int 1)))) (.call "_law_choice" [(.var 0), (.c (.int 7))]) (.c (.int 0)))) [(.set 8 (.call "_law_choice" [(.var 0), (.var 3)])), (.app 4 (.tup [(.var 8), (.bin .mod (.bin .add (.bin .add (.var 8) (.c (.int 1))) (.call "_law_choice" [(.var 0), (.bin .sub (.var 3) (.c (.int 1)))])) (.var 3))]))]), (.for (.nm 7) (.rg (.c (.int 0)) (.var 3)) [(.frzd [4] (.set 9 (.call "_law_block" [(.var 0), (.call "_law_ends" [(.var 4), (.var 7), (.c (.int 0))]), (.call "_law_ends" [(.var 4), (.var 7), (.c (.int 1))]), (.c (.int 1)), (.var 2)]))), (.while (.e (.cmp .gt (.call "_law_many" [(.var 9)]) (.c (.int 40)))) [(.set 9 (.slice (.var 9) none (some (.neg (.c (.int 1))))))]), (.app 5 (.var 9))]), (.ret (.tup [(.bi .tuple [(.var 4)]), (.bi .tuple [(.var 5)])]))]⟩
class NetL (T : Tab) : Prop extends Nets T, Draw T where
  law_many : T.lookup (Str.ofString "_law_many") = some f_law_many
  law_simple : T.lookup (Str.ofString "_law_simple") = some f_law_simple
  law_block : T.lookup (Str.ofString "_law_block") = some f_law_block
  law_ends : T.lookup (Str.ofString "_law_ends") = some f_law_ends
  law_net : T.lookup (Str.ofString "_law_net") = some f_law_net
theorem dd_num {cn : Option (List (Int × Int))} {a : Int} {x y : AV} : dedB cn a (.tup [.str "num", x, y]) = (true && ((nmB x && (numB y && true)) && true)) := by kernel_rfl
theorem dd_sum {cn : Option (List (Int × Int))} {a : Int} {x y z u : AV} : dedB cn a (.tup [.str "sum", x, y, z, u]) = (true && ((nmB x && (nmB y && (opsB z && (nmB u && true)))) && true)) := by kernel_rfl
theorem dd_new {cn : Option (List (Int × Int))} {a : Int} {x : AV} : dedB cn a (.tup [.str "new", x]) = (true && ((gnB x && true) && true)) := by kernel_rfl
theorem dd_let {cn : Option (List (Int × Int))} {a : Int} {x y : AV} : dedB cn a (.tup [.str "let", x, y]) = (true && ((gnB x && (gnB y && true)) && unlB "let" [.str "let", x, y])) := by kernel_rfl
theorem dd_add {cn : Option (List (Int × Int))} {a : Int} {x y : AV} : dedB cn a (.tup [.str "add", x, y]) = (true && ((gnB x && (nmB y && true)) && true)) := by kernel_rfl
theorem dd_put {cn : Option (List (Int × Int))} {a : Int} {x y z u : AV} : dedB cn a (.tup [.str "put", x, y, z, u]) = (true && ((gnB x && (nmB y && (within 0 2 z && (nmB u && true)))) && true)) := by kernel_rfl
theorem dd_tie {cn : Option (List (Int × Int))} {a : Int} {x y z u : AV} : dedB cn a (.tup [.str "tie", x, y, z, u]) = (true && ((gnB x && (nmB y && (within 0 2 z && (nmB u && true)))) && true)) := by kernel_rfl
theorem dd_hang {cn : Option (List (Int × Int))} {a : Int} {x y z u : AV} : dedB cn a (.tup [.str "hang", x, y, z, u]) = (true && ((gnB x && (nmB y && (within 0 2 z && (gnB u && true)))) && unlB "hang" [.str "hang", x, y, z, u])) := by kernel_rfl
theorem dd_get {cn : Option (List (Int × Int))} {a : Int} {x y z u : AV} : dedB cn a (.tup [.str "get", x, y, z, u]) = (true && ((nmB x && (gnB y && (nmB z && (within 0 2 u && true)))) && true)) := by kernel_rfl
theorem dd_sort {cn : Option (List (Int × Int))} {a : Int} {x y z u : AV} : dedB cn a (.tup [.str "sort", x, y, z, u]) = (true && ((nmB x && (gnB y && (nmB z && (within 0 2 u && true)))) && true)) := by kernel_rfl
theorem dd_pick {cn : Option (List (Int × Int))} {a : Int} {x y z u : AV} : dedB cn a (.tup [.str "pick", x, y, z, u]) = (true && ((gnB x && (gnB y && (nmB z && (within 0 2 u && true)))) && true)) := by kernel_rfl
theorem dd_send {cn : Option (List (Int × Int))} {a : Int} {x y : AV} : dedB cn a (.tup [.str "send", x, y]) = (true && ((endB cn a false x && (gnB y && true)) && true)) := by kernel_rfl
theorem dd_take {cn : Option (List (Int × Int))} {a : Int} {x y : AV} : dedB cn a (.tup [.str "take", x, y]) = (true && ((gnB x && (endB cn a true y && true)) && true)) := by kernel_rfl
theorem dd_tell {cn : Option (List (Int × Int))} {a : Int} {x : AV} : dedB cn a (.tup [.str "tell", x]) = (true && ((nmB x && true) && true)) := by kernel_rfl
theorem dd_show {cn : Option (List (Int × Int))} {a : Int} {x : AV} : dedB cn a (.tup [.str "show", x]) = (true && ((gnB x && true) && true)) := by kernel_rfl
theorem dd_if {cn : Option (List (Int × Int))} {a : Int} {x y z : AV} : dedB cn a (.tup [.str "if", x, y, z]) = (true && ((nmB x && true) && true)) := by kernel_rfl
theorem dd_while {cn : Option (List (Int × Int))} {a : Int} {x y : AV} : dedB cn a (.tup [.str "while", x, y]) = (true && ((nmB x && true) && true)) := by kernel_rfl
/-- a statement without blocks -/
structure Sp (cn : Option (List (Int × Int))) (a : Int) (v : AV) : Prop where
  ded : dedB cn a v = true
  blk : blksOf v = []
  gd : gd 0 1 v = true
def nmsA : List AV := [.str "a", .str "b", .str "c", .str "count"]
def gnsA : List AV := [.str "G", .str "H", .str "Kit"]
theorem nms_ok {x : AV} (h : x ∈ nmsA) : nmB x = true ∧ gd 0 0 x = true := by
  have : nmsA.all (fun x => nmB x && gd 0 0 x) = true := by decide +kernel
  simpa using List.all_eq_true.mp this x h
theorem gns_ok {x : AV} (h : x ∈ gnsA) : gnB x = true ∧ gd 0 0 x = true := by
  have : gnsA.all (fun x => gnB x && gd 0 0 x) = true := by decide +kernel
  simpa using List.all_eq_true.mp this x h
theorem wd_ok (w : Str) (h : gd 0 0 (.str w) = true := by decide +kernel) : gd 0 0 (.str w) = true := h
theorem in_ok {i : Int} (h : i.natAbs ≤ 10 ^ 29) : gd 0 0 (.int i) = true := by simp only [gd, sc, decide_eq_true_eq]; omega
theorem sp_gd {ps : List AV} (hl : ps.length ≤ 12) (h : ∀ x ∈ ps, gd 0 0 x = true) : gd 0 1 (.tup ps) = true := mk_tup (by omega) h
theorem gh_ne {p r : Int} {g : AV} (p0 : 0 ≤ p) (p1 : p < 3) (r0 : 0 ≤ r) (r1 : r < 2) (eg : L2.atI gnsA p = some g) : ∃ k, L2.atI gnsA ((p + 1 + r) % 3) = some k ∧ k ∈ gnsA ∧ unlB "let" [.str "let", g, k] = true ∧ ∀ x y, unlB "hang" [.str "hang", g, x, y, k] = true := by
  have hp : p = 0 ∨ p = 1 ∨ p = 2 := by omega
  have hr : r = 0 ∨ r = 1 := by omega
  rcases hp with rfl | rfl | rfl <;> rcases hr with rfl | rfl <;> cases eg <;> exact ⟨_, rfl, by simp [gnsA], rfl, fun _ _ => rfl⟩
section
variable {T : Tab} {n : Nat} {h0 h : AH} {cn : Option (List (Int × Int))} {a : Int}
theorem atI_map' {xs : List Int} {i r : Int} (e : L2.atI xs i = some r) : L2.atI (xs.map AV.int) i = some (.int r) := by
  unfold L2.atI at e ⊢
  obtain ⟨j, e1, e2⟩ := Option.bind_eq_some_iff.mp e
  rw [List.length_map, e1]
  show (xs.map AV.int)[j]? = _
  rw [List.getElem?_map, e2]; rfl
def rowsOf (x y : AV) (q : Int) (g k : AV) : List AV := [.tup [.str "new", g], .tup [.str "let", g, k], .tup [.str "add", g, x], .tup [.str "add", g, y], .tup [.str "put", g, x, .int q, y], .tup [.str "tie", g, x, .int q, y], .tup [.str "hang", g, x, .int q, k], .tup [.str "hang", g, y, .int q, k], .tup [.str "get", x, g, y, .int q], .tup [.str "sort", x, g, y, .int q], .tup [.str "pick", g, k, x, .int q], .tup [.str "pick", g, g, x, .int q], .tup [.str "tell", x], .tup [.str "show", g], .tup [.str "show", k]]
theorem rows_sp {x y g k : AV} {q : Int} (nx : nmB x = true ∧ gd 0 0 x = true) (ny : nmB y = true ∧ gd 0 0 y = true) (wq : within 0 2 (.int q) = true) (gg : gnB g = true ∧ gd 0 0 g = true) (gk : gnB k = true ∧ gd 0 0 k = true)
    (hu : unlB "let" [.str "let", g, k] = true ∧ ∀ x y, unlB "hang" [.str "hang", g, x, y, k] = true) : ∀ w ∈ rowsOf x y q g k, Sp cn a w := by
  have gq : gd 0 0 (.int q) = true := in_ok (by simp [within] at wq; omega)
  intro w hw
  simp only [rowsOf, List.mem_cons, List.not_mem_nil, or_false] at hw
  rcases hw with rfl | rfl | rfl | rfl | rfl | rfl | rfl | rfl | rfl | rfl | rfl | rfl | rfl | rfl | rfl
  · exact ⟨by rw [dd_new, gg.1]; rfl, rfl, sp_gd (by simp) (by simpa using ⟨rfl, gg.2⟩)⟩
  · exact ⟨by rw [dd_let, gg.1, gk.1, hu.1]; rfl, rfl, sp_gd (by simp) (by simpa using ⟨rfl, gg.2, gk.2⟩)⟩
  · exact ⟨by rw [dd_add, gg.1, nx.1]; rfl, rfl, sp_gd (by simp) (by simpa using ⟨rfl, gg.2, nx.2⟩)⟩
  · exact ⟨by rw [dd_add, gg.1, ny.1]; rfl, rfl, sp_gd (by simp) (by simpa using ⟨rfl, gg.2, ny.2⟩)⟩
  · exact ⟨by rw [dd_put, gg.1, nx.1, wq, ny.1]; rfl, rfl, sp_gd (by simp) (by simpa using ⟨rfl, gg.2, nx.2, gq, ny.2⟩)⟩
  · exact ⟨by rw [dd_tie, gg.1, nx.1, wq, ny.1]; rfl, rfl, sp_gd (by simp) (by simpa using ⟨rfl, gg.2, nx.2, gq, ny.2⟩)⟩
  · exact ⟨by rw [dd_hang, gg.1, nx.1, wq, gk.1, hu.2]; rfl, rfl, sp_gd (by simp) (by simpa using ⟨rfl, gg.2, nx.2, gq, gk.2⟩)⟩
  · exact ⟨by rw [dd_hang, gg.1, ny.1, wq, gk.1, hu.2]; rfl, rfl, sp_gd (by simp) (by simpa using ⟨rfl, gg.2, ny.2, gq, gk.2⟩)⟩
  · exact ⟨by rw [dd_get, nx.1, gg.1, ny.1, wq]; rfl, rfl, sp_gd (by simp) (by simpa using ⟨rfl, nx.2, gg.2, ny.2, gq⟩)⟩
  · exact ⟨by rw [dd_sort, nx.1, gg.1, ny.1, wq]; rfl, rfl, sp_gd (by simp) (by simpa using ⟨rfl, nx.2, gg.2, ny.2, gq⟩)⟩
  · exact ⟨by rw [dd_pick, gg.1, gk.1, nx.1, wq]; rfl, rfl, sp_gd (by simp) (by simpa using ⟨rfl, gg.2, gk.2, nx.2, gq⟩)⟩
  · exact ⟨by rw [dd_pick, gg.1, nx.1, wq]; rfl, rfl, sp_gd (by simp) (by simpa using ⟨rfl, gg.2, nx.2, gq⟩)⟩
  · exact ⟨by rw [dd_tell, nx.1]; rfl, rfl, sp_gd (by simp) (by simpa using ⟨rfl, nx.2⟩)⟩
  · exact ⟨by rw [dd_show, gg.1]; rfl, rfl, sp_gd (by simp) (by simpa using ⟨rfl, gg.2⟩)⟩
  · exact ⟨by rw [dd_show, gk.1]; rfl, rfl, sp_gd (by simp) (by simpa using ⟨rfl, gk.2⟩)⟩
theorem c_law_simple [NetL T] (k : Nat) (s : StT n h0 h) (S R : List Int) (hS : ∀ i ∈ S, endB cn a false (.int i) = true ∧ i.natAbs ≤ 100) (hR : ∀ i ∈ R, endB cn a true (.int i) = true ∧ i.natAbs ≤ 100) (lS : S.length ≤ 900) (lR : R.length ≤ 900) :
    Rs.Ok (callN T (k + 2) (Str.ofString "_law_simple") [.ref n, lN S, lN R] h) fun v h' => Sp cn a v ∧ StT n h0 h' := by
  rw [callN_step NetL.law_simple]
  refine w_run rfl ?_
  (try simp (disch := first | omega | assumption | (simp only [List.length_cons, List.length_nil, List.length_append, List.length_map]; omega) | decide) only [↓WA, WB, if_true, if_false, peek, hasTys, hasTy, wipeA, tgSlots, tgsSlots, cmpSlots, List.replicate, Nat.reduceAdd, Nat.reduceSub, Nat.reduceLT, Nat.reduceLeDiff, f_law_simple])
  refine ⟨by omega, ?_⟩
  refine w_each (α := AV) s (fun x => x) (fun x => x ∈ nmsA) (fun x hx h s => ⟨_, asg_nm (by simp), ?_⟩) (fun as h1 hl hP s1 => ?_)
  · (try simp (disch := first | omega | assumption | (simp only [List.length_cons, List.length_nil, List.length_append, List.length_map]; omega) | decide) only [↓WA, WB, if_true, if_false, peek, hasTys, hasTy, wipeA, tgSlots, tgsSlots, cmpSlots, List.replicate, Nat.reduceAdd, Nat.reduceSub, Nat.reduceLT, Nat.reduceLeDiff, w_bodyC])
    refine (c_choice (T := T) s k (m := 4) (by omega) (by omega)).mono fun v h1 ⟨r, ev, r0, r1, s1⟩ => ?_
    subst ev
    obtain ⟨w, ew, mw⟩ := atI_mem (α := AV) (xs := nmsA) (r := r) r0 (by simpa [nmsA] using r1)
    have ew' : L2.atI [AV.str "a", .str "b", .str "c", .str "count"] r = some w := ew
    (try simp (disch := first | omega | assumption | (simp only [List.length_cons, List.length_nil, List.length_append, List.length_map]; omega) | decide) only [↓WA, WB, if_true, if_false, peek, hasTys, hasTy, wipeA, tgSlots, tgsSlots, cmpSlots, List.replicate, Nat.reduceAdd, Nat.reduceSub, Nat.reduceLT, Nat.reduceLeDiff, ew'])
    exact ⟨⟨w, rfl, mw⟩, s1⟩
  have hl3 : as.length = 3 := by rw [hl, r3_len]
  obtain ⟨x, y, z, rfl⟩ : ∃ x y z, as = [x, y, z] := by
    match as, hl3 with
    | [x, y, z], _ => exact ⟨x, y, z, rfl⟩
  have nx := nms_ok (hP x (by simp))
  have ny := nms_ok (hP y (by simp))
  have nz := nms_ok (hP z (by simp))
  (try simp (disch := first | omega | assumption | (simp only [List.length_cons, List.length_nil, List.length_append, List.length_map]; omega) | decide) only [↓WA, WB, if_true, if_false, peek, hasTys, hasTy, wipeA, tgSlots, tgsSlots, cmpSlots, List.replicate, Nat.reduceAdd, Nat.reduceSub, Nat.reduceLT, Nat.reduceLeDiff])
  refine (c_choice (T := T) s1 k (m := 3) (by omega) (by omega)).mono fun v h1 ⟨p, ev, p0, p1, s1⟩ => ?_
  subst ev
  (try simp (disch := first | omega | assumption | (simp only [List.length_cons, List.length_nil, List.length_append, List.length_map]; omega) | decide) only [↓WA, WB, if_true, if_false, peek, hasTys, hasTy, wipeA, tgSlots, tgsSlots, cmpSlots, List.replicate, Nat.reduceAdd, Nat.reduceSub, Nat.reduceLT, Nat.reduceLeDiff])
  refine (c_choice (T := T) s1 k (m := 3) (by omega) (by omega)).mono fun v h1 ⟨q, ev, q0, q1, s1⟩ => ?_
  subst ev
  have wq : within 0 2 (.int q) = true := by simp [within]; omega
  (try simp (disch := first | omega | assumption | (simp only [List.length_cons, List.length_nil, List.length_append, List.length_map]; omega) | decide) only [↓WA, WB, if_true, if_false, peek, hasTys, hasTy, wipeA, tgSlots, tgsSlots, cmpSlots, List.replicate, Nat.reduceAdd, Nat.reduceSub, Nat.reduceLT, Nat.reduceLeDiff])
  obtain ⟨g, eg, mg⟩ := atI_mem (α := AV) (xs := gnsA) (r := p) p0 (by simpa [gnsA] using p1)
  have eg' : L2.atI [AV.str "G", .str "H", .str "Kit"] p = some g := eg
  (try simp (disch := first | omega | assumption | (simp only [List.length_cons, List.length_nil, List.length_append, List.length_map]; omega) | decide) only [↓WA, WB, if_true, if_false, peek, hasTys, hasTy, wipeA, tgSlots, tgsSlots, cmpSlots, List.replicate, Nat.reduceAdd, Nat.reduceSub, Nat.reduceLT, Nat.reduceLeDiff, eg'])
  refine (c_choice (T := T) s1 k (m := 2) (by omega) (by omega)).mono fun v h1 ⟨r, ev, r0, r1, s1⟩ => ?_
  subst ev
  obtain ⟨k', ek, mk, hu⟩ := gh_ne (p := p) (r := r) p0 p1 r0 r1 eg
  have ek' : L2.atI [AV.str "G", .str "H", .str "Kit"] ((p + 1 + r) % 3) = some k' := ek
  have gg := gns_ok mg
  have gk := gns_ok mk
  (try simp (disch := first | omega | assumption | (simp only [List.length_cons, List.length_nil, List.length_append, List.length_map]; omega) | decide) only [↓WA, WB, if_true, if_false, peek, hasTys, hasTy, wipeA, tgSlots, tgsSlots, cmpSlots, List.replicate, Nat.reduceAdd, Nat.reduceSub, Nat.reduceLT, Nat.reduceLeDiff, ek'])
  refine (c_choice (T := T) s1 k (m := 19) (by omega) (by omega)).mono fun v h1 ⟨c, ev, c0, c1, s1⟩ => ?_
  subst ev
  (try simp (disch := first | omega | assumption | (simp only [List.length_cons, List.length_nil, List.length_append, List.length_map]; omega) | decide) only [↓WA, WB, if_true, if_false, peek, hasTys, hasTy, wipeA, tgSlots, tgsSlots, cmpSlots, List.replicate, Nat.reduceAdd, Nat.reduceSub, Nat.reduceLT, Nat.reduceLeDiff])
  refine IfK_dec (fun hc => ?_) (fun hc => ?_)
  · (try simp (disch := first | omega | assumption | (simp only [List.length_cons, List.length_nil, List.length_append, List.length_map]; omega) | decide) only [↓WA, WB, if_true, if_false, peek, hasTys, hasTy, wipeA, tgSlots, tgsSlots, cmpSlots, List.replicate, Nat.reduceAdd, Nat.reduceSub, Nat.reduceLT, Nat.reduceLeDiff])
    refine (c_choice (T := T) s1 k (m := 19999) (by omega) (by omega)).mono fun v h1 ⟨b, ev, b0, b1, s1⟩ => ?_
    subst ev
    (try simp (disch := first | omega | assumption | (simp only [List.length_cons, List.length_nil, List.length_append, List.length_map]; omega) | decide) only [↓WA, WB, if_true, if_false, peek, hasTys, hasTy, wipeA, tgSlots, tgsSlots, cmpSlots, List.replicate, Nat.reduceAdd, Nat.reduceSub, Nat.reduceLT, Nat.reduceLeDiff])
    refine (c_choice (T := T) s1 k (m := 7) (by omega) (by omega)).mono fun v h1 ⟨j, ev, j0, j1, s1⟩ => ?_
    subst ev
    obtain ⟨w, ew, mw⟩ := atI_mem (α := AV) (xs := [AV.int 0, .int 1, .int 2, .int (-1), .int 3, .int 9999, .int (b - 9999)]) (r := j) j0 (by simpa using j1)
    (try simp (disch := first | omega | assumption | (simp only [List.length_cons, List.length_nil, List.length_append, List.length_map]; omega) | decide) only [↓WA, WB, if_true, if_false, peek, hasTys, hasTy, wipeA, tgSlots, tgsSlots, cmpSlots, List.replicate, Nat.reduceAdd, Nat.reduceSub, Nat.reduceLT, Nat.reduceLeDiff, ew])
    have hw : numB w = true ∧ gd 0 0 w = true := by
      simp only [List.mem_cons, List.not_mem_nil, or_false] at mw
      rcases mw with rfl | rfl | rfl | rfl | rfl | rfl | rfl
      iterate 6 exact ⟨rfl, rfl⟩
      exact ⟨by simp [numB, within]; omega, in_ok (by omega)⟩
    refine ⟨⟨?_, rfl, ?_⟩, s1⟩
    · rw [dd_num, nx.1, hw.1]; rfl
    · exact sp_gd (by simp) (by simpa using ⟨rfl, nx.2, hw.2⟩)
  (try simp (disch := first | omega | assumption | (simp only [List.length_cons, List.length_nil, List.length_append, List.length_map]; omega) | decide) only [↓WA, WB, if_true, if_false, peek, hasTys, hasTy, wipeA, tgSlots, tgsSlots, cmpSlots, List.replicate, Nat.reduceAdd, Nat.reduceSub, Nat.reduceLT, Nat.reduceLeDiff])
  refine IfK_dec (fun hc => ?_) (fun hc => ?_)
  · (try simp (disch := first | omega | assumption | (simp only [List.length_cons, List.length_nil, List.length_append, List.length_map]; omega) | decide) only [↓WA, WB, if_true, if_false, peek, hasTys, hasTy, wipeA, tgSlots, tgsSlots, cmpSlots, List.replicate, Nat.reduceAdd, Nat.reduceSub, Nat.reduceLT, Nat.reduceLeDiff])
    refine (c_choice (T := T) s1 k (m := 5) (by omega) (by omega)).mono fun v h1 ⟨b, ev, b0, b1, s1⟩ => ?_
    subst ev
    obtain ⟨w, ew, wo, wg⟩ : ∃ w, opSub (.str "+-*<=") (.int b) h1 = some w ∧ opsB w = true ∧ gd 0 0 w = true := by
      have hb : b = 0 ∨ b = 1 ∨ b = 2 ∨ b = 3 ∨ b = 4 := by omega
      rcases hb with rfl | rfl | rfl | rfl | rfl <;> exact ⟨_, rfl, rfl, rfl⟩
    (try simp (disch := first | omega | assumption | (simp only [List.length_cons, List.length_nil, List.length_append, List.length_map]; omega) | decide) only [↓WA, WB, if_true, if_false, peek, hasTys, hasTy, wipeA, tgSlots, tgsSlots, cmpSlots, List.replicate, Nat.reduceAdd, Nat.reduceSub, Nat.reduceLT, Nat.reduceLeDiff, ew])
    refine ⟨⟨?_, rfl, ?_⟩, s1⟩
    · rw [dd_sum, nx.1, ny.1, wo, nz.1]; rfl
    · exact sp_gd (by simp) (by simpa using ⟨rfl, nx.2, ny.2, wg, nz.2⟩)
  (try simp (disch := first | omega | assumption | (simp only [List.length_cons, List.length_nil, List.length_append, List.length_map]; omega) | decide) only [↓WA, WB, if_true, if_false, peek, hasTys, hasTy, wipeA, tgSlots, tgsSlots, cmpSlots, List.replicate, Nat.reduceAdd, Nat.reduceSub, Nat.reduceLT, Nat.reduceLeDiff])
  have sub_ok : ∀ {xs : List Int} {b : Int} (h : AH), 0 ≤ b → b < xs.length → ∃ i, i ∈ xs ∧ opSub (lN xs) (.int b) h = some (.int i) := by
    intro xs b h b0 b1
    obtain ⟨i, ei, mi⟩ := atI_mem b0 b1
    exact ⟨i, mi, atI_map' ei⟩
  obtain ⟨w, ew, mw⟩ := atI_mem (α := AV) (xs := rowsOf x y q g k') (r := (c - 4) % 15) (Int.emod_nonneg _ (by omega)) (by have := Int.emod_lt_of_pos (c - 4) (show (0:Int) < 15 by omega); simpa [rowsOf] using this)
  have hw : Sp cn a w := rows_sp nx ny wq gg gk hu w mw
  simp only [rowsOf] at ew
  refine Br_dec (fun hc => ?_) (fun hc => ?_) <;> (try simp (disch := first | omega | assumption | (simp only [List.length_cons, List.length_nil, List.length_append, List.length_map]; omega) | decide) only [↓WA, WB, if_true, if_false, peek, hasTys, hasTy, wipeA, tgSlots, tgsSlots, cmpSlots, List.replicate, Nat.reduceAdd, Nat.reduceSub, Nat.reduceLT, Nat.reduceLeDiff])
  · refine IfK_of (fun hs => ?_) (fun hs => ?_)
    · (try simp (disch := first | omega | assumption | (simp only [List.length_cons, List.length_nil, List.length_append, List.length_map]; omega) | decide) only [↓WA, WB, if_true, if_false, peek, hasTys, hasTy, wipeA, tgSlots, tgsSlots, cmpSlots, List.replicate, Nat.reduceAdd, Nat.reduceSub, Nat.reduceLT, Nat.reduceLeDiff])
      have hS0 : 0 < S.length := by cases S <;> simp_all
      refine (c_choice (T := T) s1 k (m := (S.length : Int)) (by omega) (by omega)).mono fun v h1 ⟨b, ev, b0, b1, s1⟩ => ?_
      subst ev
      obtain ⟨i, mi, ei⟩ := sub_ok (xs := S) h1 b0 b1
      (try simp (disch := first | omega | assumption | (simp only [List.length_cons, List.length_nil, List.length_append, List.length_map]; omega) | decide) only [↓WA, WB, if_true, if_false, peek, hasTys, hasTy, wipeA, tgSlots, tgsSlots, cmpSlots, List.replicate, Nat.reduceAdd, Nat.reduceSub, Nat.reduceLT, Nat.reduceLeDiff, ei])
      have hi := hS i mi
      exact ⟨⟨by rw [dd_send, gg.1, hi.1]; rfl, rfl, sp_gd (by simp) (by simpa using ⟨rfl, in_ok (i := i) (by omega), gg.2⟩)⟩, s1⟩
    · (try simp (disch := first | omega | assumption | (simp only [List.length_cons, List.length_nil, List.length_append, List.length_map]; omega) | decide) only [↓WA, WB, if_true, if_false, peek, hasTys, hasTy, wipeA, tgSlots, tgsSlots, cmpSlots, List.replicate, Nat.reduceAdd, Nat.reduceSub, Nat.reduceLT, Nat.reduceLeDiff])
      refine Br_dec (fun hc => ?_) (fun hc => ?_) <;> (try simp (disch := first | omega | assumption | (simp only [List.length_cons, List.length_nil, List.length_append, List.length_map]; omega) | decide) only [↓WA, WB, if_true, if_false, peek, hasTys, hasTy, wipeA, tgSlots, tgsSlots, cmpSlots, List.replicate, Nat.reduceAdd, Nat.reduceSub, Nat.reduceLT, Nat.reduceLeDiff])
      · refine IfK_of (fun hs => ?_) (fun hs => ?_)
        · (try simp (disch := first | omega | assumption | (simp only [List.length_cons, List.length_nil, List.length_append, List.length_map]; omega) | decide) only [↓WA, WB, if_true, if_false, peek, hasTys, hasTy, wipeA, tgSlots, tgsSlots, cmpSlots, List.replicate, Nat.reduceAdd, Nat.reduceSub, Nat.reduceLT, Nat.reduceLeDiff])
          have hR0 : 0 < R.length := by cases R <;> simp_all
          refine (c_choice (T := T) s1 k (m := (R.length : Int)) (by omega) (by omega)).mono fun v h1 ⟨b, ev, b0, b1, s1⟩ => ?_
          subst ev
          obtain ⟨i, mi, ei⟩ := sub_ok (xs := R) h1 b0 b1
          (try simp (disch := first | omega | assumption | (simp only [List.length_cons, List.length_nil, List.length_append, List.length_map]; omega) | decide) only [↓WA, WB, if_true, if_false, peek, hasTys, hasTy, wipeA, tgSlots, tgsSlots, cmpSlots, List.replicate, Nat.reduceAdd, Nat.reduceSub, Nat.reduceLT, Nat.reduceLeDiff, ei])
          have hi := hR i mi
          exact ⟨⟨by rw [dd_take, gg.1, hi.1]; rfl, rfl, sp_gd (by simp) (by simpa using ⟨rfl, gg.2, in_ok (i := i) (by omega)⟩)⟩, s1⟩
        · (try simp (disch := first | omega | assumption | (simp only [List.length_cons, List.length_nil, List.length_append, List.length_map]; omega) | decide) only [↓WA, WB, if_true, if_false, peek, hasTys, hasTy, wipeA, tgSlots, tgsSlots, cmpSlots, List.replicate, Nat.reduceAdd, Nat.reduceSub, Nat.reduceLT, Nat.reduceLeDiff, ew])
          exact ⟨hw, s1⟩
      · (try simp (disch := first | omega | assumption | (simp only [List.length_cons, List.length_nil, List.length_append, List.length_map]; omega) | decide) only [↓WA, WB, if_true, if_false, peek, hasTys, hasTy, wipeA, tgSlots, tgsSlots, cmpSlots, List.replicate, Nat.reduceAdd, Nat.reduceSub, Nat.reduceLT, Nat.reduceLeDiff, ew])
        exact ⟨hw, s1⟩
  · refine Br_dec (fun hc => ?_) (fun hc => ?_) <;> (try simp (disch := first | omega | assumption | (simp only [List.length_cons, List.length_nil, List.length_append, List.length_map]; omega) | decide) only [↓WA, WB, if_true, if_false, peek, hasTys, hasTy, wipeA, tgSlots, tgsSlots, cmpSlots, List.replicate, Nat.reduceAdd, Nat.reduceSub, Nat.reduceLT, Nat.reduceLeDiff])
    · refine IfK_of (fun hs => ?_) (fun hs => ?_)
      · (try simp (disch := first | omega | assumption | (simp only [List.length_cons, List.length_nil, List.length_append, List.length_map]; omega) | decide) only [↓WA, WB, if_true, if_false, peek, hasTys, hasTy, wipeA, tgSlots, tgsSlots, cmpSlots, List.replicate, Nat.reduceAdd, Nat.reduceSub, Nat.reduceLT, Nat.reduceLeDiff])
        have hR0 : 0 < R.length := by cases R <;> simp_all
        refine (c_choice (T := T) s1 k (m := (R.length : Int)) (by omega) (by omega)).mono fun v h1 ⟨b, ev, b0, b1, s1⟩ => ?_
        subst ev
        obtain ⟨i, mi, ei⟩ := sub_ok (xs := R) h1 b0 b1
        (try simp (disch := first | omega | assumption | (simp only [List.length_cons, List.length_nil, List.length_append, List.length_map]; omega) | decide) only [↓WA, WB, if_true, if_false, peek, hasTys, hasTy, wipeA, tgSlots, tgsSlots, cmpSlots, List.replicate, Nat.reduceAdd, Nat.reduceSub, Nat.reduceLT, Nat.reduceLeDiff, ei])
        have hi := hR i mi
        exact ⟨⟨by rw [dd_take, gg.1, hi.1]; rfl, rfl, sp_gd (by simp) (by simpa using ⟨rfl, gg.2, in_ok (i := i) (by omega)⟩)⟩, s1⟩
      · (try simp (disch := first | omega | assumption | (simp only [List.length_cons, List.length_nil, List.length_append, List.length_map]; omega) | decide) only [↓WA, WB, if_true, if_false, peek, hasTys, hasTy, wipeA, tgSlots, tgsSlots, cmpSlots, List.replicate, Nat.reduceAdd, Nat.reduceSub, Nat.reduceLT, Nat.reduceLeDiff, ew])
        exact ⟨hw, s1⟩
    · (try simp (disch := first | omega | assumption | (simp only [List.length_cons, List.length_nil, List.length_append, List.length_map]; omega) | decide) only [↓WA, WB, if_true, if_false, peek, hasTys, hasTy, wipeA, tgSlots, tgsSlots, cmpSlots, List.replicate, Nat.reduceAdd, Nat.reduceSub, Nat.reduceLT, Nat.reduceLeDiff, ew])
      exact ⟨hw, s1⟩
theorem c_law_many [NetL T] : ∀ (d k : Nat) (v : AV) (h : AH), blkB cn a d v = true → callN T (k + d + 1) (Str.ofString "_law_many") [v] h = .ok (.int (manyN d v)) h
  | 0, k, v, h, hb => by simp [blkB] at hb
  | d + 1, k, v, h, hb => by
    rw [callN_step NetL.law_many]
    refine Ok_eq (w_run rfl ?_)
    obtain ⟨bs, rfl, hl, hall⟩ := blk_parts hb
    (try simp (disch := first | omega | assumption | (simp only [List.length_cons, List.length_nil, List.length_append, List.length_map]; omega) | decide) only [↓WA, WB, if_true, if_false, peek, hasTys, hasTy, wipeA, tgSlots, tgsSlots, cmpSlots, List.replicate, Nat.reduceAdd, Nat.reduceSub, Nat.reduceLT, Nat.reduceLeDiff, f_law_many])
    refine w_for (fun i σ h' => h' = h ∧ ∃ a2 a3, σ = [.vl (.tup bs), .vl (.int (((bs.take i).map fun x => 1 + ((blksOf x).map (manyN d)).sum).sum : Nat)), a2, a3]) ⟨rfl, _, _, rfl⟩ (fun i hi σ h' ⟨eh, a2, a3, eσ⟩ => ?_) (fun σ h' ⟨eh, a2, a3, eσ⟩ => ?_)
    · subst eh eσ
      refine ⟨_, asg_nm (by simp), ?_⟩
      have hs : ((bs.take (i + 1)).map fun x => 1 + ((blksOf x).map (manyN d)).sum).sum = ((bs.take i).map fun x => 1 + ((blksOf x).map (manyN d)).sum).sum + (1 + ((blksOf bs[i]).map (manyN d)).sum) := by
        rw [List.take_succ_eq_append_getElem hi, List.map_append, List.sum_append]; simp
      have hi2 := hall bs[i] (List.getElem_mem hi)
      rw [hs]
      generalize bs[i] = b at hi2
      generalize ((bs.take i).map fun x => 1 + ((blksOf x).map (manyN d)).sum).sum = M
      obtain ⟨w, ps, rfl, h1, h4, h2⟩ := hi2
      have e2 : cutL (AV.str w :: ps) (some 2) none = ps.drop 1 := cut_from (AV.str w :: ps) 2
      (try simp (disch := first | omega | assumption | (simp only [List.length_cons, List.length_nil, List.length_append, List.length_map]; omega) | decide) only [↓WA, WB, if_true, if_false, peek, hasTys, hasTy, wipeA, tgSlots, tgsSlots, cmpSlots, List.replicate, Nat.reduceAdd, Nat.reduceSub, Nat.reduceLT, Nat.reduceLeDiff, e2])
      have hdl : (ps.drop 1).length ≤ 4 := by simp; omega
      by_cases hw : ((("if" : Str) == w) || ((("while" : Str) == w) || false)) = true
      · have em : opC .mem (.str w) (.tup [.str "if", .str "while"]) h' = some true := by
          simp only [opC, items, Option.bind_some, pyIn, eqD_str, Option.map_some]; rw [hw]
        have eb : blksOf (.tup (.str w :: ps)) = ps.drop 1 := by
          have hw' := hw
          simp only [Bool.or_false, Bool.or_eq_true, beq_iff_eq] at hw'
          rcases hw' with rfl | rfl <;> rfl
        rw [eb] at h2 ⊢
        refine w_map (fun x => .int (manyN d x)) (fun x hx => ⟨_, asg_nm (by simp), ?_⟩) ?_
        · have q3 : callN T (k + (d + 1)) (Str.ofString "_law_many") [x] h' = _ := c_law_many d k x h' (h2 x hx)
          (try simp (disch := first | omega | assumption | (simp only [List.length_cons, List.length_nil, List.length_append, List.length_map]; omega) | decide) only [↓WA, WB, if_true, if_false, peek, hasTys, hasTy, wipeA, tgSlots, tgsSlots, cmpSlots, List.replicate, Nat.reduceAdd, Nat.reduceSub, Nat.reduceLT, Nat.reduceLeDiff, w_bodyC, q3, em])
        · have q5 : (ps.drop 1).map (fun x => AV.int (manyN d x)) = ((ps.drop 1).map fun x => (manyN d x : Int)).map AV.int := by rw [List.map_map]; rfl
          (try simp (disch := first | omega | assumption | (simp only [List.length_cons, List.length_nil, List.length_append, List.length_map]; omega) | decide) only [↓WA, WB, if_true, if_false, peek, hasTys, hasTy, wipeA, tgSlots, tgsSlots, cmpSlots, List.replicate, Nat.reduceAdd, Nat.reduceSub, Nat.reduceLT, Nat.reduceLeDiff])
          rw [q5]
          (try simp (disch := first | omega | assumption | (simp only [List.length_cons, List.length_nil, List.length_append, List.length_map]; omega) | decide) only [↓WA, WB, if_true, if_false, peek, hasTys, hasTy, wipeA, tgSlots, tgsSlots, cmpSlots, List.replicate, Nat.reduceAdd, Nat.reduceSub, Nat.reduceLT, Nat.reduceLeDiff, ints_int])
          rw [sum_nat]
          exact ⟨.vl (.tup (.str w :: ps)), a3, by simp [Int.add_assoc]⟩
      · have hwf : ((("if" : Str) == w) || ((("while" : Str) == w) || false)) = false := by simpa using hw
        have em : opC .mem (.str w) (.tup [.str "if", .str "while"]) h' = some false := by
          simp only [opC, items, Option.bind_some, pyIn, eqD_str, Option.map_some]; rw [hwf]
        have eb : blksOf (.tup (.str w :: ps)) = [] := by
          simp only [blksOf]
          rw [if_neg, if_neg] <;> (intro hc; rw [eq_of_beq hc] at hwf; simp at hwf)
        rw [eb]
        refine w_filt (fun _ => false) (fun x hx => ⟨_, asg_nm (by simp), ?_⟩) ?_
        · (try simp (disch := first | omega | assumption | (simp only [List.length_cons, List.length_nil, List.length_append, List.length_map]; omega) | decide) only [↓WA, WB, if_true, if_false, peek, hasTys, hasTy, wipeA, tgSlots, tgsSlots, cmpSlots, List.replicate, Nat.reduceAdd, Nat.reduceSub, Nat.reduceLT, Nat.reduceLeDiff, w_bodyC, em])
        · have e0 : (ps.drop 1).filter (fun _ => false) = [] := by simp
          rw [e0]
          have ei : intsOf [] = some [] := rfl
          (try simp (disch := first | omega | assumption | (simp only [List.length_cons, List.length_nil, List.length_append, List.length_map]; omega) | decide) only [↓WA, WB, if_true, if_false, peek, hasTys, hasTy, wipeA, tgSlots, tgsSlots, cmpSlots, List.replicate, Nat.reduceAdd, Nat.reduceSub, Nat.reduceLT, Nat.reduceLeDiff, ei, List.sum_nil])
          exact ⟨.vl (.tup (.str w :: ps)), a3, by simp⟩
    · subst eh eσ
      (try simp (disch := first | omega | assumption | (simp only [List.length_cons, List.length_nil, List.length_append, List.length_map]; omega) | decide) only [↓WA, WB, if_true, if_false, peek, hasTys, hasTy, wipeA, tgSlots, tgsSlots, cmpSlots, List.replicate, Nat.reduceAdd, Nat.reduceSub, Nat.reduceLT, Nat.reduceLeDiff])
      rw [List.take_length]; rfl
theorem c_law_ends [NetL T] (k : Nat) (cs : List (Int × Int)) (b : Nat) (sd : Bool) (hl : cs.length ≤ 6) (hb : b ≤ 4) (hh : ∀ p ∈ cs, p.1.natAbs ≤ 4 ∧ p.2.natAbs ≤ 4) :
    Rs.Ok (callN T (k + 1) (Str.ofString "_law_ends") [.lst (cs.map fun p => .tup [.int p.1, .int p.2]), .int b, .int (sideI sd)] h) fun v h' => h' = h ∧ ∃ S, v = lN S ∧ S.length ≤ 6 ∧ ∀ i ∈ S, endB (some cs) b sd (.int i) = true ∧ i.natAbs ≤ 100 := by
  rw [callN_step NetL.law_ends]
  refine w_run rfl ?_
  (try simp (disch := first | omega | assumption | (simp only [List.length_cons, List.length_nil, List.length_append, List.length_map]; omega) | decide) only [↓WA, WB, if_true, if_false, peek, hasTys, hasTy, wipeA, tgSlots, tgsSlots, cmpSlots, List.replicate, Nat.reduceAdd, Nat.reduceSub, Nat.reduceLT, Nat.reduceLeDiff, f_law_ends])
  refine w_comp (fun i acc h' => h' = h ∧ ∃ S, acc = S.map AV.int ∧ S.length ≤ i ∧ ∀ x ∈ S, endB (some cs) b sd (.int x) = true ∧ x.natAbs ≤ 100) ⟨rfl, [], rfl, by simp, by simp⟩ (fun i hi acc h' ⟨eh, S, eS, lS, hS⟩ => ?_) (fun ys h' ⟨eh, S, eS, lS, hS⟩ => ?_)
  · subst eh eS
    have hi' : i < cs.length := by rw [enA_len] at hi; simpa using hi
    rw [enA_at hi, Nat.zero_add]
    have e : (cs.map fun p => AV.tup [.int p.1, .int p.2])[i]'(by simpa using hi') = .tup [.int cs[i].1, .int cs[i].2] := by simp
    rw [e]
    refine ⟨_, rfl, ?_⟩
    have e5 : opSub (.tup [.int cs[i].1, .int cs[i].2]) (.int (sideI sd)) h' = some (.int (if sd then cs[i].2 else cs[i].1)) := by cases sd <;> rfl
    (try simp (disch := first | omega | assumption | (simp only [List.length_cons, List.length_nil, List.length_append, List.length_map]; omega) | decide) only [↓WA, WB, if_true, if_false, peek, hasTys, hasTy, wipeA, tgSlots, tgsSlots, cmpSlots, List.replicate, Nat.reduceAdd, Nat.reduceSub, Nat.reduceLT, Nat.reduceLeDiff, w_bodyC, e5])
    refine Br_dec (fun hc => ?_) (fun hc => ?_) <;> (try simp (disch := first | omega | assumption | (simp only [List.length_cons, List.length_nil, List.length_append, List.length_map]; omega) | decide) only [↓WA, WB, if_true, if_false, peek, hasTys, hasTy, wipeA, tgSlots, tgsSlots, cmpSlots, List.replicate, Nat.reduceAdd, Nat.reduceSub, Nat.reduceLT, Nat.reduceLeDiff])
    · refine ⟨S ++ [(i : Int)], by simp, by simp; omega, ?_⟩
      intro x hx
      rw [List.mem_append, List.mem_singleton] at hx
      rcases hx with hx | rfl
      · exact hS x hx
      · refine ⟨?_, by omega⟩
        simp only [endB, Int.toNat_natCast, List.getElem?_eq_getElem hi', Bool.and_eq_true, decide_eq_true_eq]
        exact ⟨by omega, hc⟩
    · exact ⟨S, by simp, by omega, hS⟩
  · subst eh eS
    have hS6 : S.length ≤ 6 := by rw [enA_len] at lS; simp at lS; omega
    (try simp (disch := first | omega | assumption | (simp only [List.length_cons, List.length_nil, List.length_append, List.length_map]; omega) | decide) only [↓WA, WB, if_true, if_false, peek, hasTys, hasTy, wipeA, tgSlots, tgsSlots, cmpSlots, List.replicate, Nat.reduceAdd, Nat.reduceSub, Nat.reduceLT, Nat.reduceLeDiff])
    exact ⟨S, rfl, hS6, hS⟩
/-- a statement whose blocks go at most d deep -/
structure Good (cn : Option (List (Int × Int))) (a : Int) (d : Nat) (b : AV) : Prop where
  ded : dedB cn a b = true
  blk : (blksOf b).all (blkB cn a d) = true
  gd : gd 0 (2 * d + 1) b = true
theorem Sp.good {b : AV} (s : Sp cn a b) (d : Nat) : Good cn a d b := ⟨s.ded, by rw [s.blk]; rfl, gd_mono (Nat.le_refl _) (by omega) s.gd⟩
theorem good_blk {d : Nat} {bs : List AV} (hl : bs.length ≤ 12) (h : ∀ b ∈ bs, Good cn a d b) : blkB cn a (d + 1) (.tup bs) = true ∧ gd 0 (2 * d + 2) (.tup bs) = true := by
  refine ⟨?_, mk_tup (by omega) fun b hb => (h b hb).gd⟩
  simp only [blkB, Bool.and_eq_true, decide_eq_true_eq, List.all_eq_true]
  exact ⟨hl, fun b hb => ⟨(h b hb).ded, fun x hx => List.all_eq_true.mp (h b hb).blk x hx⟩⟩
theorem good_snoc {d : Nat} {bs : List AV} {v : AV} (h : ∀ b ∈ bs, Good cn a d b) (hv : Good cn a d v) : ∀ b ∈ bs ++ [v], Good cn a d b := fun b hb => by
  rw [List.mem_append, List.mem_singleton] at hb
  rcases hb with hb | rfl
  · exact h b hb
  · exact hv
theorem good_if {d : Nat} {w : AV} {xs ys : List AV} (nw : nmB w = true ∧ gd 0 0 w = true) (lx : xs.length ≤ 12) (hx : ∀ b ∈ xs, Good cn a d b) (ly : ys.length ≤ 12) (hy : ∀ b ∈ ys, Good cn a d b) : Good cn a (d + 1) (.tup [.str "if", w, .tup xs, .tup ys]) := by
  have e : blksOf (.tup [.str "if", w, .tup xs, .tup ys]) = [.tup xs, .tup ys] := rfl
  have gx := good_blk lx hx
  have gy := good_blk ly hy
  refine ⟨by rw [dd_if, nw.1]; rfl, by rw [e]; simp [gx.1, gy.1], mk_tup (by simp) ?_⟩
  simp only [List.mem_cons, List.not_mem_nil, or_false, forall_eq_or_imp, forall_eq]
  exact ⟨gd_mono (Nat.le_refl _) (Nat.zero_le _) (show gd 0 0 (.str "if") = true from rfl), gd_mono (Nat.le_refl _) (Nat.zero_le _) nw.2, gx.2, gy.2⟩
theorem good_while {d : Nat} {w : AV} {xs : List AV} (nw : nmB w = true ∧ gd 0 0 w = true) (lx : xs.length ≤ 12) (hx : ∀ b ∈ xs, Good cn a d b) : Good cn a (d + 1) (.tup [.str "while", w, .tup xs]) := by
  have e : blksOf (.tup [.str "while", w, .tup xs]) = [.tup xs] := rfl
  have gx := good_blk lx hx
  refine ⟨by rw [dd_while, nw.1]; rfl, by rw [e]; simp [gx.1], mk_tup (by simp) ?_⟩
  simp only [List.mem_cons, List.not_mem_nil, or_false, forall_eq_or_imp, forall_eq]
  exact ⟨gd_mono (Nat.le_refl _) (Nat.zero_le _) (show gd 0 0 (.str "while") = true from rfl), gd_mono (Nat.le_refl _) (Nat.zero_le _) nw.2, gx.2⟩
theorem sp_num {x : AV} {i : Int} (nx : nmB x = true ∧ gd 0 0 x = true) (hi : numB (.int i) = true) : Sp cn a (.tup [.str "num", x, .int i]) :=
  ⟨by rw [dd_num, nx.1, hi]; rfl, rfl, sp_gd (by simp) (by simpa using ⟨rfl, nx.2, in_ok (i := i) (by simp [numB, within] at hi; omega)⟩)⟩
theorem left_ok : nmB (.str "left") = true ∧ gd 0 0 (.str "left") = true := by decide +kernel
theorem one_ok : nmB (.str "one") = true ∧ gd 0 0 (.str "one") = true := by decide +kernel
theorem sp_left : Sp cn a (.tup [.str "sum", .str "left", .str "left", .str "-", .str "one"]) :=
  ⟨by rw [dd_sum, left_ok.1, one_ok.1]; rfl, rfl, by decide +kernel⟩
def BlkSpec (T : Tab) (n : Nat) (h0 : AH) (cn : Option (List (Int × Int))) (a : Int) (S R : List Int) (j : Nat) : Prop :=
  ∀ (k : Nat) (h : AH) (most : Nat), StT n h0 h → most ≤ 8 → Rs.Ok (callN T (k + j + 3) (Str.ofString "_law_block") [.ref n, lN S, lN R, .int (4 - (j : Int)), .int most] h) fun v h' => StT n h0 h' ∧ ∃ bs, v = .tup bs ∧ bs.length ≤ 12 ∧ bs.length ≤ 3 * most ∧ ∀ b ∈ bs, Good cn a j b
theorem c_law_blk1 [NetL T] (S R : List Int) (hS : ∀ i ∈ S, endB cn a false (.int i) = true ∧ i.natAbs ≤ 100) (hR : ∀ i ∈ R, endB cn a true (.int i) = true ∧ i.natAbs ≤ 100) (lS : S.length ≤ 900) (lR : R.length ≤ 900)
    (j : Nat) (IH : ∀ i, j = i + 1 → BlkSpec T n h0 cn a S R i) : BlkSpec T n h0 cn a S R j := by
  intro k h most s hm
  rw [callN_step NetL.law_block]
  refine w_run rfl ?_
  (try simp (disch := first | omega | assumption | (simp only [List.length_cons, List.length_nil, List.length_append, List.length_map]; omega) | decide) only [↓WA, WB, if_true, if_false, peek, hasTys, hasTy, wipeA, tgSlots, tgsSlots, cmpSlots, List.replicate, Nat.reduceAdd, Nat.reduceSub, Nat.reduceLT, Nat.reduceLeDiff, f_law_block])
  refine (c_choice (T := T) s (k + j + 1) (m := (most : Int) + 1) (by omega) (by omega)).mono fun v h1 ⟨c, ev, c0, c1, s1⟩ => ?_
  subst ev
  obtain ⟨c, rfl⟩ : ∃ c' : Nat, c = c' := ⟨c.toNat, by omega⟩
  (try simp (disch := first | omega | assumption | (simp only [List.length_cons, List.length_nil, List.length_append, List.length_map]; omega) | decide) only [↓WA, WB, if_true, if_false, peek, hasTys, hasTy, wipeA, tgSlots, tgsSlots, cmpSlots, List.replicate, Nat.reduceAdd, Nat.reduceSub, Nat.reduceLT, Nat.reduceLeDiff])
  refine ⟨by omega, ?_⟩
  refine w_for (fun i σ h' => StT n h0 h' ∧ ∃ (bs : List AV) (a6 a7 a8 a9 a10 : Sv), bs.length ≤ 3 * i ∧ (∀ b ∈ bs, Good cn a j b) ∧ σ = [.vl (.ref n), .vl (lN S), .vl (lN R), .vl (.int (4 - (j : Int))), .vl (.int most), .ol bs, a6, a7, a8, a9, a10])
    ⟨s1, [], .un, .un, .un, .un, .un, by simp, by simp, rfl⟩ (fun i hi σ h' ⟨s2, bs, a6, a7, a8, a9, a10, hl, hg, eσ⟩ => ?_) (fun σ h' ⟨s2, bs, a6, a7, a8, a9, a10, hl, hg, eσ⟩ => ?_)
  · subst eσ
    refine ⟨_, asg_nm (by simp), ?_⟩
    (try simp (disch := first | omega | assumption | (simp only [List.length_cons, List.length_nil, List.length_append, List.length_map]; omega) | decide) only [↓WA, WB, if_true, if_false, peek, hasTys, hasTy, wipeA, tgSlots, tgsSlots, cmpSlots, List.replicate, Nat.reduceAdd, Nat.reduceSub, Nat.reduceLT, Nat.reduceLeDiff])
    refine (c_choice (T := T) s2 (k + j + 1) (m := 9) (by omega) (by omega)).mono fun v h1 ⟨q, ev, q0, q1, s3⟩ => ?_
    subst ev
    (try simp (disch := first | omega | assumption | (simp only [List.length_cons, List.length_nil, List.length_append, List.length_map]; omega) | decide) only [↓WA, WB, if_true, if_false, peek, hasTys, hasTy, wipeA, tgSlots, tgsSlots, cmpSlots, List.replicate, Nat.reduceAdd, Nat.reduceSub, Nat.reduceLT, Nat.reduceLeDiff])
    have hlb : bs.length ≤ 24 := by rw [rangeA_len] at hi; omega
    refine Br_dec (fun hq => ?_) (fun hq => ?_) <;> (try simp (disch := first | omega | assumption | (simp only [List.length_cons, List.length_nil, List.length_append, List.length_map]; omega) | decide) only [↓WA, WB, if_true, if_false, peek, hasTys, hasTy, wipeA, tgSlots, tgsSlots, cmpSlots, List.replicate, Nat.reduceAdd, Nat.reduceSub, Nat.reduceLT, Nat.reduceLeDiff])
    · refine IfK_dec (fun hd => ?_) (fun hd => ?_) <;> (try simp (disch := first | omega | assumption | (simp only [List.length_cons, List.length_nil, List.length_append, List.length_map]; omega) | decide) only [↓WA, WB, if_true, if_false, peek, hasTys, hasTy, wipeA, tgSlots, tgsSlots, cmpSlots, List.replicate, Nat.reduceAdd, Nat.reduceSub, Nat.reduceLT, Nat.reduceLeDiff])
      · obtain ⟨j, rfl⟩ : ∃ j', j = j' + 1 := ⟨j - 1, by omega⟩
        have ih := IH j rfl
        have ej : (4 : Int) - ((j + 1 : Nat) : Int) + 1 = 4 - (j : Int) := by omega
        (try simp (disch := first | omega | assumption | (simp only [List.length_cons, List.length_nil, List.length_append, List.length_map]; omega) | decide) only [↓WA, WB, if_true, if_false, peek, hasTys, hasTy, wipeA, tgSlots, tgsSlots, cmpSlots, List.replicate, Nat.reduceAdd, Nat.reduceSub, Nat.reduceLT, Nat.reduceLeDiff, ej])
        refine (ih k h1 3 s3 (by omega)).mono fun v h1 ⟨s4, xs, ev, x12, x9, hx⟩ => ?_
        subst ev
        (try simp (disch := first | omega | assumption | (simp only [List.length_cons, List.length_nil, List.length_append, List.length_map]; omega) | decide) only [↓WA, WB, if_true, if_false, peek, hasTys, hasTy, wipeA, tgSlots, tgsSlots, cmpSlots, List.replicate, Nat.reduceAdd, Nat.reduceSub, Nat.reduceLT, Nat.reduceLeDiff, ej])
        refine (ih k h1 2 s4 (by omega)).mono fun v h1 ⟨s5, ys, ev, y12, y9, hy⟩ => ?_
        subst ev
        (try simp (disch := first | omega | assumption | (simp only [List.length_cons, List.length_nil, List.length_append, List.length_map]; omega) | decide) only [↓WA, WB, if_true, if_false, peek, hasTys, hasTy, wipeA, tgSlots, tgsSlots, cmpSlots, List.replicate, Nat.reduceAdd, Nat.reduceSub, Nat.reduceLT, Nat.reduceLeDiff])
        refine (c_choice (T := T) s5 (k + (j + 1) + 1) (m := 3) (by omega) (by omega)).mono fun v h1 ⟨p, ev, p0, p1, s6⟩ => ?_
        subst ev
        obtain ⟨w, ew, mw⟩ := atI_mem (α := AV) (xs := [AV.str "a", .str "b", .str "count"]) (r := p) p0 (by simpa using p1)
        (try simp (disch := first | omega | assumption | (simp only [List.length_cons, List.length_nil, List.length_append, List.length_map]; omega) | decide) only [↓WA, WB, if_true, if_false, peek, hasTys, hasTy, wipeA, tgSlots, tgsSlots, cmpSlots, List.replicate, Nat.reduceAdd, Nat.reduceSub, Nat.reduceLT, Nat.reduceLeDiff, ew])
        have nw := nms_ok (x := w) (by simp only [nmsA, List.mem_cons] at mw ⊢; rcases mw with h | h | h | h <;> simp_all)
        refine IfK_dec (fun hz => ?_) (fun hz => ?_)
        · (try simp (disch := first | omega | assumption | (simp only [List.length_cons, List.length_nil, List.length_append, List.length_map]; omega) | decide) only [↓WA, WB, if_true, if_false, peek, hasTys, hasTy, wipeA, tgSlots, tgsSlots, cmpSlots, List.replicate, Nat.reduceAdd, Nat.reduceSub, Nat.reduceLT, Nat.reduceLeDiff])
          exact ⟨s6, bs ++ [_], _, _, _, _, _, by simp; omega, good_snoc hg (good_if nw x12 hx y12 hy), rfl⟩
        · (try simp (disch := first | omega | assumption | (simp only [List.length_cons, List.length_nil, List.length_append, List.length_map]; omega) | decide) only [↓WA, WB, if_true, if_false, peek, hasTys, hasTy, wipeA, tgSlots, tgsSlots, cmpSlots, List.replicate, Nat.reduceAdd, Nat.reduceSub, Nat.reduceLT, Nat.reduceLeDiff])
          refine (c_choice (T := T) s6 (k + (j + 1) + 1) (m := 5) (by omega) (by omega)).mono fun v h1 ⟨t, ev, t0, t1, s7⟩ => ?_
          subst ev
          (try simp (disch := first | omega | assumption | (simp only [List.length_cons, List.length_nil, List.length_append, List.length_map]; omega) | decide) only [↓WA, WB, if_true, if_false, peek, hasTys, hasTy, wipeA, tgSlots, tgsSlots, cmpSlots, List.replicate, Nat.reduceAdd, Nat.reduceSub, Nat.reduceLT, Nat.reduceLeDiff])
          refine IfK_dec (fun hu => ?_) (fun hu => ?_)
          · (try simp (disch := first | omega | assumption | (simp only [List.length_cons, List.length_nil, List.length_append, List.length_map]; omega) | decide) only [↓WA, WB, if_true, if_false, peek, hasTys, hasTy, wipeA, tgSlots, tgsSlots, cmpSlots, List.replicate, Nat.reduceAdd, Nat.reduceSub, Nat.reduceLT, Nat.reduceLeDiff])
            exact ⟨s7, bs ++ [_], _, _, _, _, _, by simp; omega, good_snoc hg (good_while nw x12 hx), rfl⟩
          · (try simp (disch := first | omega | assumption | (simp only [List.length_cons, List.length_nil, List.length_append, List.length_map]; omega) | decide) only [↓WA, WB, if_true, if_false, peek, hasTys, hasTy, wipeA, tgSlots, tgsSlots, cmpSlots, List.replicate, Nat.reduceAdd, Nat.reduceSub, Nat.reduceLT, Nat.reduceLeDiff])
            refine (c_choice (T := T) s7 (k + (j + 1) + 1) (m := 3) (by omega) (by omega)).mono fun v h1 ⟨u, ev, u0, u1, s8⟩ => ?_
            subst ev
            (try simp (disch := first | omega | assumption | (simp only [List.length_cons, List.length_nil, List.length_append, List.length_map]; omega) | decide) only [↓WA, WB, if_true, if_false, peek, hasTys, hasTy, wipeA, tgSlots, tgsSlots, cmpSlots, List.replicate, Nat.reduceAdd, Nat.reduceSub, Nat.reduceLT, Nat.reduceLeDiff])
            refine ⟨s8, _, _, _, _, _, _, ?_, ?_, rfl⟩
            · simp; omega
            · refine good_snoc (good_snoc (good_snoc hg ?_) ?_) (good_while left_ok (by simp; omega) ?_)
              · exact (sp_num left_ok (by simp [numB, within]; omega)).good _
              · exact (sp_num one_ok rfl).good _
              · exact good_snoc hx (sp_left.good _)
      · refine (c_law_simple (T := T) (cn := cn) (a := a) (k + j) s3 S R hS hR lS lR).mono fun v h1 ⟨hv, s4⟩ => ?_
        (try simp (disch := first | omega | assumption | (simp only [List.length_cons, List.length_nil, List.length_append, List.length_map]; omega) | decide) only [↓WA, WB, if_true, if_false, peek, hasTys, hasTy, wipeA, tgSlots, tgsSlots, cmpSlots, List.replicate, Nat.reduceAdd, Nat.reduceSub, Nat.reduceLT, Nat.reduceLeDiff])
        exact ⟨s4, bs ++ [v], _, _, _, _, _, by simp; omega, fun b hb => (by
          rw [List.mem_append, List.mem_singleton] at hb
          rcases hb with hb | rfl
          · exact hg b hb
          · exact hv.good j), rfl⟩
    · refine (c_law_simple (T := T) (cn := cn) (a := a) (k + j) s3 S R hS hR lS lR).mono fun v h1 ⟨hv, s4⟩ => ?_
      (try simp (disch := first | omega | assumption | (simp only [List.length_cons, List.length_nil, List.length_append, List.length_map]; omega) | decide) only [↓WA, WB, if_true, if_false, peek, hasTys, hasTy, wipeA, tgSlots, tgsSlots, cmpSlots, List.replicate, Nat.reduceAdd, Nat.reduceSub, Nat.reduceLT, Nat.reduceLeDiff])
      exact ⟨s4, bs ++ [v], _, _, _, _, _, by simp; omega, fun b hb => (by
        rw [List.mem_append, List.mem_singleton] at hb
        rcases hb with hb | rfl
        · exact hg b hb
        · exact hv.good j), rfl⟩
  · subst eσ
    rw [rangeA_len] at hl
    have e12 : cutL bs none (some 12) = bs.take 12 := cut_to bs 12
    (try simp (disch := first | omega | assumption | (simp only [List.length_cons, List.length_nil, List.length_append, List.length_map]; omega) | decide) only [↓WA, WB, if_true, if_false, peek, hasTys, hasTy, wipeA, tgSlots, tgsSlots, cmpSlots, List.replicate, Nat.reduceAdd, Nat.reduceSub, Nat.reduceLT, Nat.reduceLeDiff, e12])
    refine ⟨s2, _, rfl, by simp; omega, by simp; omega, fun b hb => hg b (List.mem_of_mem_take hb)⟩
theorem c_law_block [NetL T] (S R : List Int) (hS : ∀ i ∈ S, endB cn a false (.int i) = true ∧ i.natAbs ≤ 100) (hR : ∀ i ∈ R, endB cn a true (.int i) = true ∧ i.natAbs ≤ 100) (lS : S.length ≤ 900) (lR : R.length ≤ 900) : ∀ j, BlkSpec T n h0 cn a S R j
  | 0 => c_law_blk1 S R hS hR lS lR 0 (fun i e => by omega)
  | j + 1 => c_law_blk1 S R hS hR lS lR (j + 1) (fun i e => by cases e; exact c_law_block S R hS hR lS lR j)
theorem cut_last {α : Type} (xs : List α) : cutL xs none (some (-1)) = xs.take (xs.length - 1) := by
  unfold cutL
  rw [HT.sIx_none, List.drop_zero, Nat.sub_zero]
  have e : HT.sIx xs.length xs.length (some (-1)) = xs.length - 1 := by
    show (if (-1 : Int) < 0 then ((-1 : Int) + (xs.length : Int)).toNat else min (-1 : Int).toNat xs.length) = _
    rw [if_pos (by omega)]; omega
  rw [e]
def netRest : List Stm := f_law_net.body.drop 2
theorem netRest_eq : netRest = [(.for (.nm 7) (.rg (.c (.int 0)) (.var 3)) [(.frzd [4] (.set 9 (.call "_law_block" [(.var 0), (.call "_law_ends" [(.var 4), (.var 7), (.c (.int 0))]), (.call "_law_ends" [(.var 4), (.var 7), (.c (.int 1))]), (.c (.int 1)), (.var 2)]))), (.while (.e (.cmp .gt (.call "_law_many" [(.var 9)]) (.c (.int 40)))) [(.set 9 (.slice (.var 9) none (some (.neg (.c (.int 1))))))]), (.app 5 (.var 9))]), (.ret (.tup [(.bi .tuple [(.var 4)]), (.bi .tuple [(.var 5)])]))] := rfl
theorem c_net_rest [NetL T] (k : Nat) (s : StT n h0 h) (most long m : Nat) (hm : 1 ≤ m ∧ m ≤ 4) (hlong : long ≤ 8) {cs : List (Int × Int)} (hc : CnOk m cs) (a6 a7 a8 a9 : Sv) :
    Rs.Ok (evSs (callN T (k + 7)) netRest [.vl (.ref n), .vl (.int most), .vl (.int long), .vl (.int m), .ol (cs.map fun p => .tup [.int p.1, .int p.2]), .ol [], a6, a7, a8, a9] h) (retK fun v h' => StT n h0 h' ∧ ∃ cs bs, Net v cs bs ∧ gd 0 10 v = true) := by
  rw [netRest_eq]
  (try simp (disch := first | omega | assumption | (simp only [List.length_cons, List.length_nil, List.length_append, List.length_map]; omega) | decide) only [↓WA, WB, if_true, if_false, peek, hasTys, hasTy, wipeA, tgSlots, tgsSlots, cmpSlots, List.replicate, Nat.reduceAdd, Nat.reduceSub, Nat.reduceLT, Nat.reduceLeDiff])
  refine ⟨by omega, ?_⟩
  refine w_for (fun i σ h' => StT n h0 h' ∧ ∃ (bs : List AV) (a4 a7 a9 : Sv), bs.length = i ∧ (∀ (j : Nat) (hj : j < bs.length), blkB (some cs) j 4 bs[j] = true ∧ manyN 4 bs[j] ≤ 40 ∧ gd 0 8 bs[j] = true) ∧ frz a4 = .vl (.lst (cs.map fun p => .tup [.int p.1, .int p.2])) ∧ σ = [.vl (.ref n), .vl (.int most), .vl (.int long), .vl (.int m), a4, .ol bs, a6, a7, a8, a9])
    ⟨s, [], _, a7, a9, rfl, by simp, rfl, rfl⟩ (fun i hi σ h' ⟨s2, bs, a4, a7, a9, hl, hg, e4, eσ⟩ => ?_) (fun σ h' ⟨s2, bs, a4, a7, a9, hl, hg, e4, eσ⟩ => ?_)
  · subst eσ
    refine ⟨_, asg_nm (by simp), ?_⟩
    rw [rangeA_at, Int.zero_add]
    (try simp (disch := first | omega | assumption | (simp only [List.length_cons, List.length_nil, List.length_append, List.length_map]; omega) | decide) only [↓WA, WB, if_true, if_false, peek, hasTys, hasTy, wipeA, tgSlots, tgsSlots, cmpSlots, List.replicate, Nat.reduceAdd, Nat.reduceSub, Nat.reduceLT, Nat.reduceLeDiff, frzAt, e4])
    have hi4 : i ≤ 4 := by rw [rangeA_len] at hi; omega
    have hh : ∀ p ∈ cs, p.1.natAbs ≤ 4 ∧ p.2.natAbs ≤ 4 := fun p hp => by
      obtain ⟨⟨q1, q2⟩, ⟨q3, q4⟩, q5⟩ := hc.2 p hp
      omega
    refine (c_law_ends (T := T) (k + 6) cs i false hc.1 hi4 hh).mono fun v h1 ⟨eh, S, ev, lS, hS⟩ => ?_
    subst ev eh
    (try simp (disch := first | omega | assumption | (simp only [List.length_cons, List.length_nil, List.length_append, List.length_map]; omega) | decide) only [↓WA, WB, if_true, if_false, peek, hasTys, hasTy, wipeA, tgSlots, tgsSlots, cmpSlots, List.replicate, Nat.reduceAdd, Nat.reduceSub, Nat.reduceLT, Nat.reduceLeDiff, frzAt, e4])
    refine (c_law_ends (T := T) (k + 6) cs i true hc.1 hi4 hh).mono fun v h1 ⟨eh, R, ev, lR, hR⟩ => ?_
    subst ev eh
    (try simp (disch := first | omega | assumption | (simp only [List.length_cons, List.length_nil, List.length_append, List.length_map]; omega) | decide) only [↓WA, WB, if_true, if_false, peek, hasTys, hasTy, wipeA, tgSlots, tgsSlots, cmpSlots, List.replicate, Nat.reduceAdd, Nat.reduceSub, Nat.reduceLT, Nat.reduceLeDiff, frzAt, e4])
    refine (c_law_block (T := T) (cn := some cs) (a := i) S R hS hR (by omega) (by omega) 3 (k + 1) h1 long s2 hlong).mono fun v h1 ⟨s3, xs, ev, x12, x9, hx⟩ => ?_
    subst ev
    (try simp (disch := first | omega | assumption | (simp only [List.length_cons, List.length_nil, List.length_append, List.length_map]; omega) | decide) only [↓WA, WB, if_true, if_false, peek, hasTys, hasTy, wipeA, tgSlots, tgsSlots, cmpSlots, List.replicate, Nat.reduceAdd, Nat.reduceSub, Nat.reduceLT, Nat.reduceLeDiff, frzAt, e4])
    refine w_while (n := turns) (m := xs.length) (fun M σ h' => h' = h1 ∧ ∃ xs, M = xs.length ∧ xs.length ≤ 12 ∧ (∀ b ∈ xs, Good (some cs) i 3 b) ∧ σ = [.vl (.ref n), .vl (.int most), .vl (.int long), .vl (.int m), .vl (.lst (cs.map fun p => .tup [.int p.1, .int p.2])), .ol bs, a6, .vl (.int i), a8, .vl (.tup xs)])
      (fun M σ h' ⟨eh, xs, em, x12, hx, eσ⟩ => ?_) ⟨rfl, xs, rfl, x12, hx, rfl⟩ (by unfold turns; omega)
    subst eh em eσ
    have gb := good_blk x12 hx
    have q : callN T (k + 7) (Str.ofString "_law_many") [.tup xs] h' = _ := c_law_many (T := T) 4 (k + 2) (.tup xs) h' gb.1
    (try simp (disch := first | omega | assumption | (simp only [List.length_cons, List.length_nil, List.length_append, List.length_map]; omega) | decide) only [↓WA, WB, if_true, if_false, peek, hasTys, hasTy, wipeA, tgSlots, tgsSlots, cmpSlots, List.replicate, Nat.reduceAdd, Nat.reduceSub, Nat.reduceLT, Nat.reduceLeDiff, q])
    refine Br_dec (fun hc => ?_) (fun hc => ?_)
    · have hx0 : 0 < xs.length := by
        cases xs
        · simp [manyN] at hc
        · simp
      (try simp (disch := first | omega | assumption | (simp only [List.length_cons, List.length_nil, List.length_append, List.length_map]; omega) | decide) only [↓WA, WB, if_true, if_false, peek, hasTys, hasTy, wipeA, tgSlots, tgsSlots, cmpSlots, List.replicate, Nat.reduceAdd, Nat.reduceSub, Nat.reduceLT, Nat.reduceLeDiff, cut_last])
      refine ⟨xs.length - 1, by omega, xs.take (xs.length - 1), by simp, by simp; omega, fun b hb => hx b (List.mem_of_mem_take hb), rfl⟩
    · (try simp (disch := first | omega | assumption | (simp only [List.length_cons, List.length_nil, List.length_append, List.length_map]; omega) | decide) only [↓WA, WB, if_true, if_false, peek, hasTys, hasTy, wipeA, tgSlots, tgsSlots, cmpSlots, List.replicate, Nat.reduceAdd, Nat.reduceSub, Nat.reduceLT, Nat.reduceLeDiff])
      have hn : (bs ++ [AV.tup xs]).length = i + 1 := by simp [hl]
      refine ⟨s3, bs ++ [.tup xs], _, _, _, hn, fun j hj => ?_, rfl, rfl⟩
      by_cases hji : j < bs.length
      · rw [List.getElem_append_left hji]; exact hg j hji
      · have : j = bs.length := by rw [hn] at hj; omega
        subst this
        rw [List.getElem_append_right (Nat.le_refl _)]
        simp only [Nat.sub_self, List.getElem_cons_zero]
        rw [hl]
        exact ⟨gb.1, by omega, gb.2⟩
  · subst eσ
    rw [rangeA_len] at hl
    (try simp (disch := first | omega | assumption | (simp only [List.length_cons, List.length_nil, List.length_append, List.length_map]; omega) | decide) only [↓WA, WB, if_true, if_false, peek, hasTys, hasTy, wipeA, tgSlots, tgsSlots, cmpSlots, List.replicate, Nat.reduceAdd, Nat.reduceSub, Nat.reduceLT, Nat.reduceLeDiff, e4])
    refine ⟨s2, cs, bs, ⟨rfl, by rw [hl]; exact hc, by omega, by omega, fun i hi => ⟨(hg i hi).1, (hg i hi).2.1⟩⟩, ?_⟩
    refine mk_tup (d := 9) (by simp) ?_
    simp only [List.mem_cons, List.not_mem_nil, or_false, forall_eq_or_imp, forall_eq]
    refine ⟨mk_tup (by simp; have := hc.1; omega) fun x hx => ?_, mk_tup (by omega) fun x hx => ?_⟩
    · obtain ⟨p, hp, rfl⟩ := List.mem_map.mp hx
      obtain ⟨⟨q1, q2⟩, ⟨q3, q4⟩, q5⟩ := hc.2 p hp
      refine gd_mono (Nat.le_refl _) (d := 1) (by omega) (mk_tup (by simp) ?_)
      simp only [List.mem_cons, List.not_mem_nil, or_false, forall_eq_or_imp, forall_eq]
      exact ⟨in_ok (by omega), in_ok (by omega)⟩
    · obtain ⟨j, hj, rfl⟩ := List.getElem_of_mem hx
      exact (hg j hj).2.2
theorem c_law_net [NetL T] (k : Nat) (s : StT n h0 h) (most long : Nat) (hm : 1 ≤ most ∧ most ≤ 4) (hl : long ≤ 8) :
    Rs.Ok (callN T (k + 8) (Str.ofString "_law_net") [.ref n, .int most, .int long] h) fun v h' => StT n h0 h' ∧ ∃ cs bs, Net v cs bs ∧ gd 0 10 v = true := by
  rw [callN_step NetL.law_net]
  refine w_run rfl ?_
  (try simp (disch := first | omega | assumption | (simp only [List.length_cons, List.length_nil, List.length_append, List.length_map]; omega) | decide) only [↓WA, WB, if_true, if_false, peek, hasTys, hasTy, wipeA, tgSlots, tgsSlots, cmpSlots, List.replicate, Nat.reduceAdd, Nat.reduceSub, Nat.reduceLT, Nat.reduceLeDiff, f_law_net])
  refine (c_choice (T := T) s (k + 6) (m := (most : Int)) (by omega) (by omega)).mono fun v h1 ⟨c, ev, c0, c1, s1⟩ => ?_
  subst ev
  obtain ⟨m, hmm, m1, m4⟩ : ∃ m : Nat, 1 + c = m ∧ 1 ≤ m ∧ m ≤ 4 := ⟨(1 + c).toNat, by omega, by omega, by omega⟩
  (try simp (disch := first | omega | assumption | (simp only [List.length_cons, List.length_nil, List.length_append, List.length_map]; omega) | decide) only [↓WA, WB, if_true, if_false, peek, hasTys, hasTy, wipeA, tgSlots, tgsSlots, cmpSlots, List.replicate, Nat.reduceAdd, Nat.reduceSub, Nat.reduceLT, Nat.reduceLeDiff, hmm])
  refine Br_dec (fun hm1 => ?_) (fun hm1 => ?_)
  · (try simp (disch := first | omega | assumption | (simp only [List.length_cons, List.length_nil, List.length_append, List.length_map]; omega) | decide) only [↓WA, WB, if_true, if_false, peek, hasTys, hasTy, wipeA, tgSlots, tgsSlots, cmpSlots, List.replicate, Nat.reduceAdd, Nat.reduceSub, Nat.reduceLT, Nat.reduceLeDiff])
    refine (c_choice (T := T) s1 (k + 6) (m := 7) (by omega) (by omega)).mono fun v h1 ⟨y, ev, y0, y1, s2⟩ => ?_
    subst ev
    obtain ⟨y, rfl⟩ : ∃ y' : Nat, y = y' := ⟨y.toNat, by omega⟩
    (try simp (disch := first | omega | assumption | (simp only [List.length_cons, List.length_nil, List.length_append, List.length_map]; omega) | decide) only [↓WA, WB, if_true, if_false, peek, hasTys, hasTy, wipeA, tgSlots, tgsSlots, cmpSlots, List.replicate, Nat.reduceAdd, Nat.reduceSub, Nat.reduceLT, Nat.reduceLeDiff])
    refine ⟨by omega, ?_⟩
    refine w_for (fun i σ h' => StT n h0 h' ∧ ∃ (cs : List (Int × Int)) (a6 a8 : Sv), cs.length = i ∧ (∀ p ∈ cs, (0 ≤ p.1 ∧ p.1 ≤ (m : Int) - 1) ∧ (0 ≤ p.2 ∧ p.2 ≤ (m : Int) - 1) ∧ p.1 ≠ p.2) ∧ σ = [.vl (.ref n), .vl (.int most), .vl (.int long), .vl (.int m), .ol (cs.map fun p => .tup [.int p.1, .int p.2]), .ol [], a6, .un, a8, .un])
      ⟨s2, [], .un, .un, rfl, by simp, rfl⟩ (fun i hi σ h' ⟨s3, cs, a6, a8, e1, e2, eσ⟩ => ?_) (fun σ h' ⟨s3, cs, a6, a8, e1, e2, eσ⟩ => ?_)
    · subst eσ
      refine ⟨_, asg_nm (by simp), ?_⟩
      have hi6 : i < 6 := by rw [rangeA_len] at hi; omega
      (try simp (disch := first | omega | assumption | (simp only [List.length_cons, List.length_nil, List.length_append, List.length_map]; omega) | decide) only [↓WA, WB, if_true, if_false, peek, hasTys, hasTy, wipeA, tgSlots, tgsSlots, cmpSlots, List.replicate, Nat.reduceAdd, Nat.reduceSub, Nat.reduceLT, Nat.reduceLeDiff])
      refine (c_choice (T := T) s3 (k + 6) (m := (m : Int)) (by omega) (by omega)).mono fun v h1 ⟨p, ev, p0, p1, s4⟩ => ?_
      subst ev
      (try simp (disch := first | omega | assumption | (simp only [List.length_cons, List.length_nil, List.length_append, List.length_map]; omega) | decide) only [↓WA, WB, if_true, if_false, peek, hasTys, hasTy, wipeA, tgSlots, tgsSlots, cmpSlots, List.replicate, Nat.reduceAdd, Nat.reduceSub, Nat.reduceLT, Nat.reduceLeDiff])
      refine (c_choice (T := T) s4 (k + 6) (m := (m : Int) - 1) (by omega) (by omega)).mono fun v h1 ⟨q, ev, q0, q1, s5⟩ => ?_
      subst ev
      have hq := Int.emod_nonneg (p + 1 + q) (show (m : Int) ≠ 0 by omega)
      have hq2 := Int.emod_lt_of_pos (p + 1 + q) (show (0 : Int) < m by omega)
      have hne : (p + 1 + q) % (m : Int) ≠ p := by
        by_cases hpq : p + 1 + q < m
        · rw [Int.emod_eq_of_lt (by omega) hpq]; omega
        · have : (p + 1 + q) % (m : Int) = p + 1 + q - m := by rw [← Int.sub_emod_right, Int.emod_eq_of_lt (by omega) (by omega)]
          omega
      (try simp (disch := first | omega | assumption | (simp only [List.length_cons, List.length_nil, List.length_append, List.length_map]; omega) | decide) only [↓WA, WB, if_true, if_false, peek, hasTys, hasTy, wipeA, tgSlots, tgsSlots, cmpSlots, List.replicate, Nat.reduceAdd, Nat.reduceSub, Nat.reduceLT, Nat.reduceLeDiff])
      refine ⟨s5, cs ++ [(p, (p + 1 + q) % (m : Int))], _, _, by simp [e1], fun r hr => ?_, by rw [List.map_append]; rfl⟩
      rw [List.mem_append, List.mem_singleton] at hr
      rcases hr with hr | rfl
      · exact e2 r hr
      · exact ⟨⟨p0, by omega⟩, ⟨hq, by omega⟩, fun e => hne e.symm⟩
    · subst eσ
      rw [rangeA_len] at e1
      have q := c_net_rest (T := T) k s3 most long m ⟨m1, m4⟩ hl (cs := cs) ⟨by omega, e2⟩ a6 .un a8 .un
      rw [netRest_eq] at q
      simpa only [seqK_nx, RestK_ap] using q
  · (try simp (disch := first | omega | assumption | (simp only [List.length_cons, List.length_nil, List.length_append, List.length_map]; omega) | decide) only [↓WA, WB, if_true, if_false, peek, hasTys, hasTy, wipeA, tgSlots, tgsSlots, cmpSlots, List.replicate, Nat.reduceAdd, Nat.reduceSub, Nat.reduceLT, Nat.reduceLeDiff])
    have q := c_net_rest (T := T) k s1 most long m ⟨m1, m4⟩ hl (cs := []) ⟨by simp, by simp⟩ .un .un .un .un
    rw [netRest_eq] at q
    refine ⟨by omega, ?_⟩
    have e0 : rangeA 0 0 = [] := rfl
    rw [e0]
    refine w_for (fun i σ h' => h' = h1 ∧ σ = [.vl (.ref n), .vl (.int most), .vl (.int long), .vl (.int m), .ol [], .ol [], .un, .un, .un, .un]) ⟨rfl, rfl⟩ (fun i hi => absurd hi (by simp)) (fun σ h' ⟨eh, eσ⟩ => ?_)
    subst eh eσ
    simpa only [seqK_nx, RestK_ap, List.map_nil] using q
end
end S

set_option linter.all false
set_option maxRecDepth 100000
set_option maxHeartbeats 4000000
/-! SO: flat code. -/
namespace S
open PySem G
def f_is_row_deed : Fn := ⟨3, 3, [(.ife (.or (.not (.e (.isi (.var 2) [.tuple]))) (.or (.e (.cmp .eq (.var 2) (.tup []))) (.not (.e (.isi (.sub (.var 2) (.c (.int 0))) [.str]))))) [(.ret (.c (.bl false)))] []), (.ife (.e (.cmp .eq (.sub (.var 2) (.c (.int 0))) (.c (.str "test")))) [(.ret (.and (.cmp .eq (.bi .len [(.var 2)]) (.c (.int 2))) (.call "is_number_name" [(.sub (.var 2) (.c (.int 1)))])))] []), (.ife (.e (.cmp .mem (.sub (.var 2) (.c (.int 0))) (.c (.tup [(.str "let"), (.str "hang"), (.str "pick"), (.str "send")])))) [(.ret (.and (.isi (.sub (.var 2) (.neg (.c (.int 1)))) [.str]) (.and (.cmp .mem (.sub (.var 2) (.neg (.c (.int 1)))) (.c (.tup [(.str "copy"), (.str "give")]))) (.call "is_deed" [(.var 0), (.var 1), (.slice (.var 2) none (some (.neg (.c (.int 1)))))]))))] []), (.ret (.and (.cmp .nmem (.sub (.var 2) (.c (.int 0))) (.c (.tup [(.str "if"), (.str "while")]))) (.call "is_deed" [(.var 0), (.var 1), (.var 2)])))]⟩
def f_is_row : Fn := ⟨7, 4, [(.ife (.or (.not (.e (.isi (.var 3) [.tuple]))) (.or (.e (.cmp .ne (.bi .len [(.var 3)]) (.c (.int 2)))) (.not (.e (.call "is_row_deed" [(.var 0), (.var 1), (.sub (.var 3) (.c (.int 0)))]))))) [(.ret (.c (.bl false)))] []), (.asg (.tp [(.nm 4), (.nm 5)]) (.var 3)), (.ife (.or (.not (.e (.isi (.var 5) [.tuple]))) (.e (.cmp .ne (.bi .len [(.var 5)]) (.bin .add (.c (.int 1)) (.bi .int [(.cmp .eq (.sub (.var 4) (.c (.int 0))) (.c (.str "test")))]))))) [(.ret (.c (.bl false)))] []), (.ret (.bi .all [(.comp (.cl (.nm 6) (.sq (.var 5)) [] (.elt (.call "is_within" [(.var 6), (.c (.int (-1))), (.bin .sub (.var 2) (.c (.int 1)))]))))]))]⟩
def f_are_rows : Fn := ⟨4, 3, [(.ife (.or (.not (.e (.isi (.var 2) [.tuple]))) (.e (.cmp .gt (.bi .len [(.var 2)]) (.c (.int 40))))) [(.ret (.c (.bl false)))] []), (.ret (.bi .all [(.comp (.cl (.nm 3) (.sq (.var 2)) [] (.elt (.call "is_row" [(.var 0), (.var 1), (.bi .len [(.var 2)]), (.var 3)]))))]))]⟩
def f_is_code_of : Fn := ⟨6, 2, [(.asg (.tp [(.nm 2), (.nm 3)]) (.var 0)), (.ife (.or (.not (.e (.isi (.var 1) [.tuple]))) (.e (.cmp .ne (.bi .len [(.var 1)]) (.bi .len [(.var 3)])))) [(.ret (.c (.bl false)))] []), (.ret (.bi .all [(.comp (.cl (.tp [(.nm 4), (.nm 5)]) (.en (.var 1)) [] (.elt (.call "are_rows" [(.var 2), (.var 4), (.var 5)]))))]))]⟩
def f_is_code : Fn := ⟨2, 2, [(.expr (.call "need_net" [(.var 0)])), (.ret (.call "is_code_of" [(.var 0), (.var 1)]))]⟩
def f_need_code : Fn := ⟨2, 2, [(.ife (.not (.e (.call "is_code_of" [(.var 0), (.var 1)]))) [.never] [])]⟩
def f_deed_of : Fn := ⟨1, 1, [(.ife (.e (.cmp .mem (.sub (.var 0) (.c (.int 0))) (.c (.tup [(.str "if"), (.str "while")])))) [(.ret (.tup [(.c (.str "test")), (.sub (.var 0) (.c (.int 1)))]))] []), (.ret (.ife (.e (.cmp .mem (.sub (.var 0) (.c (.int 0))) (.c (.tup [(.str "let"), (.str "hang"), (.str "pick"), (.str "send")])))) (.bin .add (.var 0) (.tup [(.c (.str "copy"))])) (.var 0)))]⟩
def f_rows_of_one : Fn := ⟨12, 3, [(.set 3 (.call "deed_of" [(.var 0)])), (.ife (.e (.cmp .eq (.sub (.var 0) (.c (.int 0))) (.c (.str "if")))) [(.asg (.tp [(.nm 4), (.nm 5), (.nm 6), (.nm 7)]) (.var 0)), (.set 8 (.bin .add (.var 1) (.c (.int 1)))), (.set 9 (.bin .add (.var 8) (.call "many_in" [(.var 6)]))), (.set 10 (.tup [(.ife (.e (.cmp .ne (.var 6) (.tup []))) (.var 8) (.var 2)), (.ife (.e (.cmp .ne (.var 7) (.tup []))) (.var 9) (.var 2))])), (.ret (.cat (.cat (.lst [(.tup [(.var 3), (.var 10)])]) (.call "rows_of" [(.var 6), (.var 8), (.var 2)])) (.call "rows_of" [(.var 7), (.var 9), (.var 2)])))] []), (.ife (.e (.cmp .eq (.sub (.var 0) (.c (.int 0))) (.c (.str "while")))) [(.set 6 (.sub (.var 0) (.c (.int 2)))), (.set 11 (.ife (.e (.cmp .ne (.var 6) (.tup []))) (.bin .add (.var 1) (.c (.int 1))) (.var 1))), (.ret (.cat (.lst [(.tup [(.var 3), (.tup [(.var 11), (.var 2)])])]) (.call "rows_of" [(.var 6), (.bin .add (.var 1) (.c (.int 1))), (.var 1)])))] []), (.ret (.lst [(.tup [(.var 3), (.tup [(.var 2)])])]))]⟩
def f_rows_of : Fn := ⟨8, 3, [(.own 3 (.lst [])), (.for (.tp [(.nm 4), (.nm 5)]) (.en (.var 0)) [(.set 6 (.bin .add (.var 1) (.bi .len [(.var 3)]))), (.set 7 (.ife (.e (.cmp .lt (.bin .add (.var 4) (.c (.int 1))) (.bi .len [(.var 0)]))) (.bin .add (.var 6) (.call "many_in" [(.tup [(.var 5)])])) (.var 2))), (.ext 3 (.call "rows_of_one" [(.var 5), (.var 6), (.var 7)]))]), (.ret (.var 3))]⟩
def f_flat_of : Fn := ⟨4, 1, [(.asg (.tp [(.nm 1), (.nm 2)]) (.var 0)), (.ret (.bi .tuple [(.comp (.cl (.nm 3) (.sq (.var 2)) [] (.elt (.bi .tuple [(.call "rows_of" [(.var 3), (.c (.int 0)), (.c (.int (-1)))])]))))]))]⟩
def f_flat : Fn := ⟨1, 1, [(.expr (.call "need_net" [(.var 0)])), (.ret (.call "flat_of" [(.var 0)]))]⟩
def f_unmarked : Fn := ⟨3, 1, [(.ret (.bi .tuple [(.comp (.cl (.tp [(.nm 1), (.nm 2)]) (.sq (.var 0)) [] (.elt (.tup [(.ife (.e (.cmp .mem (.sub (.var 1) (.c (.int 0))) (.c (.tup [(.str "let"), (.str "hang"), (.str "pick"), (.str "send")])))) (.bin .add (.slice (.var 1) none (some (.neg (.c (.int 1))))) (.tup [(.c (.str "copy"))])) (.var 1)), (.var 2)]))))]))]⟩
def f_is_own : Fn := ⟨3, 2, [(.expr (.call "need_net" [(.var 0)])), (.expr (.call "need_code" [(.var 0), (.var 1)])), (.ret (.cmp .eq (.bi .tuple [(.comp (.cl (.nm 2) (.sq (.var 1)) [] (.elt (.call "unmarked" [(.var 2)]))))]) (.call "flat_of" [(.var 0)])))]⟩
class Code (T : Tab) : Prop extends Nets T where
  is_row_deed : T.lookup (Str.ofString "is_row_deed") = some f_is_row_deed
  is_row : T.lookup (Str.ofString "is_row") = some f_is_row
  are_rows : T.lookup (Str.ofString "are_rows") = some f_are_rows
  is_code_of : T.lookup (Str.ofString "is_code_of") = some f_is_code_of
  is_code : T.lookup (Str.ofString "is_code") = some f_is_code
  need_code : T.lookup (Str.ofString "need_code") = some f_need_code
  deed_of : T.lookup (Str.ofString "deed_of") = some f_deed_of
  rows_of_one : T.lookup (Str.ofString "rows_of_one") = some f_rows_of_one
  rows_of : T.lookup (Str.ofString "rows_of") = some f_rows_of
  flat_of : T.lookup (Str.ofString "flat_of") = some f_flat_of
  flat : T.lookup (Str.ofString "flat") = some f_flat
  unmarked : T.lookup (Str.ofString "unmarked") = some f_unmarked
  is_own : T.lookup (Str.ofString "is_own") = some f_is_own
inductive Shp (cn : Option (List (Int × Int))) (a : Int) (d : Nat) : AV → Prop
  | ife (x : AV) (p q : List AV) (hx : nmB x = true) (hp : blkB cn a d (.tup p) = true) (hq : blkB cn a d (.tup q) = true) : Shp cn a d (.tup [.str "if", x, .tup p, .tup q])
  | whi (x : AV) (p : List AV) (hx : nmB x = true) (hp : blkB cn a d (.tup p) = true) : Shp cn a d (.tup [.str "while", x, .tup p])
  | ded (w : Str) (ps : List AV) (h1 : ¬ (w == "if") = true) (h2 : ¬ (w == "while") = true) (hd : dedB cn a (.tup (.str w :: ps)) = true) (hl : ps.length ≤ 4) : Shp cn a d (.tup (.str w :: ps))
section
variable {cn : Option (List (Int × Int))} {a : Int}
theorem blk_tup {d : Nat} {v : AV} (h : blkB cn a d v = true) : ∃ p, v = .tup p := by
  cases d
  · simp [blkB] at h
  · obtain ⟨bs, e, _⟩ := blk_parts h; exact ⟨bs, e⟩
theorem ded_len {w f : Str} {ps : List AV} (h : dedB cn a (.tup (.str w :: ps)) = true) (hf : kd_FORMS.lookup w = some (.str f)) : ps.length = f.length := by
  simp only [dedB, hf, Bool.and_eq_true, decide_eq_true_eq] at h
  exact h.1
theorem shp_of {d : Nat} {w : Str} {ps : List AV} (h : dedB cn a (.tup (.str w :: ps)) = true) (hl : ps.length ≤ 4) (hb : ∀ x ∈ blksOf (.tup (.str w :: ps)), blkB cn a d x = true) : Shp cn a d (.tup (.str w :: ps)) := by
  by_cases h1 : (w == "if") = true
  · have hw := eq_of_beq h1
    subst hw
    have l := ded_len (f := "abb") h rfl
    match ps, l with
    | [x, y, z], _ =>
      obtain ⟨p, rfl⟩ := blk_tup (hb y (by simp [blksOf]))
      obtain ⟨q, rfl⟩ := blk_tup (hb z (by simp [blksOf]))
      rw [dd_if] at h
      exact .ife x p q (by simpa using h) (hb _ (by simp [blksOf])) (hb _ (by simp [blksOf]))
  · by_cases h2 : (w == "while") = true
    · have hw := eq_of_beq h2
      subst hw
      have l := ded_len (f := "ab") h rfl
      match ps, l with
      | [x, y], _ =>
        obtain ⟨p, rfl⟩ := blk_tup (hb y (by simp [blksOf]))
        rw [dd_while] at h
        exact .whi x p (by simpa using h) (hb _ (by simp [blksOf]))
    · exact .ded w ps h1 h2 h hl
theorem blk_shp {d : Nat} {bs : List AV} (h : blkB cn a (d + 1) (.tup bs) = true) : bs.length ≤ 12 ∧ ∀ b ∈ bs, Shp cn a d b := by
  obtain ⟨bs', e, h1, h2⟩ := blk_parts h
  cases e
  refine ⟨h1, fun b hb => ?_⟩
  obtain ⟨w, ps, rfl, q1, q2, q3⟩ := h2 b hb
  exact shp_of q1 q2 q3
def markB (w : Str) : Bool := ("let" : Str) == w || (("hang" : Str) == w || (("pick" : Str) == w || (("send" : Str) == w || false)))
def dedOf : AV → AV
  | .tup (.str w :: ps) => if markB w = true then .tup (.str w :: ps ++ [.str "copy"]) else .tup (.str w :: ps)
  | v => v
def nextI (p : List AV) (x y : Int) : Int := if p.isEmpty = true then y else x
/-- the rows of one statement -/
def oneR (m : AV → AV) (R : List AV → Int → Int → List AV) (N : AV → Nat) (b : AV) (num behind : Int) : List AV := match b with
  | .tup [.str w, x, .tup p, .tup q] =>
    if (w == "if") = true then .tup [.tup [.str "test", x], .tup [.int (nextI p (num + 1) behind), .int (nextI q (num + 1 + N (.tup p)) behind)]] :: (R p (num + 1) behind ++ R q (num + 1 + N (.tup p)) behind)
    else [.tup [m b, .tup [.int behind]]]
  | .tup [.str w, x, .tup p] =>
    if (w == "while") = true then .tup [.tup [.str "test", x], .tup [.int (nextI p (num + 1) num), .int behind]] :: R p (num + 1) num
    else [.tup [m b, .tup [.int behind]]]
  | b => [.tup [m b, .tup [.int behind]]]
def rowsG (one : AV → Int → Int → List AV) (N1 : AV → Nat) (num behind : Int) (bs : List AV) : Nat → List AV
  | 0 => []
  | i + 1 => rowsG one N1 num behind bs i ++ (match bs[i]? with
    | some b => one b (num + (rowsG one N1 num behind bs i).length) (if i + 1 < bs.length then num + (rowsG one N1 num behind bs i).length + N1 b else behind)
    | none => [])
def one1 (d : Nat) (b : AV) : Nat := 1 + ((blksOf b).map (manyN d)).sum
def rowsD (m : AV → AV) : Nat → List AV → Int → Int → List AV
  | 0, _, _, _ => []
  | d + 1, bs, num, behind => rowsG (oneR m (rowsD m d) (manyN d)) (one1 d) num behind bs bs.length
theorem oneR_ded {m : AV → AV} {R : List AV → Int → Int → List AV} {N : AV → Nat} {w : Str} {ps : List AV} {num behind : Int} (h1 : ¬ (w == "if") = true) (h2 : ¬ (w == "while") = true) :
    oneR m R N (.tup (.str w :: ps)) num behind = [.tup [m (.tup (.str w :: ps)), .tup [.int behind]]] := by
  unfold oneR
  split
  · rename_i e
    simp only [AV.tup.injEq, List.cons.injEq, AV.str.injEq] at e
    obtain ⟨rfl, rfl⟩ := e
    rw [if_neg h1]
  · rename_i e
    simp only [AV.tup.injEq, List.cons.injEq, AV.str.injEq] at e
    obtain ⟨rfl, rfl⟩ := e
    rw [if_neg h2]
  · rfl
theorem many_len {bs : List AV} {d : Nat} : manyN (d + 1) (.tup bs) = (bs.map (one1 d)).sum := rfl
/-- as many rows as statements -/
theorem rowsG_len {one : AV → Int → Int → List AV} {N1 : AV → Nat} {num behind : Int} {bs : List AV} (h : ∀ b ∈ bs, ∀ x y, (one b x y).length = N1 b) : ∀ i, i ≤ bs.length → (rowsG one N1 num behind bs i).length = ((bs.take i).map N1).sum
  | 0, _ => rfl
  | i + 1, hi => by
    have hi' : i < bs.length := by omega
    simp only [rowsG, List.getElem?_eq_getElem hi', List.length_append]
    rw [rowsG_len h i (by omega), h _ (List.getElem_mem hi'), List.take_succ_eq_append_getElem hi', List.map_append, List.sum_append]
    simp
theorem oneR_len0 {m : AV → AV} {R : List AV → Int → Int → List AV} {d : Nat} (hR : ∀ bs x y, blkB cn a d (.tup bs) = true → (R bs x y).length = manyN d (.tup bs)) {b : AV} (hb : Shp cn a d b) (x y : Int) : (oneR m R (manyN d) b x y).length = one1 d b := by
  cases hb with
  | ife z p q hz hp hq =>
    have e : oneR m R (manyN d) (.tup [.str "if", z, .tup p, .tup q]) x y = .tup [.tup [.str "test", z], .tup [.int (nextI p (x + 1) y), .int (nextI q (x + 1 + manyN d (.tup p)) y)]] :: (R p (x + 1) y ++ R q (x + 1 + manyN d (.tup p)) y) := rfl
    have e2 : blksOf (.tup [.str "if", z, .tup p, .tup q]) = [.tup p, .tup q] := rfl
    rw [e, List.length_cons, List.length_append, hR _ _ _ hp, hR _ _ _ hq]
    simp only [one1, e2, List.map_cons, List.map_nil, List.sum_cons, List.sum_nil]; omega
  | whi z p hz hp =>
    have e : oneR m R (manyN d) (.tup [.str "while", z, .tup p]) x y = .tup [.tup [.str "test", z], .tup [.int (nextI p (x + 1) x), .int y]] :: R p (x + 1) x := rfl
    have e2 : blksOf (.tup [.str "while", z, .tup p]) = [.tup p] := rfl
    rw [e, List.length_cons, hR _ _ _ hp]
    simp only [one1, e2, List.map_cons, List.map_nil, List.sum_cons, List.sum_nil]; omega
  | ded w ps q1 q2 q3 q4 =>
    rw [oneR_ded q1 q2]
    simp only [one1, blksOf]
    rw [if_neg q1, if_neg q2]; rfl
theorem rows_len {m : AV → AV} : ∀ {d : Nat} {bs : List AV} {num behind : Int}, blkB cn a d (.tup bs) = true → (rowsD m d bs num behind).length = manyN d (.tup bs)
  | 0, bs, num, behind, h => by simp [blkB] at h
  | d + 1, bs, num, behind, h => by
    obtain ⟨h1, h2⟩ := blk_shp h
    simp only [rowsD]
    rw [rowsG_len (fun b hb x y => oneR_len0 (fun bs x y h => rows_len h) (h2 b hb) x y) _ (Nat.le_refl _), List.take_length]; rfl
theorem oneR_len {m : AV → AV} {d : Nat} {bs : List AV} (h : ∀ b ∈ bs, Shp cn a d b) : ∀ b ∈ bs, ∀ x y, (oneR m (rowsD m d) (manyN d) b x y).length = one1 d b := fun b hb x y => oneR_len0 (fun bs x y h => rows_len h) (h b hb) x y
theorem sum_take (f : AV → Nat) (xs : List AV) (i : Nat) : ((xs.take i).map f).sum ≤ (xs.map f).sum := by
  conv => rhs; rw [← List.take_append_drop i xs, List.map_append, List.sum_append]
  omega
end
section
variable {T : Tab} {cn : Option (List (Int × Int))} {a : Int}
theorem c_deed_of [Code T] (k : Nat) (w : Str) (ps : List AV) (h : AH) (hw : ¬ (w == "if") = true) (hw2 : ¬ (w == "while") = true) (hl : ps.length ≤ 4) : callN T (k + 1) (Str.ofString "deed_of") [.tup (.str w :: ps)] h = .ok (dedOf (.tup (.str w :: ps))) h := by
  rw [callN_step Code.deed_of]
  refine Ok_eq (w_run rfl ?_)
  have e1 : opC .mem (.str w) (.tup [(.str "if"), (.str "while")]) h = some false := by
    have q1 : (("if" : Str) == w) = false := by rw [Bool.eq_false_iff]; intro c; exact hw (by rw [eq_of_beq c]; simp)
    have q2 : (("while" : Str) == w) = false := by rw [Bool.eq_false_iff]; intro c; exact hw2 (by rw [eq_of_beq c]; simp)
    simp only [opC, items, Option.bind_some, pyIn, eqD_str, Option.map_some, q1, q2]; rfl
  have e2 : opC .mem (.str w) (.tup [(.str "let"), (.str "hang"), (.str "pick"), (.str "send")]) h = some (markB w) := by
    simp only [opC, items, Option.bind_some, pyIn, eqD_str, Option.map_some, markB]
  (try simp (disch := first | omega | assumption | (simp only [List.length_cons, List.length_nil, List.length_append, List.length_map]; omega) | decide) only [↓WA, WB, if_true, if_false, peek, hasTys, hasTy, wipeA, tgSlots, tgsSlots, cmpSlots, List.replicate, Nat.reduceAdd, Nat.reduceSub, Nat.reduceLT, Nat.reduceLeDiff, f_deed_of, e1, e2])
  refine Br_of (fun c => ?_) (fun c => ?_) <;> (try simp (disch := first | omega | assumption | (simp only [List.length_cons, List.length_nil, List.length_append, List.length_map]; omega) | decide) only [↓WA, WB, if_true, if_false, peek, hasTys, hasTy, wipeA, tgSlots, tgsSlots, cmpSlots, List.replicate, Nat.reduceAdd, Nat.reduceSub, Nat.reduceLT, Nat.reduceLeDiff])
  · simp only [dedOf]; rw [if_pos c]; rfl
  · simp only [dedOf]; rw [if_neg (by simp [c])]
theorem c_deed_test [Code T] (k : Nat) (x : AV) (r : List AV) (h : AH) : callN T (k + 1) (Str.ofString "deed_of") [.tup (.str "if" :: x :: r)] h = .ok (.tup [.str "test", x]) h ∧ callN T (k + 1) (Str.ofString "deed_of") [.tup (.str "while" :: x :: r)] h = .ok (.tup [.str "test", x]) h := by
  have e1 : ∀ w : Str, (w == "if" || w == "while") = true → opC .mem (.str w) (.tup [(.str "if"), (.str "while")]) h = some true := fun w hw => by
    simp only [Bool.or_eq_true, beq_iff_eq] at hw
    rcases hw with rfl | rfl <;> rfl
  constructor
  · rw [callN_step Code.deed_of]
    refine Ok_eq (w_run rfl ?_)
    (try simp (disch := first | omega | assumption | (simp only [List.length_cons, List.length_nil, List.length_append, List.length_map]; omega) | decide) only [↓WA, WB, if_true, if_false, peek, hasTys, hasTy, wipeA, tgSlots, tgsSlots, cmpSlots, List.replicate, Nat.reduceAdd, Nat.reduceSub, Nat.reduceLT, Nat.reduceLeDiff, f_deed_of, e1 "if" rfl])
  · rw [callN_step Code.deed_of]
    refine Ok_eq (w_run rfl ?_)
    (try simp (disch := first | omega | assumption | (simp only [List.length_cons, List.length_nil, List.length_append, List.length_map]; omega) | decide) only [↓WA, WB, if_true, if_false, peek, hasTys, hasTy, wipeA, tgSlots, tgsSlots, cmpSlots, List.replicate, Nat.reduceAdd, Nat.reduceSub, Nat.reduceLT, Nat.reduceLeDiff, f_deed_of, e1 "while" rfl])
theorem blk_one {d : Nat} {bs : List AV} {b : AV} (h : blkB cn a (d + 1) (.tup bs) = true) (hb : b ∈ bs) : blkB cn a (d + 1) (.tup [b]) = true := by
  simp only [blkB, Bool.and_eq_true, decide_eq_true_eq, List.all_eq_true] at h ⊢
  exact ⟨by simp, fun x hx => by rw [List.mem_singleton] at hx; subst hx; exact h.2 x hb⟩
theorem one_many {d : Nat} {b : AV} : manyN (d + 1) (.tup [b]) = one1 d b := by simp [many_len]
theorem one_le {d : Nat} {bs : List AV} {b : AV} (hb : b ∈ bs) : one1 d b ≤ manyN (d + 1) (.tup bs) := by
  rw [many_len]
  induction bs with
  | nil => cases hb
  | cons x xs ih =>
    simp only [List.map_cons, List.sum_cons]
    rcases List.mem_cons.mp hb with rfl | hb
    · omega
    · have := ih hb; omega
theorem c_one [Code T] (d k : Nat) (IH : ∀ (bs : List AV) (num behind : Int) (h : AH), blkB cn a d (.tup bs) = true → manyN d (.tup bs) ≤ 40 → callN T (k + 2 * d + 3) (Str.ofString "rows_of") [.tup bs, .int num, .int behind] h = .ok (.lst (rowsD dedOf d bs num behind)) h)
    (b : AV) (num behind : Int) (h : AH) (hb : Shp cn a d b) (hm : one1 d b ≤ 40) : callN T (k + 2 * d + 4) (Str.ofString "rows_of_one") [b, .int num, .int behind] h = .ok (.lst (oneR dedOf (rowsD dedOf d) (manyN d) b num behind)) h := by
  rw [callN_step Code.rows_of_one]
  refine Ok_eq (w_run rfl ?_)
  cases hb with
  | ife x p q hx hp hq =>
    have e : oneR dedOf (rowsD dedOf d) (manyN d) (.tup [.str "if", x, .tup p, .tup q]) num behind = .tup [.tup [.str "test", x], .tup [.int (nextI p (num + 1) behind), .int (nextI q (num + 1 + manyN d (.tup p)) behind)]] :: (rowsD dedOf d p (num + 1) behind ++ rowsD dedOf d q (num + 1 + manyN d (.tup p)) behind) := rfl
    have e2 : one1 d (.tup [.str "if", x, .tup p, .tup q]) = 1 + (manyN d (.tup p) + manyN d (.tup q)) := by
      have e2 : blksOf (.tup [.str "if", x, .tup p, .tup q]) = [.tup p, .tup q] := rfl
      simp [one1, e2]
    rw [e2] at hm
    have q1 : callN T (k + 2 * d + 3) (Str.ofString "deed_of") [.tup [.str "if", x, .tup p, .tup q]] h = _ := (c_deed_test (T := T) (k + 2 * d + 2) x [.tup p, .tup q] h).1
    have q2 : callN T (k + 2 * d + 3) (Str.ofString "many_in") [.tup p] h = .ok (.int (manyN d (.tup p))) h := by
      have := c_many (T := T) d (k + d + 1) (.tup p) h hp
      rwa [show k + d + 1 + d + 2 = k + 2 * d + 3 by omega] at this
    have l1 := rows_len (m := dedOf) (num := num + 1) (behind := behind) hp
    have l2 := rows_len (m := dedOf) (num := num + 1 + manyN d (.tup p)) (behind := behind) hq
    have ew : ((Str.ofString "if") == (Str.ofString "if")) = true := by decide +kernel
    rw [e]
    (try simp (disch := first | omega | assumption | (simp only [List.length_cons, List.length_nil, List.length_append, List.length_map]; omega) | decide) only [↓WA, WB, if_true, if_false, peek, hasTys, hasTy, wipeA, tgSlots, tgsSlots, cmpSlots, List.replicate, Nat.reduceAdd, Nat.reduceSub, Nat.reduceLT, Nat.reduceLeDiff, f_rows_of_one, q1, q2, ew])
    have fin : ∀ x1 y1 : Int, nextI p (num + 1) behind = x1 → nextI q (num + 1 + manyN d (.tup p)) behind = y1 → True := fun _ _ _ _ => trivial
    have r1 := IH p (num + 1) behind h hp (by omega)
    have r2 := IH q (num + 1 + manyN d (.tup p)) behind h hq (by omega)
    refine Br_of (fun c1 => ?_) (fun c1 => ?_) <;> (try simp (disch := first | omega | assumption | (simp only [List.length_cons, List.length_nil, List.length_append, List.length_map]; omega) | decide) only [↓WA, WB, if_true, if_false, peek, hasTys, hasTy, wipeA, tgSlots, tgsSlots, cmpSlots, List.replicate, Nat.reduceAdd, Nat.reduceSub, Nat.reduceLT, Nat.reduceLeDiff]) <;> refine Br_of (fun c2 => ?_) (fun c2 => ?_) <;> (try simp (disch := first | omega | assumption | (simp only [List.length_cons, List.length_nil, List.length_append, List.length_map]; omega) | decide) only [↓WA, WB, if_true, if_false, peek, hasTys, hasTy, wipeA, tgSlots, tgsSlots, cmpSlots, List.replicate, Nat.reduceAdd, Nat.reduceSub, Nat.reduceLT, Nat.reduceLeDiff, r1, r2]) <;> simp only [Bool.not_eq_true', Bool.not_eq_false'] at c1 c2 <;> simp [nextI, c1, c2]
  | whi x p hx hp =>
    have e : oneR dedOf (rowsD dedOf d) (manyN d) (.tup [.str "while", x, .tup p]) num behind = .tup [.tup [.str "test", x], .tup [.int (nextI p (num + 1) num), .int behind]] :: rowsD dedOf d p (num + 1) num := rfl
    have e2 : one1 d (.tup [.str "while", x, .tup p]) = 1 + manyN d (.tup p) := by
      have e2 : blksOf (.tup [.str "while", x, .tup p]) = [.tup p] := rfl
      simp [one1, e2]
    rw [e2] at hm
    have q1 : callN T (k + 2 * d + 3) (Str.ofString "deed_of") [.tup [.str "while", x, .tup p]] h = _ := (c_deed_test (T := T) (k + 2 * d + 2) x [.tup p] h).2
    have l1 := rows_len (m := dedOf) (num := num + 1) (behind := num) hp
    have ew : ((Str.ofString "while") == (Str.ofString "if")) = false := by decide +kernel
    have ew2 : ((Str.ofString "while") == (Str.ofString "while")) = true := by decide +kernel
    rw [e]
    have r1 := IH p (num + 1) num h hp (by omega)
    (try simp (disch := first | omega | assumption | (simp only [List.length_cons, List.length_nil, List.length_append, List.length_map]; omega) | decide) only [↓WA, WB, if_true, if_false, peek, hasTys, hasTy, wipeA, tgSlots, tgsSlots, cmpSlots, List.replicate, Nat.reduceAdd, Nat.reduceSub, Nat.reduceLT, Nat.reduceLeDiff, f_rows_of_one, q1, ew, ew2])
    refine Br_of (fun c1 => ?_) (fun c1 => ?_) <;> (try simp (disch := first | omega | assumption | (simp only [List.length_cons, List.length_nil, List.length_append, List.length_map]; omega) | decide) only [↓WA, WB, if_true, if_false, peek, hasTys, hasTy, wipeA, tgSlots, tgsSlots, cmpSlots, List.replicate, Nat.reduceAdd, Nat.reduceSub, Nat.reduceLT, Nat.reduceLeDiff, r1]) <;> simp only [Bool.not_eq_true', Bool.not_eq_false'] at c1 <;> simp [nextI, c1]
  | ded w ps h1 h2 hd hl =>
    rw [oneR_ded h1 h2]
    have q1 : callN T (k + 2 * d + 3) (Str.ofString "deed_of") [.tup (.str w :: ps)] h = _ := c_deed_of (T := T) (k + 2 * d + 2) w ps h h1 h2 hl
    have f1 : (w == Str.ofString "if") = false := by simpa using h1
    have f2 : (w == Str.ofString "while") = false := by simpa using h2
    (try simp (disch := first | omega | assumption | (simp only [List.length_cons, List.length_nil, List.length_append, List.length_map]; omega) | decide) only [↓WA, WB, if_true, if_false, peek, hasTys, hasTy, wipeA, tgSlots, tgsSlots, cmpSlots, List.replicate, Nat.reduceAdd, Nat.reduceSub, Nat.reduceLT, Nat.reduceLeDiff, f_rows_of_one, q1, f1, f2])
theorem c_rows [Code T] : ∀ (d k : Nat) (bs : List AV) (num behind : Int) (h : AH), blkB cn a d (.tup bs) = true → manyN d (.tup bs) ≤ 40 → callN T (k + 2 * d + 3) (Str.ofString "rows_of") [.tup bs, .int num, .int behind] h = .ok (.lst (rowsD dedOf d bs num behind)) h
  | 0, k, bs, num, behind, h, hb, hm => by simp [blkB] at hb
  | d + 1, k, bs, num, behind, h, hb, hm => by
    rw [callN_step Code.rows_of]
    refine Ok_eq (w_run rfl ?_)
    obtain ⟨h12, hs⟩ := blk_shp hb
    (try simp (disch := first | omega | assumption | (simp only [List.length_cons, List.length_nil, List.length_append, List.length_map]; omega) | decide) only [↓WA, WB, if_true, if_false, peek, hasTys, hasTy, wipeA, tgSlots, tgsSlots, cmpSlots, List.replicate, Nat.reduceAdd, Nat.reduceSub, Nat.reduceLT, Nat.reduceLeDiff, f_rows_of])
    refine w_for (fun i σ h' => h' = h ∧ ∃ a4 a5 a6 a7, σ = [.vl (.tup bs), .vl (.int num), .vl (.int behind), .ol (rowsG (oneR dedOf (rowsD dedOf d) (manyN d)) (one1 d) num behind bs i), a4, a5, a6, a7]) ⟨rfl, _, _, _, _, rfl⟩ (fun i hi σ h' ⟨eh, a4, a5, a6, a7, eσ⟩ => ?_) (fun σ h' ⟨eh, a4, a5, a6, a7, eσ⟩ => ?_)
    · subst eh eσ
      have hi' : i < bs.length := by rw [enA_len] at hi; exact hi
      rw [enA_at hi, Nat.zero_add]
      refine ⟨_, rfl, ?_⟩
      have hbm : bs[i] ∈ bs := List.getElem_mem hi'
      have eN : rowsG (oneR dedOf (rowsD dedOf d) (manyN d)) (one1 d) num behind bs (i + 1) = rowsG (oneR dedOf (rowsD dedOf d) (manyN d)) (one1 d) num behind bs i ++ oneR dedOf (rowsD dedOf d) (manyN d) bs[i] (num + (rowsG (oneR dedOf (rowsD dedOf d) (manyN d)) (one1 d) num behind bs i).length) (if i + 1 < bs.length then num + (rowsG (oneR dedOf (rowsD dedOf d) (manyN d)) (one1 d) num behind bs i).length + one1 d bs[i] else behind) := by
        simp only [rowsG, List.getElem?_eq_getElem hi']
      have lN := rowsG_len (num := num) (behind := behind) (oneR_len (m := dedOf) hs) (i + 1) (by omega)
      have lN2 : ((bs.take (i + 1)).map (one1 d)).sum ≤ 40 := Nat.le_trans (sum_take (one1 d) bs (i + 1)) hm
      have hs1 := hs _ hbm
      have hm1 := Nat.le_trans (one_le (d := d) hbm) hm
      have q2 : callN T (k + 2 * (d + 1) + 2) (Str.ofString "many_in") [.tup [bs[i]]] h' = .ok (.int (one1 d bs[i])) h' := by
        have := c_many (T := T) (d + 1) (k + d + 1) (.tup [bs[i]]) h' (blk_one hb hbm)
        rw [one_many] at this
        rwa [show k + d + 1 + (d + 1) + 2 = k + 2 * (d + 1) + 2 by omega] at this
      have q3 : ∀ (num behind : Int) (h : AH), Shp cn a d bs[i] → one1 d bs[i] ≤ 40 → callN T (k + 2 * (d + 1) + 2) (Str.ofString "rows_of_one") [bs[i], .int num, .int behind] h = .ok (.lst (oneR dedOf (rowsD dedOf d) (manyN d) bs[i] num behind)) h := fun num behind h h1 h2 => c_one d k (fun bs num behind h hb hm => c_rows d k bs num behind h hb hm) bs[i] num behind h h1 h2
      rw [eN] at lN ⊢
      generalize bs[i] = b at q2 q3 hs1 hm1 lN
      generalize rowsG (oneR dedOf (rowsD dedOf d) (manyN d)) (one1 d) num behind bs i = rows at lN
      rw [List.length_append] at lN
      (try simp (disch := first | omega | assumption | (simp only [List.length_cons, List.length_nil, List.length_append, List.length_map]; omega) | decide) only [↓WA, WB, if_true, if_false, peek, hasTys, hasTy, wipeA, tgSlots, tgsSlots, cmpSlots, List.replicate, Nat.reduceAdd, Nat.reduceSub, Nat.reduceLT, Nat.reduceLeDiff])
      refine Br_dec (fun c => ?_) (fun c => ?_)
      · have c' : i + 1 < bs.length := by omega
        rw [if_pos c'] at lN ⊢
        have q4 := q3 (num + rows.length) (num + rows.length + one1 d b) h' hs1 hm1
        (try simp (disch := first | omega | assumption | (simp only [List.length_cons, List.length_nil, List.length_append, List.length_map]; omega) | decide) only [↓WA, WB, if_true, if_false, peek, hasTys, hasTy, wipeA, tgSlots, tgsSlots, cmpSlots, List.replicate, Nat.reduceAdd, Nat.reduceSub, Nat.reduceLT, Nat.reduceLeDiff, q2, q4])
        exact ⟨_, _, _, _, rfl⟩
      · have c' : ¬ i + 1 < bs.length := by omega
        rw [if_neg c'] at lN ⊢
        have q4 := q3 (num + rows.length) behind h' hs1 hm1
        (try simp (disch := first | omega | assumption | (simp only [List.length_cons, List.length_nil, List.length_append, List.length_map]; omega) | decide) only [↓WA, WB, if_true, if_false, peek, hasTys, hasTy, wipeA, tgSlots, tgsSlots, cmpSlots, List.replicate, Nat.reduceAdd, Nat.reduceSub, Nat.reduceLT, Nat.reduceLeDiff, q2, q4])
        exact ⟨_, _, _, _, rfl⟩
    · subst eh eσ
      rw [enA_len]
      (try simp (disch := first | omega | assumption | (simp only [List.length_cons, List.length_nil, List.length_append, List.length_map]; omega) | decide) only [↓WA, WB, if_true, if_false, peek, hasTys, hasTy, wipeA, tgSlots, tgsSlots, cmpSlots, List.replicate, Nat.reduceAdd, Nat.reduceSub, Nat.reduceLT, Nat.reduceLeDiff])
      rfl
def tupL : AV → List AV
  | .tup xs => xs
  | _ => []
def rowsV (m : AV → AV) (b : AV) : AV := .tup (rowsD m 4 (tupL b) 0 (-1))
def flatV (bs : List AV) : AV := .tup (bs.map (rowsV dedOf))
theorem c_flat_of [Code T] (k : Nat) {v : AV} {cs : List (Int × Int)} {bs : List AV} (N : Net v cs bs) (h : AH) : callN T (k + 12) (Str.ofString "flat_of") [v] h = .ok (flatV bs) h := by
  obtain ⟨rfl, hc, l1, l4, hb⟩ := N
  rw [callN_step Code.flat_of]
  refine Ok_eq (w_run rfl ?_)
  (try simp (disch := first | omega | assumption | (simp only [List.length_cons, List.length_nil, List.length_append, List.length_map]; omega) | decide) only [↓WA, WB, if_true, if_false, peek, hasTys, hasTy, wipeA, tgSlots, tgsSlots, cmpSlots, List.replicate, Nat.reduceAdd, Nat.reduceSub, Nat.reduceLT, Nat.reduceLeDiff, f_flat_of])
  refine w_map (rowsV dedOf) (fun x hx => ⟨_, asg_nm (by simp), ?_⟩) ?_
  · obtain ⟨j, hj, rfl⟩ := List.getElem_of_mem hx
    obtain ⟨b1, b2⟩ := hb j hj
    obtain ⟨p, ep⟩ := blk_tup b1
    rw [ep] at b1 b2 ⊢
    have q1 : callN T (k + 11) (Str.ofString "rows_of") [.tup p, .int 0, .int (-1)] h = _ := c_rows (T := T) 4 k p 0 (-1) h b1 b2
    have l := rows_len (m := dedOf) (num := 0) (behind := -1) b1
    (try simp (disch := first | omega | assumption | (simp only [List.length_cons, List.length_nil, List.length_append, List.length_map]; omega) | decide) only [↓WA, WB, if_true, if_false, peek, hasTys, hasTy, wipeA, tgSlots, tgsSlots, cmpSlots, List.replicate, Nat.reduceAdd, Nat.reduceSub, Nat.reduceLT, Nat.reduceLeDiff, w_bodyC, q1])
    rfl
  · (try simp (disch := first | omega | assumption | (simp only [List.length_cons, List.length_nil, List.length_append, List.length_map]; omega) | decide) only [↓WA, WB, if_true, if_false, peek, hasTys, hasTy, wipeA, tgSlots, tgsSlots, cmpSlots, List.replicate, Nat.reduceAdd, Nat.reduceSub, Nat.reduceLT, Nat.reduceLeDiff])
    rfl
theorem c_flat [Code T] {D : Nat} (k : Nat) {v : AV} {cs : List (Int × Int)} {bs : List AV} (N : Net v cs bs) (h : AH) (hv : gd 0 D v = true) : callN T (k + 13) (Str.ofString "flat") [v] h = .ok (flatV bs) h := by
  rw [callN_step Code.flat]
  refine Ok_eq (w_run rfl ?_)
  have q1 : callN T (k + 12) (Str.ofString "need_net") [v] h = _ := c_need_net (T := T) (by omega) k N h hv
  have q2 := c_flat_of (T := T) k N h
  (try simp (disch := first | omega | assumption | (simp only [List.length_cons, List.length_nil, List.length_append, List.length_map]; omega) | decide) only [↓WA, WB, if_true, if_false, peek, hasTys, hasTy, wipeA, tgSlots, tgsSlots, cmpSlots, List.replicate, Nat.reduceAdd, Nat.reduceSub, Nat.reduceLT, Nat.reduceLeDiff, f_flat, q1, q2])
end
section
variable {cn : Option (List (Int × Int))} {a : Int}
/-- the deed of a row; of a test -/
inductive RD (cn : Option (List (Int × Int))) (a : Int) (D : Nat) : AV → Bool → Prop
  | test (x : AV) (hx : nmB x = true) (g : gd 0 D x = true) : RD cn a D (.tup [.str "test", x]) true
  | mark (w : Str) (ps : List AV) (hm : markB w = true) (hd : dedB cn a (.tup (.str w :: ps)) = true) (hl : ps.length ≤ 4) (g : gd 0 D (.tup (.str w :: ps)) = true) : RD cn a D (.tup (.str w :: ps ++ [.str "copy"])) false
  | plain (w : Str) (ps : List AV) (hm : markB w = false) (h1 : ¬ (w == "if") = true) (h2 : ¬ (w == "while") = true) (hd : dedB cn a (.tup (.str w :: ps)) = true) (hl : ps.length ≤ 4) (g : gd 0 D (.tup (.str w :: ps)) = true) : RD cn a D (.tup (.str w :: ps)) false
def Nx (num : Int) (N : Nat) (behind i : Int) : Prop := i = behind ∨ (num ≤ i ∧ i < num + N)
structure RowP (cn : Option (List (Int × Int))) (a : Int) (D : Nat) (num : Int) (N : Nat) (behind : Int) (r : AV) : Prop where
  ex : ∃ (dd : AV) (t : Bool) (is : List Int), r = .tup [dd, .tup (is.map AV.int)] ∧ RD cn a D dd t ∧ is.length = 1 + (if t = true then 1 else 0) ∧ ∀ i ∈ is, Nx num N behind i
theorem RowP.up {D : Nat} {num : Int} {N : Nat} {behind : Int} {num' : Int} {N' : Nat} {behind' : Int} {r : AV} (h : RowP cn a D num N behind r) (hi : ∀ i, Nx num N behind i → Nx num' N' behind' i) : RowP cn a D num' N' behind' r := by
  obtain ⟨dd, t, is, e, h1, h2, h3⟩ := h.ex
  exact ⟨⟨dd, t, is, e, h1, h2, fun i q => hi i (h3 i q)⟩⟩
theorem many_pos {d : Nat} {b : AV} {bs : List AV} : 1 ≤ manyN (d + 1) (.tup (b :: bs)) := by
  rw [many_len]; simp only [List.map_cons, List.sum_cons, one1]; omega
theorem nextI_ok {d : Nat} {p : List AV} (h : blkB cn a d (.tup p) = true) (x y : Int) : nextI p x y = y ∨ (nextI p x y = x ∧ 1 ≤ manyN d (.tup p)) := by
  cases d with
  | zero => simp [blkB] at h
  | succ d =>
    cases p with
    | nil => exact Or.inl rfl
    | cons b bs => exact Or.inr ⟨rfl, many_pos⟩
theorem rowP_one {d D : Nat} {b : AV} {num behind : Int} (hb : Shp cn a d b) (g : gd 0 (D + 1) b = true)
    (IH : ∀ (bs : List AV) (num behind : Int), blkB cn a d (.tup bs) = true → gd 0 D (.tup bs) = true → ∀ r ∈ rowsD dedOf d bs num behind, RowP cn a 20 num (manyN d (.tup bs)) behind r) (hD : D < 20) :
    ∀ r ∈ oneR dedOf (rowsD dedOf d) (manyN d) b num behind, RowP cn a 20 num (one1 d b) behind r := by
  cases hb with
  | ife z p q hz hp hq =>
    have e : oneR dedOf (rowsD dedOf d) (manyN d) (.tup [.str "if", z, .tup p, .tup q]) num behind = .tup [.tup [.str "test", z], .tup [.int (nextI p (num + 1) behind), .int (nextI q (num + 1 + manyN d (.tup p)) behind)]] :: (rowsD dedOf d p (num + 1) behind ++ rowsD dedOf d q (num + 1 + manyN d (.tup p)) behind) := rfl
    have e2 : one1 d (.tup [.str "if", z, .tup p, .tup q]) = 1 + (manyN d (.tup p) + manyN d (.tup q)) := by
      have e2 : blksOf (.tup [.str "if", z, .tup p, .tup q]) = [.tup p, .tup q] := rfl
      simp [one1, e2]
    obtain ⟨D', eD, _, hx⟩ := gd_tup g
    cases eD
    rw [e, e2]
    have np := nextI_ok hp (num + 1) behind
    have nq := nextI_ok hq (num + 1 + manyN d (.tup p)) behind
    intro r hr
    rw [List.mem_cons, List.mem_append] at hr
    rcases hr with rfl | hr | hr
    · refine ⟨⟨_, true, [nextI p (num + 1) behind, nextI q (num + 1 + manyN d (.tup p)) behind], rfl, .test z hz (gd_mono (Nat.le_refl _) (by omega) (hx z (by simp))), rfl, ?_⟩⟩
      intro i hi
      simp only [List.mem_cons, List.not_mem_nil, or_false] at hi
      unfold Nx
      rcases hi with rfl | rfl <;> omega
    · refine (IH p _ _ hp (hx _ (by simp)) r hr).up fun i hi => ?_
      unfold Nx at hi ⊢; omega
    · refine (IH q _ _ hq (hx _ (by simp)) r hr).up fun i hi => ?_
      unfold Nx at hi ⊢; omega
  | whi z p hz hp =>
    have e : oneR dedOf (rowsD dedOf d) (manyN d) (.tup [.str "while", z, .tup p]) num behind = .tup [.tup [.str "test", z], .tup [.int (nextI p (num + 1) num), .int behind]] :: rowsD dedOf d p (num + 1) num := rfl
    have e2 : one1 d (.tup [.str "while", z, .tup p]) = 1 + manyN d (.tup p) := by
      have e2 : blksOf (.tup [.str "while", z, .tup p]) = [.tup p] := rfl
      simp [one1, e2]
    obtain ⟨D', eD, _, hx⟩ := gd_tup g
    cases eD
    rw [e, e2]
    have np := nextI_ok hp (num + 1) num
    intro r hr
    rw [List.mem_cons] at hr
    rcases hr with rfl | hr
    · refine ⟨⟨_, true, [nextI p (num + 1) num, behind], rfl, .test z hz (gd_mono (Nat.le_refl _) (by omega) (hx z (by simp))), rfl, ?_⟩⟩
      intro i hi
      simp only [List.mem_cons, List.not_mem_nil, or_false] at hi
      unfold Nx
      rcases hi with rfl | rfl <;> omega
    · refine (IH p _ _ hp (hx _ (by simp)) r hr).up fun i hi => ?_
      unfold Nx at hi ⊢; omega
  | ded w ps h1 h2 hd hl =>
    rw [oneR_ded h1 h2]
    intro r hr
    rw [List.mem_singleton] at hr
    subst hr
    have gg := gd_mono (Nat.le_refl 0) (show D + 1 ≤ 20 by omega) g
    refine ⟨⟨_, false, [behind], rfl, ?_, rfl, fun i hi => ?_⟩⟩
    · simp only [dedOf]
      by_cases hm : markB w = true
      · rw [if_pos hm]; exact .mark w ps hm hd hl gg
      · rw [if_neg hm]; exact .plain w ps (by simpa using hm) h1 h2 hd hl gg
    · rw [List.mem_singleton] at hi; exact Or.inl hi
theorem rowsG_mem {one : AV → Int → Int → List AV} {N1 : AV → Nat} {num behind : Int} {bs : List AV} {r : AV} (hl : ∀ b ∈ bs, ∀ x y, (one b x y).length = N1 b) (hN : ∀ b ∈ bs, 1 ≤ N1 b) : ∀ i, i ≤ bs.length → r ∈ rowsG one N1 num behind bs i →
    ∃ b ∈ bs, ∃ x y, r ∈ one b x y ∧ num ≤ x ∧ x + N1 b ≤ num + ((bs.map N1).sum : Nat) ∧ (y = behind ∨ (num ≤ y ∧ y < num + ((bs.map N1).sum : Nat)))
  | 0, _, hr => by simp [rowsG] at hr
  | i + 1, hi, hr => by
    have hi' : i < bs.length := by omega
    simp only [rowsG, List.getElem?_eq_getElem hi', List.mem_append] at hr
    rcases hr with hr | hr
    · exact rowsG_mem hl hN i (by omega) hr
    · rw [rowsG_len hl i (by omega)] at hr
      refine ⟨bs[i], List.getElem_mem hi', _, _, hr, by omega, ?_, ?_⟩
      · have : ((bs.take (i + 1)).map N1).sum ≤ (bs.map N1).sum := sum_take N1 bs (i + 1)
        rw [List.take_succ_eq_append_getElem hi', List.map_append, List.sum_append] at this
        simp only [List.map_cons, List.map_nil, List.sum_cons, List.sum_nil] at this; omega
      · split
        · rename_i h2
          have : ((bs.take (i + 1 + 1)).map N1).sum ≤ (bs.map N1).sum := sum_take N1 bs (i + 1 + 1)
          rw [List.take_succ_eq_append_getElem h2, List.take_succ_eq_append_getElem hi', List.map_append, List.sum_append, List.map_append, List.sum_append] at this
          have h3 := hN _ (List.getElem_mem h2)
          simp only [List.map_cons, List.map_nil, List.sum_cons, List.sum_nil] at this
          exact Or.inr ⟨by omega, by omega⟩
        · exact Or.inl rfl
theorem rowP_all : ∀ (d D : Nat) (bs : List AV) (num behind : Int), D ≤ 20 → blkB cn a d (.tup bs) = true → gd 0 D (.tup bs) = true → ∀ r ∈ rowsD dedOf d bs num behind, RowP cn a 20 num (manyN d (.tup bs)) behind r
  | 0, D, bs, num, behind, hD, h, g => by simp [blkB] at h
  | d + 1, D, bs, num, behind, hD, h, g => by
    obtain ⟨h1, h2⟩ := blk_shp h
    obtain ⟨D', rfl, _, hx⟩ := gd_tup g
    intro r hr
    simp only [rowsD] at hr
    obtain ⟨b, hb, x, y, hr2, q1, q2, q3⟩ := rowsG_mem (oneR_len (m := dedOf) h2) (fun b hb => by simp only [one1]; omega) _ (Nat.le_refl _) hr
    have gb := hx b hb
    obtain ⟨D2, rfl⟩ : ∃ D2, D' = D2 + 1 := by
      cases h2 b hb <;> (obtain ⟨D2, e, _⟩ := gd_tup gb; exact ⟨D2, e⟩)
    refine (rowP_one (h2 b hb) gb (fun bs num behind h g => rowP_all d D2 bs num behind (by omega) h g) (by omega) r hr2).up fun i hi => ?_
    rw [many_len]
    unfold Nx at hi ⊢; omega
end
section
variable {T : Tab} {cn : Option (List (Int × Int))} {a : Int}
theorem atI_end {xs : List AV} {c : AV} : L2.atI (xs ++ [c]) (-1) = some c := by
  unfold L2.atI
  have e : L2.ixN (xs ++ [c]).length (-1) = some xs.length := by
    simp only [L2.ixN, List.length_append, List.length_singleton]
    rw [if_neg (by omega), if_pos (by omega)]
    congr 1; omega
  rw [e]; simp
theorem ded_test {ps : List AV} : dedB cn a (.tup (.str "test" :: ps)) = false := rfl
theorem c_row_deed [Code T] (k : Nat) (h : AH) {dd : AV} {t : Bool} (hcn : ∀ cs, cn = some cs → cs.length ≤ 900) (r : RD cn a 20 dd t) : callN T (k + 6) (Str.ofString "is_row_deed") [cnO cn, .int a, dd] h = .ok (.bl true) h := by
  rw [callN_step Code.is_row_deed]
  refine Ok_eq (w_run rfl ?_)
  cases r with
  | test x hx g =>
    have q1 : callN T (k + 5) (Str.ofString "is_number_name") [x] h = .ok (.bl true) h := by
      rw [c_num_name (T := T) (k + 4) x h (gd_kn (by omega) g), hx]
    have ew : ((Str.ofString "test") == (Str.ofString "test")) = true := by decide +kernel
    (try simp (disch := first | omega | assumption | (simp only [List.length_cons, List.length_nil, List.length_append, List.length_map]; omega) | decide) only [↓WA, WB, if_true, if_false, peek, hasTys, hasTy, wipeA, tgSlots, tgsSlots, cmpSlots, List.replicate, Nat.reduceAdd, Nat.reduceSub, Nat.reduceLT, Nat.reduceLeDiff, f_is_row_deed, ew, d22, q1, List.isEmpty_cons])
  | mark w ps hm hd hl g =>
    have q1 : callN T (k + 5) (Str.ofString "is_deed") [cnO cn, .int a, .tup (.str w :: ps)] h = .ok (.bl true) h := by
      rw [c_deed (T := T) (by omega) k cn a _ h g hcn, hd]
    have ew : (w == Str.ofString "test") = false := by
      rw [Bool.eq_false_iff]; intro c; rw [eq_of_beq c, ded_test] at hd; cases hd
    have e2 : opC .mem (.str w) (.tup [(.str "let"), (.str "hang"), (.str "pick"), (.str "send")]) h = some true := by
      rw [← hm]; simp only [opC, items, Option.bind_some, pyIn, eqD_str, Option.map_some, markB]
    have e3 : L2.atI (AV.str w :: (ps ++ [.str "copy"])) (-1) = some (.str "copy") := atI_end (xs := .str w :: ps)
    have e4 : cutL (AV.str w :: (ps ++ [.str "copy"])) none (some (-1)) = .str w :: ps := by rw [cut_last]; simp
    have e5 : opC .mem (.str "copy") (.tup [(.str "copy"), (.str "give")]) h = some true := rfl
    (try simp (disch := first | omega | assumption | (simp only [List.length_cons, List.length_nil, List.length_append, List.length_map]; omega) | decide) only [↓WA, WB, if_true, if_false, peek, hasTys, hasTy, wipeA, tgSlots, tgsSlots, cmpSlots, List.replicate, Nat.reduceAdd, Nat.reduceSub, Nat.reduceLT, Nat.reduceLeDiff, f_is_row_deed, ew, e2, e3, e4, e5, q1, List.isEmpty_cons])
  | plain w ps hm h1 h2 hd hl g =>
    have q1 : callN T (k + 5) (Str.ofString "is_deed") [cnO cn, .int a, .tup (.str w :: ps)] h = .ok (.bl true) h := by
      rw [c_deed (T := T) (by omega) k cn a _ h g hcn, hd]
    have ew : (w == Str.ofString "test") = false := by
      rw [Bool.eq_false_iff]; intro c; rw [eq_of_beq c, ded_test] at hd; cases hd
    have e2 : opC .mem (.str w) (.tup [(.str "let"), (.str "hang"), (.str "pick"), (.str "send")]) h = some false := by
      rw [← hm]; simp only [opC, items, Option.bind_some, pyIn, eqD_str, Option.map_some, markB]
    have e1 : opC .nmem (.str w) (.tup [(.str "if"), (.str "while")]) h = some true := by
      have q1 : (("if" : Str) == w) = false := by rw [Bool.eq_false_iff]; intro c; exact h1 (by rw [eq_of_beq c]; simp)
      have q2 : (("while" : Str) == w) = false := by rw [Bool.eq_false_iff]; intro c; exact h2 (by rw [eq_of_beq c]; simp)
      simp only [opC, items, Option.bind_some, pyIn, eqD_str, Option.map_some, q1, q2]; rfl
    (try simp (disch := first | omega | assumption | (simp only [List.length_cons, List.length_nil, List.length_append, List.length_map]; omega) | decide) only [↓WA, WB, if_true, if_false, peek, hasTys, hasTy, wipeA, tgSlots, tgsSlots, cmpSlots, List.replicate, Nat.reduceAdd, Nat.reduceSub, Nat.reduceLT, Nat.reduceLeDiff, f_is_row_deed, ew, e2, e1, q1, List.isEmpty_cons])
theorem c_row [Code T] (k : Nat) (h : AH) {m : Nat} {r : AV} (hcn : ∀ cs, cn = some cs → cs.length ≤ 900) (p : RowP cn a 20 0 m (-1) r) : callN T (k + 7) (Str.ofString "is_row") [cnO cn, .int a, .int m, r] h = .ok (.bl true) h := by
  obtain ⟨dd, t, is, rfl, hd, hl, hi⟩ := p.ex
  rw [callN_step Code.is_row]
  refine Ok_eq (w_run rfl ?_)
  have q1 := c_row_deed (T := T) k h hcn hd
  have ew : ((Str.ofString "test") == (Str.ofString "test")) = true := by decide +kernel
  have el : ∃ w ps, dd = .tup (.str w :: ps) ∧ (w == Str.ofString "test") = t := by
    cases hd with
    | test x hx g => exact ⟨_, _, rfl, ew⟩
    | mark w ps hm hd hl g => exact ⟨w, _, rfl, by rw [Bool.eq_false_iff]; intro c; rw [eq_of_beq c, ded_test] at hd; cases hd⟩
    | plain w ps hm h1 h2 hd hl g => exact ⟨w, _, rfl, by rw [Bool.eq_false_iff]; intro c; rw [eq_of_beq c, ded_test] at hd; cases hd⟩
  obtain ⟨w, ps, rfl, et⟩ := el
  have hl2 : is.length ≤ 2 := by rw [hl]; cases t <;> decide
  have hlI : decide ((is.length : Int) = 1 + (if t = true then 1 else 0)) = true := decide_eq_true (by rw [hl]; cases t <;> rfl)
  (try simp (disch := first | omega | assumption | (simp only [List.length_cons, List.length_nil, List.length_append, List.length_map]; omega) | decide) only [↓WA, WB, if_true, if_false, peek, hasTys, hasTy, wipeA, tgSlots, tgsSlots, cmpSlots, List.replicate, Nat.reduceAdd, Nat.reduceSub, Nat.reduceLT, Nat.reduceLeDiff, f_is_row, q1, d22, et, hlI])
  refine w_map (fun x => .bl (within (-1) ((m : Int) - 1) x)) (fun x hx => ⟨_, asg_nm (by simp), ?_⟩) ?_
  · obtain ⟨i, _, rfl⟩ := List.mem_map.mp hx
    have q2 : callN T (k + 6) (Str.ofString "is_within") [.int i, .int (-1), .int ((m : Int) - 1)] h = _ := c_is_within (T := T) (k + 4) (.int i) (-1) ((m : Int) - 1) h rfl
    (try simp (disch := first | omega | assumption | (simp only [List.length_cons, List.length_nil, List.length_append, List.length_map]; omega) | decide) only [↓WA, WB, if_true, if_false, peek, hasTys, hasTy, wipeA, tgSlots, tgsSlots, cmpSlots, List.replicate, Nat.reduceAdd, Nat.reduceSub, Nat.reduceLT, Nat.reduceLeDiff, w_bodyC, q2])
  · have ha : ((is.map AV.int).all fun x => within (-1) ((m : Int) - 1) x) = true := by
      rw [List.all_eq_true]
      intro x hx
      obtain ⟨i, q, rfl⟩ := List.mem_map.mp hx
      have := hi i q
      unfold Nx at this
      simp only [within, decide_eq_true_eq]; omega
    (try simp (disch := first | omega | assumption | (simp only [List.length_cons, List.length_nil, List.length_append, List.length_map]; omega) | decide) only [↓WA, WB, if_true, if_false, peek, hasTys, hasTy, wipeA, tgSlots, tgsSlots, cmpSlots, List.replicate, Nat.reduceAdd, Nat.reduceSub, Nat.reduceLT, Nat.reduceLeDiff])
    rw [List.all_map]
    exact congrArg AV.bl ha
theorem c_rows_ok [Code T] (k : Nat) (h : AH) {D : Nat} {bs : List AV} (hcn : ∀ cs, cn = some cs → cs.length ≤ 900) (hD : D ≤ 20) (hb : blkB cn a 4 (.tup bs) = true) (hm : manyN 4 (.tup bs) ≤ 40) (g : gd 0 D (.tup bs) = true) :
    callN T (k + 8) (Str.ofString "are_rows") [cnO cn, .int a, rowsV dedOf (.tup bs)] h = .ok (.bl true) h := by
  rw [callN_step Code.are_rows]
  refine Ok_eq (w_run rfl ?_)
  have hp := rowP_all 4 D bs 0 (-1) hD hb g
  have hl := rows_len (m := dedOf) (num := 0) (behind := -1) hb
  rw [← hl] at hp hm
  simp only [rowsV, tupL]
  generalize rowsD dedOf 4 bs 0 (-1) = rows at hp hm
  have hd : decide ((40 : Int) < rows.length) = false := decide_eq_false (by omega)
  (try simp (disch := first | omega | assumption | (simp only [List.length_cons, List.length_nil, List.length_append, List.length_map]; omega) | decide) only [↓WA, WB, if_true, if_false, peek, hasTys, hasTy, wipeA, tgSlots, tgsSlots, cmpSlots, List.replicate, Nat.reduceAdd, Nat.reduceSub, Nat.reduceLT, Nat.reduceLeDiff, f_are_rows, hd])
  refine w_map (fun x => .bl true) (fun x hx => ⟨_, asg_nm (by simp), ?_⟩) ?_
  · have q1 := c_row (T := T) k h hcn (hp x hx)
    (try simp (disch := first | omega | assumption | (simp only [List.length_cons, List.length_nil, List.length_append, List.length_map]; omega) | decide) only [↓WA, WB, if_true, if_false, peek, hasTys, hasTy, wipeA, tgSlots, tgsSlots, cmpSlots, List.replicate, Nat.reduceAdd, Nat.reduceSub, Nat.reduceLT, Nat.reduceLeDiff, w_bodyC, q1])
  · (try simp (disch := first | omega | assumption | (simp only [List.length_cons, List.length_nil, List.length_append, List.length_map]; omega) | decide) only [↓WA, WB, if_true, if_false, peek, hasTys, hasTy, wipeA, tgSlots, tgsSlots, cmpSlots, List.replicate, Nat.reduceAdd, Nat.reduceSub, Nat.reduceLT, Nat.reduceLeDiff])
    simp
theorem c_code_of [Code T] {D : Nat} (k : Nat) {v : AV} {cs : List (Int × Int)} {bs : List AV} (N : Net v cs bs) (h : AH) (hv : gd 0 D v = true) (hD : D ≤ 20) : callN T (k + 9) (Str.ofString "is_code_of") [v, flatV bs] h = .ok (.bl true) h := by
  obtain ⟨rfl, hc, l1, l4, hb⟩ := N
  rw [callN_step Code.is_code_of]
  refine Ok_eq (w_run rfl ?_)
  obtain ⟨D1, rfl, _, hv1⟩ := gd_tup hv
  have hv2 := hv1 (.tup bs) (by simp)
  obtain ⟨D2, rfl, _, hv3⟩ := gd_tup hv2
  have le4 : (enumA 0 (bs.map (rowsV dedOf))).length ≤ 4 := by rw [enA_len]; simpa using l4
  (try simp (disch := first | omega | assumption | (simp only [List.length_cons, List.length_nil, List.length_append, List.length_map]; omega) | decide) only [↓WA, WB, if_true, if_false, peek, hasTys, hasTy, wipeA, tgSlots, tgsSlots, cmpSlots, List.replicate, Nat.reduceAdd, Nat.reduceSub, Nat.reduceLT, Nat.reduceLeDiff, f_is_code_of, flatV])
  refine w_map (fun x => .bl true) (fun x hx => ?_) ?_
  · obtain ⟨i, hi, rfl⟩ := List.getElem_of_mem hx
    rw [enA_at hi, Nat.zero_add, List.getElem_map]
    have hi' : i < bs.length := by rw [enA_len] at hi; simpa using hi
    obtain ⟨b1, b2⟩ := hb i hi'
    obtain ⟨p, ep⟩ := blk_tup b1
    have g3 := hv3 bs[i] (List.getElem_mem hi')
    rw [ep] at b1 b2 g3 ⊢
    have q1 : callN T (k + 8) (Str.ofString "are_rows") [cnV cs, .int i, rowsV dedOf (.tup p)] h = _ := c_rows_ok (T := T) (cn := some cs) k h (fun cs' e => by cases e; have := hc.1; omega) (by omega) b1 b2 g3
    refine ⟨_, rfl, ?_⟩
    (try simp (disch := first | omega | assumption | (simp only [List.length_cons, List.length_nil, List.length_append, List.length_map]; omega) | decide) only [↓WA, WB, if_true, if_false, peek, hasTys, hasTy, wipeA, tgSlots, tgsSlots, cmpSlots, List.replicate, Nat.reduceAdd, Nat.reduceSub, Nat.reduceLT, Nat.reduceLeDiff, w_bodyC, q1])
  · (try simp (disch := first | omega | assumption | (simp only [List.length_cons, List.length_nil, List.length_append, List.length_map]; omega) | decide) only [↓WA, WB, if_true, if_false, peek, hasTys, hasTy, wipeA, tgSlots, tgsSlots, cmpSlots, List.replicate, Nat.reduceAdd, Nat.reduceSub, Nat.reduceLT, Nat.reduceLeDiff])
    simp
theorem c_code [Code T] {D : Nat} (k : Nat) {v : AV} {cs : List (Int × Int)} {bs : List AV} (N : Net v cs bs) (h : AH) (hv : gd 0 D v = true) (hD : D ≤ 20) : callN T (k + 13) (Str.ofString "is_code") [v, flatV bs] h = .ok (.bl true) h := by
  rw [callN_step Code.is_code]
  refine Ok_eq (w_run rfl ?_)
  have q1 : callN T (k + 12) (Str.ofString "need_net") [v] h = _ := c_need_net (T := T) (by omega) k N h hv
  have q2 : callN T (k + 12) (Str.ofString "is_code_of") [v, flatV bs] h = _ := c_code_of (T := T) (k + 3) N h hv hD
  (try simp (disch := first | omega | assumption | (simp only [List.length_cons, List.length_nil, List.length_append, List.length_map]; omega) | decide) only [↓WA, WB, if_true, if_false, peek, hasTys, hasTy, wipeA, tgSlots, tgsSlots, cmpSlots, List.replicate, Nat.reduceAdd, Nat.reduceSub, Nat.reduceLT, Nat.reduceLeDiff, f_is_code, q1, q2])
/-- rows whose deeds are marked with copy, or not at all, come out as they are -/
theorem c_unmarked [Code T] (k : Nat) (h : AH) {rows : List AV} {num : Int} {N : Nat} {behind : Int} (hl : rows.length ≤ 40) (hp : ∀ r ∈ rows, RowP cn a 20 num N behind r) : callN T (k + 1) (Str.ofString "unmarked") [.tup rows] h = .ok (.tup rows) h := by
  rw [callN_step Code.unmarked]
  refine Ok_eq (w_run rfl ?_)
  (try simp (disch := first | omega | assumption | (simp only [List.length_cons, List.length_nil, List.length_append, List.length_map]; omega) | decide) only [↓WA, WB, if_true, if_false, peek, hasTys, hasTy, wipeA, tgSlots, tgsSlots, cmpSlots, List.replicate, Nat.reduceAdd, Nat.reduceSub, Nat.reduceLT, Nat.reduceLeDiff, f_unmarked])
  refine w_map (fun x => x) (fun x hx => ?_) ?_
  · obtain ⟨dd, t, is, rfl, hd, _, _⟩ := (hp x hx).ex
    refine ⟨_, rfl, ?_⟩
    cases hd with
    | test x hx g =>
      have e2 : opC .mem (.str "test") (.tup [(.str "let"), (.str "hang"), (.str "pick"), (.str "send")]) h = some false := rfl
      (try simp (disch := first | omega | assumption | (simp only [List.length_cons, List.length_nil, List.length_append, List.length_map]; omega) | decide) only [↓WA, WB, if_true, if_false, peek, hasTys, hasTy, wipeA, tgSlots, tgsSlots, cmpSlots, List.replicate, Nat.reduceAdd, Nat.reduceSub, Nat.reduceLT, Nat.reduceLeDiff, w_bodyC, e2])
    | mark w ps hm hd hl g =>
      have e2 : opC .mem (.str w) (.tup [(.str "let"), (.str "hang"), (.str "pick"), (.str "send")]) h = some true := by
        rw [← hm]; simp only [opC, items, Option.bind_some, pyIn, eqD_str, Option.map_some, markB]
      have e4 : cutL (AV.str w :: (ps ++ [.str "copy"])) none (some (-1)) = .str w :: ps := by rw [cut_last]; simp
      (try simp (disch := first | omega | assumption | (simp only [List.length_cons, List.length_nil, List.length_append, List.length_map]; omega) | decide) only [↓WA, WB, if_true, if_false, peek, hasTys, hasTy, wipeA, tgSlots, tgsSlots, cmpSlots, List.replicate, Nat.reduceAdd, Nat.reduceSub, Nat.reduceLT, Nat.reduceLeDiff, w_bodyC, e2, e4])
    | plain w ps hm h1 h2 hd hl g =>
      have e2 : opC .mem (.str w) (.tup [(.str "let"), (.str "hang"), (.str "pick"), (.str "send")]) h = some false := by
        rw [← hm]; simp only [opC, items, Option.bind_some, pyIn, eqD_str, Option.map_some, markB]
      (try simp (disch := first | omega | assumption | (simp only [List.length_cons, List.length_nil, List.length_append, List.length_map]; omega) | decide) only [↓WA, WB, if_true, if_false, peek, hasTys, hasTy, wipeA, tgSlots, tgsSlots, cmpSlots, List.replicate, Nat.reduceAdd, Nat.reduceSub, Nat.reduceLT, Nat.reduceLeDiff, w_bodyC, e2])
  · (try simp (disch := first | omega | assumption | (simp only [List.length_cons, List.length_nil, List.length_append, List.length_map]; omega) | decide) only [↓WA, WB, if_true, if_false, peek, hasTys, hasTy, wipeA, tgSlots, tgsSlots, cmpSlots, List.replicate, Nat.reduceAdd, Nat.reduceSub, Nat.reduceLT, Nat.reduceLeDiff])
    simp
end
/-- what is told and compared with itself -/
structure Dat (D : Nat) (v : AV) : Prop where
  eq : pyEq v v = some true
  dep : dep v ≤ D
  rp : ∃ p, toPy v = some p ∧ p.showable = true ∧ p.depth ≤ D + 1 ∧ p.shown.length ≤ wt v
theorem Dat.eqD {D : Nat} {v : AV} (h : Dat D v) (hD : D ≤ 60) : eqD v v = some true := by
  unfold G.eqD
  rw [if_pos (by have := h.dep; omega)]
  exact h.eq
theorem Dat.repr {D : Nat} {v : AV} (h : Dat D v) (hD : D ≤ 50) (hw : wt v ≤ 1000000) : ∃ t, opRepr v = some t := by
  obtain ⟨p, e1, e2, e3, e4⟩ := h.rp
  refine ⟨p.shown, ?_⟩
  unfold opRepr
  rw [e1]
  show (if _ then _ else _) = _
  rw [if_pos ⟨e2, by omega, Nat.le_trans e4 (Nat.le_trans hw (by decide))⟩]
theorem deps_le {D : Nat} : ∀ {xs : List AV}, (∀ x ∈ xs, dep x ≤ D) → deps xs ≤ D
  | [], _ => by simp [deps]
  | x :: xs, h => by
    have := h x (by simp)
    have := deps_le fun y hy => h y (List.mem_cons_of_mem _ hy)
    simp only [deps]; omega
theorem dat_tup {D : Nat} {xs : List AV} (h : ∀ x ∈ xs, Dat D x) : Dat (D + 1) (.tup xs) := by
  refine ⟨pyEqs_self fun x hx => (h x hx).eq, ?_, ?_⟩
  · have := deps_le fun x hx => (h x hx).dep
    simp only [G.dep]; omega
  · obtain ⟨ps, q1, q2, q3, q4⟩ := all_repr (D := D + 1) (fun x (hx : Dat D x) => hx.rp) h
    refine ⟨.tuple ps, by simp [toPy, q1], by simpa [PyData.showable] using q2, by simp only [PyData.depth]; omega, ?_⟩
    have := tupleText_len_le (PyData.shownAll ps)
    show (tupleText (PyData.shownAll ps)).length ≤ wts xs + 3
    omega
def isSc : AV → Bool
  | .int _ => true
  | .str _ => true
  | _ => false
theorem dat_sc {x : AV} {d : Nat} (h : isSc x = true) (g : gd 0 d x = true) : Dat d x := by
  refine ⟨?_, dep_gd g, gd_repr (by omega) g⟩
  cases x <;> first | (simp [pyEq]; done) | (simp [isSc] at h)
theorem Dat.up {D D' : Nat} {v : AV} (h : Dat D v) (l : D ≤ D') : Dat D' v := by
  obtain ⟨e, d, p, q1, q2, q3, q4⟩ := h
  exact ⟨e, by omega, p, q1, q2, by omega, q4⟩
section
variable {T : Tab} {cn : Option (List (Int × Int))} {a : Int}
theorem part_sc {f : Str} {x : AV} (h : partB cn a f x = true) : isSc x = true := by
  cases x <;> first | rfl | skip
  all_goals
    exfalso
    simp only [partB] at h
    split at h
    · simp [nmB] at h
    · split at h
      · simp [gnB] at h
      · split at h
        · simp [numB, within] at h
        · split at h
          · simp [opsB] at h
          · split at h
            · simp [within] at h
            · split at h <;> (cases cn <;> simp [endB, within] at h)
theorem zip_sc : ∀ {fs ps : List AV}, fs.length = ps.length → (∀ c ∈ fs, ∃ z : Str, c = .str z ∧ (z == ("b" : Str)) = false) → ((zipA fs ps).filter notB).all (pairB cn a) = true → ∀ x ∈ ps, isSc x = true
  | [], [], _, _, _, x, hx => by cases hx
  | c :: fs, p :: ps, hl, hc, h, x, hx => by
    obtain ⟨z, rfl, hz⟩ := hc c (by simp)
    have e : notB (.tup [.str z, p]) = true := by simp only [notB, hz]; rfl
    simp only [zipA, List.filter_cons, e, if_true, List.all_cons, Bool.and_eq_true] at h
    rcases List.mem_cons.mp hx with rfl | hx
    · exact part_sc h.1
    · exact zip_sc (by simpa using hl) (fun c q => hc c (List.mem_cons_of_mem _ q)) h.2 x hx
def formsOk : Bool := kd_FORMS.all fun p => (p.1 == "if") || (p.1 == "while") || (match p.2 with
  | .str f => (strA f).all fun c => (match c with
    | .str z => !(z == ("b" : Str))
    | _ => false)
  | _ => false)
theorem ded_sc {w : Str} {ps : List AV} (h1 : ¬ (w == "if") = true) (h2 : ¬ (w == "while") = true) (h : dedB cn a (.tup (.str w :: ps)) = true) : ∀ x ∈ ps, isSc x = true := by
  have ok : formsOk = true := by decide +kernel
  simp only [dedB] at h
  split at h
  · rename_i f hf
    simp only [Bool.and_eq_true, decide_eq_true_eq] at h
    have q := List.all_eq_true.mp ok _ (lookup_mem hf)
    simp only [Bool.eq_false_iff.mpr h1, Bool.eq_false_iff.mpr h2, Bool.false_or, List.all_eq_true] at q
    refine zip_sc (by rw [strA_ln]; exact h.1.symm) (fun c hc => ?_) h.2.1
    obtain ⟨z, rfl⟩ := strA_str hc
    exact ⟨z, rfl, by simpa using q _ hc⟩
  · cases h
theorem mark_ne {w : Str} (h : markB w = true) : ¬ (w == "if") = true ∧ ¬ (w == "while") = true := by
  constructor <;> (intro c; rw [eq_of_beq c] at h; revert h; decide +kernel)
theorem nm_sc {x : AV} (h : nmB x = true) : isSc x = true := by cases x <;> first | rfl | (simp [nmB] at h)
theorem rd_dat {dd : AV} {t : Bool} (h : RD cn a 20 dd t) : Dat 21 dd ∧ wt dd ≤ 1300 := by
  have key : ∀ (w : Str) (ps : List AV), gd 0 20 (.tup (.str w :: ps)) = true → (∀ x ∈ ps, isSc x = true) → ∀ x ∈ (AV.str w :: ps), Dat 20 x := fun w ps g hs x hx => by
    obtain ⟨D, e, _, hx2⟩ := gd_tup g
    cases e
    rcases List.mem_cons.mp hx with rfl | q
    · exact (dat_sc rfl (hx2 _ hx)).up (by omega)
    · exact (dat_sc (hs x q) (hx2 _ hx)).up (by omega)
  have scw : ∀ xs : List AV, (∀ x ∈ xs, isSc x = true) → wts xs ≤ 202 * xs.length := fun xs => by
    induction xs with
    | nil => intro _; simp [wts]
    | cons x xs ih =>
      intro h
      have := ih fun y q => h y (List.mem_cons_of_mem _ q)
      have hx := h x (by simp)
      have : wt x ≤ 200 := by cases x <;> first | (simp [wt]; done) | (simp [isSc] at hx)
      simp only [wts, List.length_cons]; omega
  cases h with
  | test x hx g =>
    refine ⟨dat_tup fun y hy => ?_, ?_⟩
    · simp only [List.mem_cons, List.not_mem_nil, or_false] at hy
      rcases hy with rfl | rfl
      · exact (dat_sc (d := 0) rfl rfl).up (by omega)
      · exact dat_sc (nm_sc hx) g
    · have := scw [.str "test", x] (fun y hy => by
        simp only [List.mem_cons, List.not_mem_nil, or_false] at hy
        rcases hy with rfl | rfl
        · rfl
        · exact nm_sc hx)
      simp only [wt, List.length_cons, List.length_nil] at this ⊢; omega
  | mark w ps hm hd hl g =>
    have hs := ded_sc (mark_ne hm).1 (mark_ne hm).2 hd
    refine ⟨dat_tup fun y hy => ?_, ?_⟩
    · rw [List.mem_append, List.mem_singleton] at hy
      rcases hy with hy | rfl
      · exact key w ps g hs y hy
      · exact (dat_sc (d := 0) rfl rfl).up (by omega)
    · have := scw (.str w :: ps ++ [.str "copy"]) (fun y hy => by
        rw [List.mem_append, List.mem_singleton, List.mem_cons] at hy
        rcases hy with (rfl | hy) | rfl
        · rfl
        · exact hs y hy
        · rfl)
      simp only [wt]; simp at this; simp; omega
  | plain w ps hm h1 h2 hd hl g =>
    have hs := ded_sc h1 h2 hd
    refine ⟨dat_tup (key w ps g hs), ?_⟩
    have := scw (.str w :: ps) (fun y hy => by
        rw [List.mem_cons] at hy
        rcases hy with rfl | hy
        · rfl
        · exact hs y hy)
    simp only [wt]; simp at this; omega
theorem rowP_dat {num : Int} {N : Nat} {behind : Int} {r : AV} (h : RowP cn a 20 num N behind r) (hb : ∀ i, Nx num N behind i → i.natAbs ≤ 1000) : Dat 22 r := by
  obtain ⟨dd, t, is, rfl, hd, _, hi⟩ := h.ex
  refine dat_tup fun y hy => ?_
  simp only [List.mem_cons, List.not_mem_nil, or_false] at hy
  rcases hy with rfl | rfl
  · exact (rd_dat hd).1
  · refine (dat_tup (D := 0) fun y hy => ?_).up (by omega)
    obtain ⟨i, q, rfl⟩ := List.mem_map.mp hy
    exact dat_sc rfl (in_ok (by have := hb i (hi i q); omega))
theorem flat_dat {D : Nat} {v : AV} {cs : List (Int × Int)} {bs : List AV} (N : Net v cs bs) (hv : gd 0 D v = true) (hD : D ≤ 20) : Dat 24 (flatV bs) := by
  obtain ⟨rfl, hc, l1, l4, hb⟩ := N
  obtain ⟨D1, rfl, _, hv1⟩ := gd_tup hv
  obtain ⟨D2, rfl, _, hv3⟩ := gd_tup (hv1 (.tup bs) (by simp))
  refine dat_tup fun y hy => ?_
  obtain ⟨x, hx, rfl⟩ := List.mem_map.mp hy
  obtain ⟨i, hi, rfl⟩ := List.getElem_of_mem hx
  obtain ⟨b1, b2⟩ := hb i hi
  obtain ⟨p, ep⟩ := blk_tup b1
  have g3 := hv3 bs[i] (List.getElem_mem hi)
  rw [ep] at b1 b2 g3 ⊢
  exact dat_tup fun r hr => rowP_dat (rowP_all 4 D2 p 0 (-1) (by omega) b1 g3 r hr) fun j hj => by unfold Nx at hj; omega
theorem c_own [Code T] {D : Nat} (k : Nat) {v : AV} {cs : List (Int × Int)} {bs : List AV} (N : Net v cs bs) (h : AH) (hv : gd 0 D v = true) (hD : D ≤ 20) : callN T (k + 13) (Str.ofString "is_own") [v, flatV bs] h = .ok (.bl true) h := by
  rw [callN_step Code.is_own]
  refine Ok_eq (w_run rfl ?_)
  have q1 : callN T (k + 12) (Str.ofString "need_net") [v] h = _ := c_need_net (T := T) (by omega) k N h hv
  have q2 : callN T (k + 12) (Str.ofString "need_code") [v, flatV bs] h = .ok .non h := by
    rw [callN_step Code.need_code]
    refine Ok_eq (w_run rfl ?_)
    have q := c_code_of (T := T) (k + 2) N h hv hD
    (try simp (disch := first | omega | assumption | (simp only [List.length_cons, List.length_nil, List.length_append, List.length_map]; omega) | decide) only [↓WA, WB, if_true, if_false, peek, hasTys, hasTy, wipeA, tgSlots, tgsSlots, cmpSlots, List.replicate, Nat.reduceAdd, Nat.reduceSub, Nat.reduceLT, Nat.reduceLeDiff, f_need_code, q])
  have q3 : callN T (k + 12) (Str.ofString "flat_of") [v] h = _ := c_flat_of (T := T) k N h
  have e := (flat_dat N hv hD).eqD (by omega)
  have q4 : opC .eq (flatV bs) (flatV bs) h = some true := e
  have hm : ∀ x ∈ bs.map (rowsV dedOf), callN T (k + 12) (Str.ofString "unmarked") [x] h = .ok x h := by
    obtain ⟨rfl, hc, l1, l4, hb⟩ := N
    obtain ⟨D1, rfl, _, hv1⟩ := gd_tup hv
    obtain ⟨D2, rfl, _, hv3⟩ := gd_tup (hv1 (.tup bs) (by simp))
    intro x hx
    obtain ⟨x', hx', rfl⟩ := List.mem_map.mp hx
    obtain ⟨i, hi, rfl⟩ := List.getElem_of_mem hx'
    obtain ⟨b1, b2⟩ := hb i hi
    obtain ⟨p, ep⟩ := blk_tup b1
    have g3 := hv3 bs[i] (List.getElem_mem hi)
    rw [ep] at b1 b2 g3 ⊢
    exact c_unmarked (T := T) (k + 11) h (by rw [show (tupL (.tup p)) = p from rfl, rows_len b1]; exact b2) (rowP_all 4 D2 p 0 (-1) (by omega) b1 g3)
  have l4 := N.l4
  have l5 : (bs.map (rowsV dedOf)).length ≤ 4 := by simpa using l4
  have ef : flatV bs = .tup (bs.map (rowsV dedOf)) := rfl
  rw [ef] at q2 q4
  rw [ef] at q3 ⊢
  generalize bs.map (rowsV dedOf) = rs at q2 q3 q4 hm l5
  (try simp (disch := first | omega | assumption | (simp only [List.length_cons, List.length_nil, List.length_append, List.length_map]; omega) | decide) only [↓WA, WB, if_true, if_false, peek, hasTys, hasTy, wipeA, tgSlots, tgsSlots, cmpSlots, List.replicate, Nat.reduceAdd, Nat.reduceSub, Nat.reduceLT, Nat.reduceLeDiff, f_is_own, q1, q2, q3, q4])
  refine w_map (fun x => x) (fun x hx => ⟨_, asg_nm (by simp), ?_⟩) ?_
  · (try simp (disch := first | omega | assumption | (simp only [List.length_cons, List.length_nil, List.length_append, List.length_map]; omega) | decide) only [↓WA, WB, if_true, if_false, peek, hasTys, hasTy, wipeA, tgSlots, tgsSlots, cmpSlots, List.replicate, Nat.reduceAdd, Nat.reduceSub, Nat.reduceLT, Nat.reduceLeDiff, w_bodyC, hm x hx])
  · have em : rs.map (fun x => x) = rs := by simp
    rw [em]
    (try simp (disch := first | omega | assumption | (simp only [List.length_cons, List.length_nil, List.length_append, List.length_map]; omega) | decide) only [↓WA, WB, if_true, if_false, peek, hasTys, hasTy, wipeA, tgSlots, tgsSlots, cmpSlots, List.replicate, Nat.reduceAdd, Nat.reduceSub, Nat.reduceLT, Nat.reduceLeDiff, q3, q4])
theorem wts_bd {c : Nat} : ∀ {xs : List AV}, (∀ x ∈ xs, wt x ≤ c) → wts xs ≤ (c + 2) * xs.length
  | [], _ => by simp [wts]
  | x :: xs, h => by
    have := h x (by simp)
    have := wts_bd fun y q => h y (List.mem_cons_of_mem _ q)
    simp only [wts, List.length_cons, Nat.mul_add, Nat.mul_one]; omega
theorem rowP_wt {num : Int} {N : Nat} {behind : Int} {r : AV} (h : RowP cn a 20 num N behind r) : wt r ≤ 1720 := by
  obtain ⟨dd, t, is, rfl, hd, hl, hi⟩ := h.ex
  have h1 := (rd_dat hd).2
  have h2 : wts (is.map AV.int) ≤ (200 + 2) * (is.map AV.int).length := wts_bd fun x hx => by
    obtain ⟨i, q, rfl⟩ := List.mem_map.mp hx
    simp [wt]
  rw [List.length_map] at h2
  have hl2 : is.length ≤ 2 := by rw [hl]; cases t <;> decide
  simp only [wt, wts]; omega
theorem flat_wt {D : Nat} {v : AV} {cs : List (Int × Int)} {bs : List AV} (N : Net v cs bs) (hv : gd 0 D v = true) (hD : D ≤ 20) : wt (flatV bs) ≤ 300000 := by
  obtain ⟨rfl, hc, l1, l4, hb⟩ := N
  obtain ⟨D1, rfl, _, hv1⟩ := gd_tup hv
  obtain ⟨D2, rfl, _, hv3⟩ := gd_tup (hv1 (.tup bs) (by simp))
  have := wts_bd (c := 70000) (xs := bs.map (rowsV dedOf)) fun y hy => by
    obtain ⟨x, hx, rfl⟩ := List.mem_map.mp hy
    obtain ⟨i, hi, rfl⟩ := List.getElem_of_mem hx
    obtain ⟨b1, b2⟩ := hb i hi
    obtain ⟨p, ep⟩ := blk_tup b1
    have g3 := hv3 bs[i] (List.getElem_mem hi)
    rw [ep] at b1 b2 g3 ⊢
    have l := rows_len (m := dedOf) (num := 0) (behind := -1) b1
    have := wts_bd (c := 1720) (xs := rowsD dedOf 4 p 0 (-1)) fun r hr => rowP_wt (rowP_all 4 D2 p 0 (-1) (by omega) b1 g3 r hr)
    simp only [rowsV, tupL, wt]; omega
  rw [List.length_map] at this
  simp only [flatV, wt]; omega
theorem flat_repr {D : Nat} {v : AV} {cs : List (Int × Int)} {bs : List AV} (N : Net v cs bs) (hv : gd 0 D v = true) (hD : D ≤ 20) : ∃ t, opRepr (flatV bs) = some t := (flat_dat N hv hD).repr (by omega) (by have := flat_wt N hv hD; omega)
end
end S

set_option Elab.async false
set_option linter.all false
set_option maxRecDepth 100000
set_option maxHeartbeats 0
namespace K12
open PySem PySem.Spec PyProof.Rows L2 G
def top (i : Nat) : Stmt := PySem.Challenge.pw_giveway_k12_flat_code.main.body.getD i (.Pass ⟨0, 0, 0, 0⟩)
def kd_UNLIKE : List (Str × AV) := [("let", (.tup [(.int 1), (.int 2)])), ("hang", (.tup [(.int 1), (.int 4)]))]
def kd_FORMS : List (Str × AV) := [("num", (.str "an")), ("sum", (.str "aaoa")), ("new", (.str "g")), ("let", (.str "gg")), ("add", (.str "ga")), ("put", (.str "gaka")), ("tie", (.str "gaka")), ("hang", (.str "gakg")), ("get", (.str "agak")), ("sort", (.str "agak")), ("pick", (.str "ggak")), ("send", (.str "sg")), ("take", (.str "gt")), ("tell", (.str "a")), ("show", (.str "g")), ("if", (.str "abb")), ("while", (.str "ab"))]
def b_is_whole : List Stm := [(.ret (.and (.isi (.var 0) [.int]) (.not (.isi (.var 0) [.bool]))))]
def d_is_whole : DefI := { name := "is_whole", qual := "is_whole", N := ["thing"], ps := ["thing"], args := defArgs (top 5), sbody := defBody (top 5), scope := defScope (top 5), body := b_is_whole }
def b_is_within : List Stm := [(.ret (.and (.call "is_whole" [(.var 0)]) (.chain .le .le (.var 1) (.var 0) (.var 2))))]
def d_is_within : DefI := { name := "is_within", qual := "is_within", N := ["thing", "least", "most"], ps := ["thing", "least", "most"], args := defArgs (top 6), sbody := defBody (top 6), scope := defScope (top 6), body := b_is_within }
def b_is_number : List Stm := [(.ret (.call "is_within" [(.var 0), (.neg (.c (.int 9999))), (.c (.int 9999))]))]
def d_is_number : DefI := { name := "is_number", qual := "is_number", N := ["thing"], ps := ["thing"], args := defArgs (top 10), sbody := defBody (top 10), scope := defScope (top 10), body := b_is_number }
def b_is_number_name : List Stm := [(.ife (.or (.not (.e (.isi (.var 0) [.str]))) (.not (.e (.chain .le .le (.c (.int 1)) (.bi .len [(.var 0)]) (.c (.int 6)))))) [(.ret (.c (.bl false)))] []), (.ret (.bi .all [(.comp (.cl (.nm 1) (.sq (.var 0)) [] (.elt (.cmp .mem (.var 1) (.c (.str "abcdefghijklmnopqrstuvwxyz"))))))]))]
def d_is_number_name : DefI := { name := "is_number_name", qual := "is_number_name", N := ["thing", "sign"], ps := ["thing"], args := defArgs (top 23), sbody := defBody (top 23), scope := defScope (top 23), body := b_is_number_name }
def b_is_graph_name : List Stm := [(.ife (.or (.not (.e (.isi (.var 0) [.str]))) (.or (.not (.e (.chain .le .le (.c (.int 1)) (.bi .len [(.var 0)]) (.c (.int 6))))) (.e (.cmp .nmem (.sub (.var 0) (.c (.int 0))) (.c (.str "ABCDEFGHIJKLMNOPQRSTUVWXYZ")))))) [(.ret (.c (.bl false)))] []), (.ret (.bi .all [(.comp (.cl (.nm 1) (.sq (.slice (.var 0) (some (.c (.int 1))) none)) [] (.elt (.cmp .mem (.var 1) (.c (.str "abcdefghijklmnopqrstuvwxyz"))))))]))]
def d_is_graph_name : DefI := { name := "is_graph_name", qual := "is_graph_name", N := ["thing", "sign"], ps := ["thing"], args := defArgs (top 24), sbody := defBody (top 24), scope := defScope (top 24), body := b_is_graph_name }
def b_is_op : List Stm := [(.ret (.and (.isi (.var 0) [.str]) (.cmp .mem (.var 0) (.c (.tup [(.str "+"), (.str "-"), (.str "*"), (.str "<"), (.str "=")])))))]
def d_is_op : DefI := { name := "is_op", qual := "is_op", N := ["thing"], ps := ["thing"], args := defArgs (top 25), sbody := defBody (top 25), scope := defScope (top 25), body := b_is_op }
def b_is_end_of : List Stm := [(.ife (.e (.cmp .is (.var 0) (.c .non))) [(.ret (.call "is_within" [(.var 1), (.c (.int 0)), (.bin .sub (.c (.int 6)) (.c (.int 1)))]))] []), (.ret (.and (.call "is_within" [(.var 1), (.c (.int 0)), (.bin .sub (.bi .len [(.var 0)]) (.c (.int 1)))]) (.cmp .eq (.sub (.sub (.var 0) (.var 1)) (.var 3)) (.var 2))))]
def d_is_end_of : DefI := { name := "is_end_of", qual := "is_end_of", N := ["channels", "thing", "actor", "side"], ps := ["channels", "thing", "actor", "side"], args := defArgs (top 26), sbody := defBody (top 26), scope := defScope (top 26), body := b_is_end_of }
def b_is_part : List Stm := [(.ife (.e (.cmp .eq (.var 2) (.c (.str "a")))) [(.ret (.call "is_number_name" [(.var 3)]))] []), (.ife (.e (.cmp .eq (.var 2) (.c (.str "g")))) [(.ret (.call "is_graph_name" [(.var 3)]))] []), (.ife (.e (.cmp .eq (.var 2) (.c (.str "n")))) [(.ret (.call "is_number" [(.var 3)]))] []), (.ife (.e (.cmp .eq (.var 2) (.c (.str "o")))) [(.ret (.call "is_op" [(.var 3)]))] []), (.ife (.e (.cmp .eq (.var 2) (.c (.str "k")))) [(.ret (.call "is_within" [(.var 3), (.c (.int 0)), (.bin .sub (.c (.int 3)) (.c (.int 1)))]))] []), (.ife (.e (.cmp .eq (.var 2) (.c (.str "s")))) [(.ret (.call "is_end_of" [(.var 0), (.var 3), (.var 1), (.c (.int 0))]))] []), (.ret (.call "is_end_of" [(.var 0), (.var 3), (.var 1), (.c (.int 1))]))]
def d_is_part : DefI := { name := "is_part", qual := "is_part", N := ["channels", "actor", "form", "thing"], ps := ["channels", "actor", "form", "thing"], args := defArgs (top 27), sbody := defBody (top 27), scope := defScope (top 27), body := b_is_part }
def b_has_word : List Stm := [(.ret (.and (.isi (.var 0) [.tuple]) (.and (.cmp .ne (.var 0) (.tup [])) (.and (.isi (.sub (.var 0) (.c (.int 0))) [.str]) (.kin false (.sub (.var 0) (.c (.int 0))) kd_FORMS)))))]
def d_has_word : DefI := { name := "has_word", qual := "has_word", N := ["thing"], ps := ["thing"], args := defArgs (top 28), sbody := defBody (top 28), scope := defScope (top 28), body := b_has_word }
def b_is_deed : List Stm := [(.ife (.or (.not (.e (.call "has_word" [(.var 2)]))) (.e (.cmp .ne (.bi .len [(.var 2)]) (.bin .add (.c (.int 1)) (.bi .len [(.kget kd_FORMS (.sub (.var 2) (.c (.int 0))))]))))) [(.ret (.c (.bl false)))] []), (.star 3 4 (.var 2)), (.frzd [4] (.set 5 (.comp (.cl (.tp [(.nm 8), (.nm 9)]) (.zp (.kget kd_FORMS (.var 3)) (.var 4)) [(.e (.cmp .ne (.var 8) (.c (.str "b"))))] (.elt (.tup [(.var 8), (.var 9)])))))), (.ife (.not (.e (.bi .all [(.comp (.cl (.tp [(.nm 8), (.nm 9)]) (.sq (.var 5)) [] (.elt (.call "is_part" [(.var 0), (.var 1), (.var 8), (.var 9)]))))]))) [(.ret (.c (.bl false)))] []), (.ife (.e (.kin true (.var 3) kd_UNLIKE)) [(.ret (.c (.bl true)))] []), (.asg (.tp [(.nm 6), (.nm 7)]) (.kget kd_UNLIKE (.var 3))), (.ret (.cmp .ne (.sub (.var 2) (.var 6)) (.sub (.var 2) (.var 7))))]
def d_is_deed : DefI := { name := "is_deed", qual := "is_deed", N := ["channels", "actor", "thing", "word", "parts", "pairs", "one", "other", "form", "part"], ps := ["channels", "actor", "thing"], args := defArgs (top 29), sbody := defBody (top 29), scope := defScope (top 29), body := b_is_deed }
def b_blocks_in : List Stm := [(.ife (.e (.cmp .eq (.sub (.var 0) (.c (.int 0))) (.c (.str "if")))) [(.ret (.slice (.var 0) (some (.c (.int 2))) none))] []), (.ret (.ife (.e (.cmp .eq (.sub (.var 0) (.c (.int 0))) (.c (.str "while")))) (.slice (.var 0) (some (.c (.int 2))) none) (.tup [])))]
def d_blocks_in : DefI := { name := "blocks_in", qual := "blocks_in", N := ["statement"], ps := ["statement"], args := defArgs (top 30), sbody := defBody (top 30), scope := defScope (top 30), body := b_blocks_in }
def b_is_block : List Stm := [(.ife (.or (.e (.cmp .eq (.var 3) (.c (.int 0)))) (.or (.not (.e (.isi (.var 2) [.tuple]))) (.e (.cmp .gt (.bi .len [(.var 2)]) (.c (.int 12)))))) [(.ret (.c (.bl false)))] []), (.for (.nm 4) (.sq (.var 2)) [(.ife (.not (.e (.call "is_deed" [(.var 0), (.var 1), (.var 4)]))) [(.ret (.c (.bl false)))] []), (.ife (.not (.e (.bi .all [(.comp (.cl (.nm 5) (.sq (.call "blocks_in" [(.var 4)])) [] (.elt (.call "is_block" [(.var 0), (.var 1), (.var 5), (.bin .sub (.var 3) (.c (.int 1)))]))))]))) [(.ret (.c (.bl false)))] [])]), (.ret (.c (.bl true)))]
def d_is_block : DefI := { name := "is_block", qual := "is_block", N := ["channels", "actor", "thing", "deep", "one", "block"], ps := ["channels", "actor", "thing", "deep"], args := defArgs (top 31), sbody := defBody (top 31), scope := defScope (top 31), body := b_is_block }
def b_many_in : List Stm := [(.ret (.bi .sum [(.comp (.cl (.nm 1) (.sq (.var 0)) [] (.elt (.bin .add (.c (.int 1)) (.bi .sum [(.comp (.cl (.nm 2) (.sq (.call "blocks_in" [(.var 1)])) [] (.elt (.call "many_in" [(.var 2)]))))])))))]))]
def d_many_in : DefI := { name := "many_in", qual := "many_in", N := ["block", "one", "inner"], ps := ["block"], args := defArgs (top 32), sbody := defBody (top 32), scope := defScope (top 32), body := b_many_in }
def b_are_channels : List Stm := [(.ife (.or (.not (.e (.isi (.var 1) [.tuple]))) (.e (.cmp .gt (.bi .len [(.var 1)]) (.c (.int 6))))) [(.ret (.c (.bl false)))] []), (.for (.nm 2) (.sq (.var 1)) [(.ife (.or (.not (.e (.isi (.var 2) [.tuple]))) (.or (.e (.cmp .ne (.bi .len [(.var 2)]) (.c (.int 2)))) (.not (.e (.bi .all [(.comp (.cl (.nm 3) (.sq (.var 2)) [] (.elt (.call "is_within" [(.var 3), (.c (.int 0)), (.bin .sub (.var 0) (.c (.int 1)))]))))]))))) [(.ret (.c (.bl false)))] []), (.ife (.e (.cmp .eq (.sub (.var 2) (.c (.int 0))) (.sub (.var 2) (.c (.int 1))))) [(.ret (.c (.bl false)))] [])]), (.ret (.c (.bl true)))]
def d_are_channels : DefI := { name := "are_channels", qual := "are_channels", N := ["many", "thing", "one", "end"], ps := ["many", "thing"], args := defArgs (top 33), sbody := defBody (top 33), scope := defScope (top 33), body := b_are_channels }
def b_is_net : List Stm := [(.ife (.or (.not (.e (.isi (.var 0) [.tuple]))) (.e (.cmp .ne (.bi .len [(.var 0)]) (.c (.int 2))))) [(.ret (.c (.bl false)))] []), (.asg (.tp [(.nm 1), (.nm 2)]) (.var 0)), (.ife (.or (.not (.e (.isi (.var 2) [.tuple]))) (.not (.e (.chain .le .le (.c (.int 1)) (.bi .len [(.var 2)]) (.c (.int 4)))))) [(.ret (.c (.bl false)))] []), (.ife (.not (.e (.call "are_channels" [(.bi .len [(.var 2)]), (.var 1)]))) [(.ret (.c (.bl false)))] []), (.for (.tp [(.nm 3), (.nm 4)]) (.en (.var 2)) [(.ife (.or (.not (.e (.call "is_block" [(.var 1), (.var 3), (.var 4), (.c (.int 4))]))) (.e (.cmp .gt (.call "many_in" [(.var 4)]) (.c (.int 40))))) [(.ret (.c (.bl false)))] [])]), (.ret (.c (.bl true)))]
def d_is_net : DefI := { name := "is_net", qual := "is_net", N := ["thing", "channels", "actors", "actor", "block"], ps := ["thing"], args := defArgs (top 34), sbody := defBody (top 34), scope := defScope (top 34), body := b_is_net }
def b_need_net : List Stm := [(.ife (.not (.e (.call "is_net" [(.var 0)]))) [.never] [])]
def d_need_net : DefI := { name := "need_net", qual := "need_net", N := ["net"], ps := ["net"], args := defArgs (top 35), sbody := defBody (top 35), scope := defScope (top 35), body := b_need_net }
def b_is_row_deed : List Stm := [(.ife (.or (.not (.e (.isi (.var 2) [.tuple]))) (.or (.e (.cmp .eq (.var 2) (.tup []))) (.not (.e (.isi (.sub (.var 2) (.c (.int 0))) [.str]))))) [(.ret (.c (.bl false)))] []), (.ife (.e (.cmp .eq (.sub (.var 2) (.c (.int 0))) (.c (.str "test")))) [(.ret (.and (.cmp .eq (.bi .len [(.var 2)]) (.c (.int 2))) (.call "is_number_name" [(.sub (.var 2) (.c (.int 1)))])))] []), (.ife (.e (.cmp .mem (.sub (.var 2) (.c (.int 0))) (.c (.tup [(.str "let"), (.str "hang"), (.str "pick"), (.str "send")])))) [(.ret (.and (.isi (.sub (.var 2) (.neg (.c (.int 1)))) [.str]) (.and (.cmp .mem (.sub (.var 2) (.neg (.c (.int 1)))) (.c (.tup [(.str "copy"), (.str "give")]))) (.call "is_deed" [(.var 0), (.var 1), (.slice (.var 2) none (some (.neg (.c (.int 1)))))]))))] []), (.ret (.and (.cmp .nmem (.sub (.var 2) (.c (.int 0))) (.c (.tup [(.str "if"), (.str "while")]))) (.call "is_deed" [(.var 0), (.var 1), (.var 2)])))]
def d_is_row_deed : DefI := { name := "is_row_deed", qual := "is_row_deed", N := ["channels", "actor", "thing"], ps := ["channels", "actor", "thing"], args := defArgs (top 41), sbody := defBody (top 41), scope := defScope (top 41), body := b_is_row_deed }
def b_is_row : List Stm := [(.ife (.or (.not (.e (.isi (.var 3) [.tuple]))) (.or (.e (.cmp .ne (.bi .len [(.var 3)]) (.c (.int 2)))) (.not (.e (.call "is_row_deed" [(.var 0), (.var 1), (.sub (.var 3) (.c (.int 0)))]))))) [(.ret (.c (.bl false)))] []), (.asg (.tp [(.nm 4), (.nm 5)]) (.var 3)), (.ife (.or (.not (.e (.isi (.var 5) [.tuple]))) (.e (.cmp .ne (.bi .len [(.var 5)]) (.bin .add (.c (.int 1)) (.bi .int [(.cmp .eq (.sub (.var 4) (.c (.int 0))) (.c (.str "test")))]))))) [(.ret (.c (.bl false)))] []), (.ret (.bi .all [(.comp (.cl (.nm 6) (.sq (.var 5)) [] (.elt (.call "is_within" [(.var 6), (.c (.int (-1))), (.bin .sub (.var 2) (.c (.int 1)))]))))]))]
def d_is_row : DefI := { name := "is_row", qual := "is_row", N := ["channels", "actor", "many", "thing", "deed", "nexts", "one"], ps := ["channels", "actor", "many", "thing"], args := defArgs (top 42), sbody := defBody (top 42), scope := defScope (top 42), body := b_is_row }
def b_are_rows : List Stm := [(.ife (.or (.not (.e (.isi (.var 2) [.tuple]))) (.e (.cmp .gt (.bi .len [(.var 2)]) (.c (.int 40))))) [(.ret (.c (.bl false)))] []), (.ret (.bi .all [(.comp (.cl (.nm 3) (.sq (.var 2)) [] (.elt (.call "is_row" [(.var 0), (.var 1), (.bi .len [(.var 2)]), (.var 3)]))))]))]
def d_are_rows : DefI := { name := "are_rows", qual := "are_rows", N := ["channels", "actor", "thing", "one"], ps := ["channels", "actor", "thing"], args := defArgs (top 43), sbody := defBody (top 43), scope := defScope (top 43), body := b_are_rows }
def b_is_code_of : List Stm := [(.asg (.tp [(.nm 2), (.nm 3)]) (.var 0)), (.ife (.or (.not (.e (.isi (.var 1) [.tuple]))) (.e (.cmp .ne (.bi .len [(.var 1)]) (.bi .len [(.var 3)])))) [(.ret (.c (.bl false)))] []), (.ret (.bi .all [(.comp (.cl (.tp [(.nm 4), (.nm 5)]) (.en (.var 1)) [] (.elt (.call "are_rows" [(.var 2), (.var 4), (.var 5)]))))]))]
def d_is_code_of : DefI := { name := "is_code_of", qual := "is_code_of", N := ["net", "thing", "channels", "actors", "actor", "rows"], ps := ["net", "thing"], args := defArgs (top 44), sbody := defBody (top 44), scope := defScope (top 44), body := b_is_code_of }
def b_is_code : List Stm := [(.expr (.call "need_net" [(.var 0)])), (.ret (.call "is_code_of" [(.var 0), (.var 1)]))]
def d_is_code : DefI := { name := "is_code", qual := "is_code", N := ["net", "thing"], ps := ["net", "thing"], args := defArgs (top 45), sbody := defBody (top 45), scope := defScope (top 45), body := b_is_code, kw := [⟨0, ["thing", "net"], [1, 0]⟩] }
def b_need_code : List Stm := [(.ife (.not (.e (.call "is_code_of" [(.var 0), (.var 1)]))) [.never] [])]
def d_need_code : DefI := { name := "need_code", qual := "need_code", N := ["net", "code"], ps := ["net", "code"], args := defArgs (top 46), sbody := defBody (top 46), scope := defScope (top 46), body := b_need_code }
def b_deed_of : List Stm := [(.ife (.e (.cmp .mem (.sub (.var 0) (.c (.int 0))) (.c (.tup [(.str "if"), (.str "while")])))) [(.ret (.tup [(.c (.str "test")), (.sub (.var 0) (.c (.int 1)))]))] []), (.ret (.ife (.e (.cmp .mem (.sub (.var 0) (.c (.int 0))) (.c (.tup [(.str "let"), (.str "hang"), (.str "pick"), (.str "send")])))) (.bin .add (.var 0) (.tup [(.c (.str "copy"))])) (.var 0)))]
def d_deed_of : DefI := { name := "deed_of", qual := "deed_of", N := ["statement"], ps := ["statement"], args := defArgs (top 47), sbody := defBody (top 47), scope := defScope (top 47), body := b_deed_of }
def b_rows_of_one : List Stm := [(.set 3 (.call "deed_of" [(.var 0)])), (.ife (.e (.cmp .eq (.sub (.var 0) (.c (.int 0))) (.c (.str "if")))) [(.asg (.tp [(.nm 4), (.nm 5), (.nm 6), (.nm 7)]) (.var 0)), (.set 8 (.bin .add (.var 1) (.c (.int 1)))), (.set 9 (.bin .add (.var 8) (.call "many_in" [(.var 6)]))), (.set 10 (.tup [(.ife (.e (.cmp .ne (.var 6) (.tup []))) (.var 8) (.var 2)), (.ife (.e (.cmp .ne (.var 7) (.tup []))) (.var 9) (.var 2))])), (.ret (.cat (.cat (.lst [(.tup [(.var 3), (.var 10)])]) (.call "rows_of" [(.var 6), (.var 8), (.var 2)])) (.call "rows_of" [(.var 7), (.var 9), (.var 2)])))] []), (.ife (.e (.cmp .eq (.sub (.var 0) (.c (.int 0))) (.c (.str "while")))) [(.set 6 (.sub (.var 0) (.c (.int 2)))), (.set 11 (.ife (.e (.cmp .ne (.var 6) (.tup []))) (.bin .add (.var 1) (.c (.int 1))) (.var 1))), (.ret (.cat (.lst [(.tup [(.var 3), (.tup [(.var 11), (.var 2)])])]) (.call "rows_of" [(.var 6), (.bin .add (.var 1) (.c (.int 1))), (.var 1)])))] []), (.ret (.lst [(.tup [(.var 3), (.tup [(.var 2)])])]))]
def d_rows_of_one : DefI := { name := "rows_of_one", qual := "rows_of_one", N := ["statement", "number", "behind", "deed", "word", "name", "block", "other", "first", "second", "nexts", "inner"], ps := ["statement", "number", "behind"], args := defArgs (top 48), sbody := defBody (top 48), scope := defScope (top 48), body := b_rows_of_one }
def b_rows_of : List Stm := [(.own 3 (.lst [])), (.for (.tp [(.nm 4), (.nm 5)]) (.en (.var 0)) [(.set 6 (.bin .add (.var 1) (.bi .len [(.var 3)]))), (.set 7 (.ife (.e (.cmp .lt (.bin .add (.var 4) (.c (.int 1))) (.bi .len [(.var 0)]))) (.bin .add (.var 6) (.call "many_in" [(.tup [(.var 5)])])) (.var 2))), (.ext 3 (.call "rows_of_one" [(.var 5), (.var 6), (.var 7)]))]), (.ret (.var 3))]
def d_rows_of : DefI := { name := "rows_of", qual := "rows_of", N := ["block", "number", "behind", "rows", "at", "one", "here", "follow"], ps := ["block", "number", "behind"], args := defArgs (top 49), sbody := defBody (top 49), scope := defScope (top 49), body := b_rows_of }
def b_flat_of : List Stm := [(.asg (.tp [(.nm 1), (.nm 2)]) (.var 0)), (.ret (.bi .tuple [(.comp (.cl (.nm 3) (.sq (.var 2)) [] (.elt (.bi .tuple [(.call "rows_of" [(.var 3), (.c (.int 0)), (.c (.int (-1)))])]))))]))]
def d_flat_of : DefI := { name := "flat_of", qual := "flat_of", N := ["net", "channels", "actors", "block"], ps := ["net"], args := defArgs (top 50), sbody := defBody (top 50), scope := defScope (top 50), body := b_flat_of }
def b_flat : List Stm := [(.expr (.call "need_net" [(.var 0)])), (.ret (.call "flat_of" [(.var 0)]))]
def d_flat : DefI := { name := "flat", qual := "flat", N := ["net"], ps := ["net"], args := defArgs (top 51), sbody := defBody (top 51), scope := defScope (top 51), body := b_flat, kw := [⟨0, ["net"], [0]⟩] }
def b_unmarked : List Stm := [(.ret (.bi .tuple [(.comp (.cl (.tp [(.nm 1), (.nm 2)]) (.sq (.var 0)) [] (.elt (.tup [(.ife (.e (.cmp .mem (.sub (.var 1) (.c (.int 0))) (.c (.tup [(.str "let"), (.str "hang"), (.str "pick"), (.str "send")])))) (.bin .add (.slice (.var 1) none (some (.neg (.c (.int 1))))) (.tup [(.c (.str "copy"))])) (.var 1)), (.var 2)]))))]))]
def d_unmarked : DefI := { name := "unmarked", qual := "unmarked", N := ["rows", "deed", "nexts"], ps := ["rows"], args := defArgs (top 52), sbody := defBody (top 52), scope := defScope (top 52), body := b_unmarked }
def b_is_own : List Stm := [(.expr (.call "need_net" [(.var 0)])), (.expr (.call "need_code" [(.var 0), (.var 1)])), (.ret (.cmp .eq (.bi .tuple [(.comp (.cl (.nm 2) (.sq (.var 1)) [] (.elt (.call "unmarked" [(.var 2)]))))]) (.call "flat_of" [(.var 0)])))]
def d_is_own : DefI := { name := "is_own", qual := "is_own", N := ["net", "code", "rows"], ps := ["net", "code"], args := defArgs (top 53), sbody := defBody (top 53), scope := defScope (top 53), body := b_is_own, kw := [⟨0, ["code", "net"], [1, 0]⟩] }
def b__law_cell_at : List Stm := [(.ife (.e (.cmp .lt (.var 1) (.bi .len [(.var 0)]))) [(.ret (.sub (.var 0) (.var 1)))] []), (.ret (.c (.int 0)))]
def d__law_cell_at : DefI := { name := "_law_cell_at", qual := "_law_cell_at", N := ["_law_script", "_law_k"], ps := ["_law_script", "_law_k"], args := defArgs (top 55), sbody := defBody (top 55), scope := defScope (top 55), body := b__law_cell_at }
def b__law_state : List Stm := [(.set 2 (.call "_law_cell_at" [(.var 0), (.var 1)])), (.ret (.cell (.lst [(.bi .max [(.c (.int 0)), (.bin .sub (.var 2) (.bin .pow (.c (.int 10)) (.c (.int 18))))]), (.bin .add (.bin .mod (.var 2) (.c (.int 2147483629))) (.c (.int 1))), (.c (.int 0))])))]
def d__law_state : DefI := { name := "_law_state", qual := "_law_state", N := ["_law_script", "_law_k", "_law_cell"], ps := ["_law_script", "_law_k"], args := defArgs (top 56), sbody := defBody (top 56), scope := defScope (top 56), body := b__law_state }
def b__law_choice : List Stm := [(.ife (.e (.cmp .gt (.sub (.var 0) (.c (.int 0))) (.c (.int 0)))) [(.set 3 (.bin .mod (.sub (.var 0) (.c (.int 0))) (.var 1))), (.sset (.var 0) (.c (.int 0)) (.bin .fdiv (.sub (.var 0) (.c (.int 0))) (.var 1))), (.ret (.var 3))] []), (.sset (.var 0) (.c (.int 2)) (.bin .add (.sub (.var 0) (.c (.int 2))) (.c (.int 1)))), (.sset (.var 0) (.c (.int 1)) (.bin .mod (.bin .add (.bin .add (.bin .mul (.sub (.var 0) (.c (.int 1))) (.c (.int 48271))) (.c (.int 29))) (.sub (.var 0) (.c (.int 2)))) (.c (.int 2147483647)))), (.set 2 (.bin .mod (.bin .add (.bin .add (.bin .mul (.sub (.var 0) (.c (.int 1))) (.sub (.var 0) (.c (.int 1)))) (.bin .mul (.c (.int 39373)) (.sub (.var 0) (.c (.int 1))))) (.c (.int 7))) (.c (.int 2147483629)))), (.set 2 (.bin .mod (.bin .add (.bin .mul (.var 2) (.var 2)) (.bin .mul (.c (.int 50021)) (.var 2))) (.c (.int 2147483587)))), (.ret (.bin .mod (.bin .fdiv (.var 2) (.c (.int 8))) (.var 1)))]
def d__law_choice : DefI := { name := "_law_choice", qual := "_law_choice", N := ["_law_state_here", "_law_many_here", "_law_mixed", "_law_found"], ps := ["_law_state_here", "_law_many_here"], args := defArgs (top 57), sbody := defBody (top 57), scope := defScope (top 57), body := b__law_choice }
def b__law_many : List Stm := [(.set 1 (.c (.int 0))), (.for (.nm 2) (.sq (.var 0)) [(.set 1 (.bin .add (.bin .add (.var 1) (.c (.int 1))) (.bi .sum [(.comp (.cl (.nm 3) (.sq (.slice (.var 2) (some (.c (.int 2))) none)) [(.e (.cmp .mem (.sub (.var 2) (.c (.int 0))) (.tup [(.c (.str "if")), (.c (.str "while"))])))] (.elt (.call "_law_many" [(.var 3)]))))])))]), (.ret (.var 1))]
def d__law_many : DefI := { name := "_law_many", qual := "_law_many", N := ["_law_block_here", "_law_many_here", "_law_one", "_law_inner"], ps := ["_law_block_here"], args := defArgs (top 58), sbody := defBody (top 58), scope := defScope (top 58), body := b__law_many }
def b__law_simple : List Stm := [(.asg (.tp [(.nm 3), (.nm 4)]) (.tup [(.lst [(.c (.str "a")), (.c (.str "b")), (.c (.str "c")), (.c (.str "count"))]), (.lst [(.c (.str "G")), (.c (.str "H")), (.c (.str "Kit"))])])), (.asg (.tp [(.nm 5), (.nm 6), (.nm 7)]) (.comp (.cl (.nm 14) (.rg (.c (.int 0)) (.c (.int 3))) [] (.elt (.sub (.var 3) (.call "_law_choice" [(.var 0), (.c (.int 4))])))))), (.par 8 9 (.call "_law_choice" [(.var 0), (.c (.int 3))]) (.call "_law_choice" [(.var 0), (.c (.int 3))])), (.par 10 11 (.sub (.var 4) (.var 8)) (.sub (.var 4) (.bin .mod (.bin .add (.bin .add (.var 8) (.c (.int 1))) (.call "_law_choice" [(.var 0), (.c (.int 2))])) (.c (.int 3))))), (.set 12 (.call "_law_choice" [(.var 0), (.c (.int 19))])), (.ife (.e (.cmp .lt (.var 12) (.c (.int 3)))) [(.ret (.tup [(.c (.str "num")), (.var 5), (.sub (.lst [(.c (.int 0)), (.c (.int 1)), (.c (.int 2)), (.neg (.c (.int 1))), (.c (.int 3)), (.c (.int 9999)), (.bin .sub (.call "_law_choice" [(.var 0), (.c (.int 19999))]) (.c (.int 9999)))]) (.call "_law_choice" [(.var 0), (.c (.int 7))]))]))] []), (.ife (.e (.cmp .eq (.var 12) (.c (.int 3)))) [(.ret (.tup [(.c (.str "sum")), (.var 5), (.var 6), (.sub (.c (.str "+-*<=")) (.call "_law_choice" [(.var 0), (.c (.int 5))])), (.var 7)]))] []), (.ife (.and (.e (.cmp .eq (.var 12) (.c (.int 16)))) (.e (.cmp .ne (.var 1) (.lst [])))) [(.ret (.tup [(.c (.str "send")), (.sub (.var 1) (.call "_law_choice" [(.var 0), (.bi .len [(.var 1)])])), (.var 10)]))] []), (.ife (.and (.e (.cmp .eq (.var 12) (.c (.int 17)))) (.e (.cmp .ne (.var 2) (.lst [])))) [(.ret (.tup [(.c (.str "take")), (.var 10), (.sub (.var 2) (.call "_law_choice" [(.var 0), (.bi .len [(.var 2)])]))]))] []), (.set 13 (.lst [(.tup [(.c (.str "new")), (.var 10)]), (.tup [(.c (.str "let")), (.var 10), (.var 11)]), (.tup [(.c (.str "add")), (.var 10), (.var 5)]), (.tup [(.c (.str "add")), (.var 10), (.var 6)]), (.tup [(.c (.str "put")), (.var 10), (.var 5), (.var 9), (.var 6)]), (.tup [(.c (.str "tie")), (.var 10), (.var 5), (.var 9), (.var 6)])])), (.set 13 (.cat (.var 13) (.lst [(.tup [(.c (.str "hang")), (.var 10), (.var 5), (.var 9), (.var 11)]), (.tup [(.c (.str "hang")), (.var 10), (.var 6), (.var 9), (.var 11)]), (.tup [(.c (.str "get")), (.var 5), (.var 10), (.var 6), (.var 9)]), (.tup [(.c (.str "sort")), (.var 5), (.var 10), (.var 6), (.var 9)])]))), (.set 13 (.cat (.var 13) (.lst [(.tup [(.c (.str "pick")), (.var 10), (.var 11), (.var 5), (.var 9)]), (.tup [(.c (.str "pick")), (.var 10), (.var 10), (.var 5), (.var 9)]), (.tup [(.c (.str "tell")), (.var 5)]), (.tup [(.c (.str "show")), (.var 10)]), (.tup [(.c (.str "show")), (.var 11)])]))), (.ret (.sub (.var 13) (.bin .mod (.bin .sub (.var 12) (.c (.int 4))) (.c (.int 15)))))]
def d__law_simple : DefI := { name := "_law_simple", qual := "_law_simple", N := ["_law_state_here", "_law_sends", "_law_takes", "_law_names", "_law_graphs", "_law_a", "_law_b", "_law_c", "_law_at", "_law_k", "_law_g", "_law_h", "_law_kind", "_law_rows", "_law_turn"], ps := ["_law_state_here", "_law_sends", "_law_takes"], args := defArgs (top 59), sbody := defBody (top 59), scope := defScope (top 59), body := b__law_simple }
def b__law_block : List Stm := [(.own 5 (.lst [])), (.for (.nm 6) (.rg (.c (.int 0)) (.call "_law_choice" [(.var 0), (.bin .add (.var 4) (.c (.int 1)))])) [(.set 7 (.call "_law_choice" [(.var 0), (.c (.int 9))])), (.ife (.and (.e (.cmp .lt (.var 7) (.c (.int 2)))) (.e (.cmp .lt (.var 3) (.c (.int 4))))) [(.set 8 (.call "_law_block" [(.var 0), (.var 1), (.var 2), (.bin .add (.var 3) (.c (.int 1))), (.c (.int 3))])), (.set 9 (.call "_law_block" [(.var 0), (.var 1), (.var 2), (.bin .add (.var 3) (.c (.int 1))), (.c (.int 2))])), (.set 10 (.sub (.lst [(.c (.str "a")), (.c (.str "b")), (.c (.str "count"))]) (.call "_law_choice" [(.var 0), (.c (.int 3))]))), (.ife (.e (.cmp .eq (.var 7) (.c (.int 0)))) [(.app 5 (.tup [(.c (.str "if")), (.var 10), (.var 8), (.var 9)]))] [(.ife (.e (.cmp .eq (.call "_law_choice" [(.var 0), (.c (.int 5))]) (.c (.int 0)))) [(.app 5 (.tup [(.c (.str "while")), (.var 10), (.var 8)]))] [(.app 5 (.tup [(.c (.str "num")), (.c (.str "left")), (.bin .add (.c (.int 1)) (.call "_law_choice" [(.var 0), (.c (.int 3))]))])), (.app 5 (.tup [(.c (.str "num")), (.c (.str "one")), (.c (.int 1))])), (.app 5 (.tup [(.c (.str "while")), (.c (.str "left")), (.bin .add (.var 8) (.tup [(.tup [(.c (.str "sum")), (.c (.str "left")), (.c (.str "left")), (.c (.str "-")), (.c (.str "one"))])]))]))])])] [(.app 5 (.call "_law_simple" [(.var 0), (.var 1), (.var 2)]))])]), (.ret (.bi .tuple [(.slice (.var 5) none (some (.c (.int 12))))]))]
def d__law_block : DefI := { name := "_law_block", qual := "_law_block", N := ["_law_state_here", "_law_sends", "_law_takes", "_law_deep", "_law_most", "_law_rows", "_law_turn", "_law_kind", "_law_inner", "_law_other", "_law_name"], ps := ["_law_state_here", "_law_sends", "_law_takes", "_law_deep", "_law_most"], args := defArgs (top 60), sbody := defBody (top 60), scope := defScope (top 60), body := b__law_block }
def b__law_ends : List Stm := [(.ret (.comp (.cl (.tp [(.nm 3), (.nm 4)]) (.en (.var 0)) [(.e (.cmp .eq (.sub (.var 4) (.var 2)) (.var 1)))] (.elt (.var 3)))))]
def d__law_ends : DefI := { name := "_law_ends", qual := "_law_ends", N := ["_law_channels", "_law_actor", "_law_side", "_law_number", "_law_ends_here"], ps := ["_law_channels", "_law_actor", "_law_side"], args := defArgs (top 61), sbody := defBody (top 61), scope := defScope (top 61), body := b__law_ends }
def b__law_net : List Stm := [(.pars [3, 4, 5] [false, true, true] [(.bin .add (.c (.int 1)) (.call "_law_choice" [(.var 0), (.var 1)])), (.lst []), (.lst [])]), (.for (.nm 6) (.rg (.c (.int 0)) (.ife (.e (.cmp .gt (.var 3) (.c (.int 1)))) (.call "_law_choice" [(.var 0), (.c (.int 7))]) (.c (.int 0)))) [(.set 8 (.call "_law_choice" [(.var 0), (.var 3)])), (.app 4 (.tup [(.var 8), (.bin .mod (.bin .add (.bin .add (.var 8) (.c (.int 1))) (.call "_law_choice" [(.var 0), (.bin .sub (.var 3) (.c (.int 1)))])) (.var 3))]))]), (.for (.nm 7) (.rg (.c (.int 0)) (.var 3)) [(.frzd [4] (.set 9 (.call "_law_block" [(.var 0), (.call "_law_ends" [(.var 4), (.var 7), (.c (.int 0))]), (.call "_law_ends" [(.var 4), (.var 7), (.c (.int 1))]), (.c (.int 1)), (.var 2)]))), (.while (.e (.cmp .gt (.call "_law_many" [(.var 9)]) (.c (.int 40)))) [(.set 9 (.slice (.var 9) none (some (.neg (.c (.int 1))))))]), (.app 5 (.var 9))]), (.ret (.tup [(.bi .tuple [(.var 4)]), (.bi .tuple [(.var 5)])]))]
def d__law_net : DefI := { name := "_law_net", qual := "_law_net", N := ["_law_state_here", "_law_most", "_law_long", "_law_many_here", "_law_channels", "_law_actors", "_law_turn", "_law_actor", "_law_one", "_law_block_here"], ps := ["_law_state_here", "_law_most", "_law_long"], args := defArgs (top 62), sbody := defBody (top 62), scope := defScope (top 62), body := b__law_net }
def b__law_flat : List Stm := [(.own 3 (.lst [])), (.for (.tp [(.nm 4), (.nm 5)]) (.en (.var 0)) [(.set 6 (.bin .add (.var 1) (.bi .len [(.var 3)]))), (.set 7 (.ife (.e (.cmp .lt (.bin .add (.var 4) (.c (.int 1))) (.bi .len [(.var 0)]))) (.bin .add (.var 6) (.call "_law_many" [(.tup [(.var 5)])])) (.var 2))), (.ife (.e (.cmp .eq (.sub (.var 5) (.c (.int 0))) (.c (.str "if")))) [(.set 8 (.bin .add (.bin .add (.var 6) (.c (.int 1))) (.call "_law_many" [(.sub (.var 5) (.c (.int 2)))]))), (.set 9 (.tup [(.ife (.e (.cmp .ne (.sub (.var 5) (.c (.int 2))) (.tup []))) (.bin .add (.var 6) (.c (.int 1))) (.var 7)), (.ife (.e (.cmp .ne (.sub (.var 5) (.c (.int 3))) (.tup []))) (.var 8) (.var 7))])), (.app 3 (.tup [(.tup [(.c (.str "test")), (.sub (.var 5) (.c (.int 1)))]), (.var 9)])), (.own 3 (.cat (.cat (.var 3) (.call "_law_flat" [(.sub (.var 5) (.c (.int 2))), (.bin .add (.var 6) (.c (.int 1))), (.var 7)])) (.call "_law_flat" [(.sub (.var 5) (.c (.int 3))), (.var 8), (.var 7)])))] [(.ife (.e (.cmp .eq (.sub (.var 5) (.c (.int 0))) (.c (.str "while")))) [(.app 3 (.tup [(.tup [(.c (.str "test")), (.sub (.var 5) (.c (.int 1)))]), (.tup [(.ife (.e (.cmp .ne (.sub (.var 5) (.c (.int 2))) (.tup []))) (.bin .add (.var 6) (.c (.int 1))) (.var 6)), (.var 7)])])), (.own 3 (.cat (.var 3) (.call "_law_flat" [(.sub (.var 5) (.c (.int 2))), (.bin .add (.var 6) (.c (.int 1))), (.var 6)])))] [(.app 3 (.tup [(.var 5), (.tup [(.var 7)])]))])])]), (.ret (.var 3))]
def d__law_flat : DefI := { name := "_law_flat", qual := "_law_flat", N := ["_law_block_here", "_law_begin", "_law_behind", "_law_rows", "_law_at", "_law_one", "_law_here", "_law_after", "_law_other", "_law_ways"], ps := ["_law_block_here", "_law_begin", "_law_behind"], args := defArgs (top 63), sbody := defBody (top 63), scope := defScope (top 63), body := b__law_flat }
def b__law_marked : List Stm := [(.asg (.tp [(.nm 1), (.nm 2)]) (.var 0)), (.ret (.tup [(.ife (.e (.cmp .mem (.sub (.var 1) (.c (.int 0))) (.tup [(.c (.str "let")), (.c (.str "hang")), (.c (.str "pick")), (.c (.str "send"))]))) (.bin .add (.var 1) (.tup [(.c (.str "copy"))])) (.var 1)), (.var 2)]))]
def d__law_marked : DefI := { name := "_law_marked", qual := "_law_marked", N := ["_law_row", "_law_deed", "_law_nexts"], ps := ["_law_row"], args := defArgs (top 64), sbody := defBody (top 64), scope := defScope (top 64), body := b__law_marked }
def b__law_ends_of_blocks : List Stm := [(.asg (.tp [(.nm 0), (.nm 1)]) (.tup [(.tup [(.c (.str "tell")), (.c (.str "a"))]), (.tup [])])), (.set 2 (.tup [(.c (.str "if")), (.c (.str "a")), (.var 1), (.tup [(.tup [(.c (.str "while")), (.c (.str "b")), (.var 1)])])])), (.own 3 (.lst [(.tup [(.tup [(.c (.str "while")), (.c (.str "a")), (.var 1)])]), (.tup [(.tup [(.c (.str "if")), (.c (.str "a")), (.var 1), (.var 1)])]), (.tup [(.tup [(.c (.str "if")), (.c (.str "a")), (.tup [(.var 0)]), (.var 1)]), (.var 0)])])), (.app 3 (.tup [(.var 2), (.var 2)])), (.app 3 (.tup [(.tup [(.c (.str "while")), (.c (.str "a")), (.tup [(.var 2), (.tup [(.c (.str "while")), (.c (.str "b")), (.tup [(.var 0), (.tup [(.c (.str "if")), (.c (.str "b")), (.var 1), (.tup [(.var 0)])])])])])])])), (.own 3 (.cat (.var 3) (.lst [(.var 1), (.tup [(.var 0), (.var 0)]), (.tup [(.tup [(.c (.str "if")), (.c (.str "b")), (.tup [(.var 2)]), (.tup [(.var 0)])])])]))), (.ret (.lst [(.tup [(.tup []), (.bi .tuple [(.slice (.var 3) none (some (.c (.int 4))))])]), (.tup [(.tup []), (.bi .tuple [(.slice (.var 3) (some (.c (.int 4))) none)])])]))]
def d__law_ends_of_blocks : DefI := { name := "_law_ends_of_blocks", qual := "_law_ends_of_blocks", N := ["_law_one", "_law_none", "_law_inner", "_law_rows"], ps := [], args := defArgs (top 65), sbody := defBody (top 65), scope := defScope (top 65), body := b__law_ends_of_blocks }
def b_law : List Stm := [(.for (.nm 1) (.rg (.c (.int 0)) (.bi .max [(.c (.int 1)), (.bi .min [(.bi .len [(.var 0)]), (.c (.int 6))])])) [(.set 2 (.call "_law_state" [(.var 0), (.var 1)])), (.set 3 (.lst [(.call "_law_net" [(.var 2), (.c (.int 4)), (.c (.int 8))]), (.call "_law_net" [(.var 2), (.c (.int 2)), (.c (.int 3))])])), (.for (.nm 4) (.sq (.bin .add (.var 3) (.slice (.call "_law_ends_of_blocks" []) none (some (.bin .mul (.c (.int 2)) (.bi .int [(.cmp .eq (.var 1) (.c (.int 0)))])))))) [(.pars [5, 6] [true, false] [(.lst []), (.bi .repr [(.var 4)])]), (.for (.nm 7) (.sq (.sub (.var 4) (.c (.int 1)))) [(.app 5 (.bi .tuple [(.comp (.cl (.nm 10) (.sq (.call "_law_flat" [(.var 7), (.c (.int 0)), (.neg (.c (.int 1)))])) [] (.elt (.call "_law_marked" [(.var 10)]))))]))]), (.for (.nm 8) (.rg (.c (.int 0)) (.c (.int 2))) [(.set 9 (.call "flat" [(.var 4)])), (.ife (.or (.e (.cmp .ne (.bi .repr [(.var 9)]) (.bi .repr [(.bi .tuple [(.var 5)])]))) (.e (.cmp .isn (.callK "is_code" [(.var 9), (.var 4)] [1, 0]) (.c (.bl true))))) [(.ret (.c (.bl false)))] []), (.ife (.e (.cmp .isn (.callK "is_own" [(.var 9), (.var 4)] [1, 0]) (.c (.bl true)))) [(.ret (.c (.bl false)))] [])]), (.ife (.or (.e (.cmp .ne (.bi .repr [(.callK "flat" [(.var 4)] [0])]) (.bi .repr [(.var 9)]))) (.e (.cmp .ne (.bi .repr [(.var 4)]) (.var 6)))) [(.ret (.c (.bl false)))] [])])]), (.ret (.c (.bl true)))]
def d_law : DefI := { name := "law", qual := "law", N := ["_law_script", "_law_k", "_law_state_here", "_law_nets", "_law_web", "_law_rows", "_law_kept", "_law_block_here", "_law_turn", "_law_found", "_law_row"], ps := ["_law_script"], args := defArgs (top 66), sbody := defBody (top 66), scope := defScope (top 66), body := b_law }
def ds : List DefI := [d_is_whole, d_is_within, d_is_number, d_is_number_name, d_is_graph_name, d_is_op, d_is_end_of, d_is_part, d_has_word, d_is_deed, d_blocks_in, d_is_block, d_many_in, d_are_channels, d_is_net, d_need_net, d_is_row_deed, d_is_row, d_are_rows, d_is_code_of, d_is_code, d_need_code, d_deed_of, d_rows_of_one, d_rows_of, d_flat_of, d_flat, d_unmarked] ++ [d_is_own, d__law_cell_at, d__law_state, d__law_choice, d__law_many, d__law_simple, d__law_block, d__law_ends, d__law_net, d__law_flat, d__law_marked, d__law_ends_of_blocks, d_law]
def bl : List Str := ["all", "bool", "enumerate", "int", "isinstance", "len", "max", "min", "range", "repr", "str", "sum", "tuple", "zip"]
def kd : List (Str × List (Str × AV)) := [("FORMS", kd_FORMS), ("UNLIKE", kd_UNLIKE)]
def cs : List (Str × AV) := [("BLOCKED", (.tup [(.str "if"), (.str "while")])), ("CAPITALS", (.str "ABCDEFGHIJKLMNOPQRSTUVWXYZ")), ("END", (.int (-1))), ("MARKED", (.tup [(.str "let"), (.str "hang"), (.str "pick"), (.str "send")])), ("MARKS", (.tup [(.str "copy"), (.str "give")])), ("MOST_ACTORS", (.int 4)), ("MOST_BLOCKS", (.int 4)), ("MOST_CHANNELS", (.int 6)), ("MOST_NUMBER", (.int 9999)), ("MOST_OF_BLOCK", (.int 12)), ("MOST_SIGNS", (.int 6)), ("MOST_STATEMENTS", (.int 40)), ("OPS", (.tup [(.str "+"), (.str "-"), (.str "*"), (.str "<"), (.str "=")])), ("PLACES", (.int 3)), ("SMALL", (.str "abcdefghijklmnopqrstuvwxyz"))]
theorem chk : ds.all (ckDef bl cs (fsOf ds) kd) = true := by kernel_rfl
end K12

set_option linter.all false
set_option maxRecDepth 100000
set_option maxHeartbeats 4000000
/-! K12l: the law of flat code. -/
namespace S
open PySem G
def f_law_flat : Fn := ⟨10, 3, [(.own 3 (.lst [])), (.for (.tp [(.nm 4), (.nm 5)]) (.en (.var 0)) [(.set 6 (.bin .add (.var 1) (.bi .len [(.var 3)]))), (.set 7 (.ife (.e (.cmp .lt (.bin .add (.var 4) (.c (.int 1))) (.bi .len [(.var 0)]))) (.bin .add (.var 6) (.call "_law_many" [(.tup [(.var 5)])])) (.var 2))), (.ife (.e (.cmp .eq (.sub (.var 5) (.c (.int 0))) (.c (.str "if")))) [(.set 8 (.bin .add (.bin .add (.var 6) (.c (.int 1))) (.call "_law_many" [(.sub (.var 5) (.c (.int 2)))]))), (.set 9 (.tup [(.ife (.e (.cmp .ne (.sub (.var 5) (.c (.int 2))) (.tup []))) (.bin .add (.var 6) (.c (.int 1))) (.var 7)), (.ife (.e (.cmp .ne (.sub (.var 5) (.c (.int 3))) (.tup []))) (.var 8) (.var 7))])), (.app 3 (.tup [(.tup [(.c (.str "test")), (.sub (.var 5) (.c (.int 1)))]), (.var 9)])), (.own 3 (.cat (.cat (.var 3) (.call "_law_flat" [(.sub (.var 5) (.c (.int 2))), (.bin .add (.var 6) (.c (.int 1))), (.var 7)])) (.call "_law_flat" [(.sub (.var 5) (.c (.int 3))), (.var 8), (.var 7)])))] [(.ife (.e (.cmp .eq (.sub (.var 5) (.c (.int 0))) (.c (.str "while")))) [(.app 3 (.tup [(.tup [(.c (.str "test")), (.sub (.var 5) (.c (.int 1)))]), (.tup [(.ife (.e (.cmp .ne (.sub (.var 5) (.c (.int 2))) (.tup []))) (.bin .add (.var 6) (.c (.int 1))) (.var 6)), (.var 7)])])), (.own 3 (.cat (.var 3) (.call "_law_flat" [(.sub (.var 5) (.c (.int 2))), (.bin .add (.var 6) (.c (.int 1))), (.var 6)])))] [(.app 3 (.tup [(.var 5), (.tup [(.var 7)])]))])])]), (.ret (.var 3))]⟩
def f_law_marked : Fn := ⟨3, 1, [(.asg (.tp [(.nm 1), (.nm 2)]) (.var 0)), (.ret (.tup [(.ife (.e (.cmp .mem (.sub (.var 1) (.c (.int 0))) (.tup [(.c (.str "let")), (.c (.str "hang")), (.c (.str "pick")), (.c (.str "send"))]))) (.bin .add (.var 1) (.tup [(.c (.str "copy"))])) (.var 1)), (.var 2)]))]⟩
def f_law_ends_of_blocks : Fn := ⟨4, 0, [(.asg (.tp [(.nm 0), (.nm 1)]) (.tup [(.tup [(.c (.str "tell")), (.c (.str "a"))]), (.tup [])])), (.set 2 (.tup [(.c (.str "if")), (.c (.str "a")), (.var 1), (.tup [(.tup [(.c (.str "while")), (.c (.str "b")), (.var 1)])])])), (.own 3 (.lst [(.tup [(.tup [(.c (.str "while")), (.c (.str "a")), (.var 1)])]), (.tup [(.tup [(.c (.str "if")), (.c (.str "a")), (.var 1), (.var 1)])]), (.tup [(.tup [(.c (.str "if")), (.c (.str "a")), (.tup [(.var 0)]), (.var 1)]), (.var 0)])])), (.app 3 (.tup [(.var 2), (.var 2)])), (.app 3 (.tup [(.tup [(.c (.str "while")), (.c (.str "a")), (.tup [(.var 2), (.tup [(.c (.str "while")), (.c (.str "b")), (.tup [(.var 0), (.tup [(.c (.str "if")), (.c (.str "b")), (.var 1), (.tup [(.var 0)])])])])])])])), (.own 3 (.cat (.var 3) (.lst [(.var 1), (.tup [(.var 0), (.var 0)]), (.tup [(.tup [(.c (.str "if")), (.c (.str "b")), (.tup [(.var 2)]), (.tup [(.var 0)])])])]))), (.ret (.lst [(.tup [(.tup []), (.bi .tuple [(.slice (.var 3) none (some (.c (.int 4))))])]), (.tup [(.tup []), (.bi .tuple [(.slice (.var 3) (some (.c (.int 4))) none)])])]))]⟩
def f_law : Fn := ⟨11, 1, [(.for (.nm 1) (.rg (.c (.int 0)) (.bi .max [(.c (.int 1)), (.bi .min [(.bi .len [(.var 0)]), (.c (.int 6))])])) [(.set 2 (.call "_law_state" [(.var 0), (.var 1)])), (.set 3 (.lst [(.call "_law_net" [(.var 2), (.c (.int 4)), (.c (.int 8))]), (.call "_law_net" [(.var 2), (.c (.int 2)), (.c (.int 3))])])), (.for (.nm 4) (.sq (.bin .add (.var 3) (.slice (.call "_law_ends_of_blocks" []) none (some (.bin .mul (.c (.int 2)) (.bi .int [(.cmp .eq (.var 1) (.c (.int 0)))])))))) [(.pars [5, 6] [true, false] [(.lst []), (.bi .repr [(.var 4)])]), (.for (.nm 7) (.sq (.sub (.var 4) (.c (.int 1)))) [(.app 5 (.bi .tuple [(.comp (.cl (.nm 10) (.sq (.call "_law_flat" [(.var 7), (.c (.int 0)), (.neg (.c (.int 1)))])) [] (.elt (.call "_law_marked" [(.var 10)]))))]))]), (.for (.nm 8) (.rg (.c (.int 0)) (.c (.int 2))) [(.set 9 (.call "flat" [(.var 4)])), (.ife (.or (.e (.cmp .ne (.bi .repr [(.var 9)]) (.bi .repr [(.bi .tuple [(.var 5)])]))) (.e (.cmp .isn (.callK "is_code" [(.var 9), (.var 4)] [1, 0]) (.c (.bl true))))) [(.ret (.c (.bl false)))] []), (.ife (.e (.cmp .isn (.callK "is_own" [(.var 9), (.var 4)] [1, 0]) (.c (.bl true)))) [(.ret (.c (.bl false)))] [])]), (.ife (.or (.e (.cmp .ne (.bi .repr [(.callK "flat" [(.var 4)] [0])]) (.bi .repr [(.var 9)]))) (.e (.cmp .ne (.bi .repr [(.var 4)]) (.var 6)))) [(.ret (.c (.bl false)))] [])])]), (.ret (.c (.bl true)))]⟩
class FlatL (T : Tab) : Prop extends NetL T, Code T where
  law_flat : T.lookup (Str.ofString "_law_flat") = some f_law_flat
  law_marked : T.lookup (Str.ofString "_law_marked") = some f_law_marked
  law_ends_of_blocks : T.lookup (Str.ofString "_law_ends_of_blocks") = some f_law_ends_of_blocks
  law : T.lookup (Str.ofString "law") = some f_law
section
variable {T : Tab} {cn : Option (List (Int × Int))} {a : Int}
/-- a row marked -/
def mkRow : AV → AV
  | .tup [dd, nx] => .tup [dedOf dd, nx]
  | r => r
theorem rowsG_map {m : AV → AV} {one one' : AV → Int → Int → List AV} {N1 : AV → Nat} {num behind : Int} {bs : List AV} (h : ∀ b ∈ bs, ∀ x y, (one b x y).map m = one' b x y) : ∀ i, i ≤ bs.length → (rowsG one N1 num behind bs i).map m = rowsG one' N1 num behind bs i
  | 0, _ => rfl
  | i + 1, hi => by
    have hi' : i < bs.length := by omega
    have e := rowsG_map (N1 := N1) (num := num) (behind := behind) h i (by omega)
    have el : (rowsG one N1 num behind bs i).length = (rowsG one' N1 num behind bs i).length := by rw [← e, List.length_map]
    simp only [rowsG, List.getElem?_eq_getElem hi', List.map_append]
    rw [h _ (List.getElem_mem hi'), e, el]
theorem rows_map : ∀ {d : Nat} {bs : List AV} {num behind : Int}, blkB cn a d (.tup bs) = true → (rowsD (fun x => x) d bs num behind).map mkRow = rowsD dedOf d bs num behind
  | 0, bs, num, behind, h => by simp [blkB] at h
  | d + 1, bs, num, behind, h => by
    obtain ⟨h1, h2⟩ := blk_shp h
    simp only [rowsD]
    refine rowsG_map (fun b hb x y => ?_) _ (Nat.le_refl _)
    cases h2 b hb with
    | ife z p q hz hp hq =>
      have e : ∀ m, oneR m (rowsD m d) (manyN d) (.tup [.str "if", z, .tup p, .tup q]) x y = .tup [.tup [.str "test", z], .tup [.int (nextI p (x + 1) y), .int (nextI q (x + 1 + manyN d (.tup p)) y)]] :: (rowsD m d p (x + 1) y ++ rowsD m d q (x + 1 + manyN d (.tup p)) y) := fun _ => rfl
      rw [e, e, List.map_cons, List.map_append, rows_map hp, rows_map hq]; rfl
    | whi z p hz hp =>
      have e : ∀ m, oneR m (rowsD m d) (manyN d) (.tup [.str "while", z, .tup p]) x y = .tup [.tup [.str "test", z], .tup [.int (nextI p (x + 1) x), .int y]] :: rowsD m d p (x + 1) x := fun _ => rfl
      rw [e, e, List.map_cons, rows_map hp]; rfl
    | ded w ps q1 q2 q3 q4 =>
      rw [oneR_ded q1 q2, oneR_ded q1 q2]; rfl
def stepSs : List Stm := [(.ife (.e (.cmp .eq (.sub (.var 5) (.c (.int 0))) (.c (.str "if")))) [(.set 8 (.bin .add (.bin .add (.var 6) (.c (.int 1))) (.call "_law_many" [(.sub (.var 5) (.c (.int 2)))]))), (.set 9 (.tup [(.ife (.e (.cmp .ne (.sub (.var 5) (.c (.int 2))) (.tup []))) (.bin .add (.var 6) (.c (.int 1))) (.var 7)), (.ife (.e (.cmp .ne (.sub (.var 5) (.c (.int 3))) (.tup []))) (.var 8) (.var 7))])), (.app 3 (.tup [(.tup [(.c (.str "test")), (.sub (.var 5) (.c (.int 1)))]), (.var 9)])), (.own 3 (.cat (.cat (.var 3) (.call "_law_flat" [(.sub (.var 5) (.c (.int 2))), (.bin .add (.var 6) (.c (.int 1))), (.var 7)])) (.call "_law_flat" [(.sub (.var 5) (.c (.int 3))), (.var 8), (.var 7)])))] [(.ife (.e (.cmp .eq (.sub (.var 5) (.c (.int 0))) (.c (.str "while")))) [(.app 3 (.tup [(.tup [(.c (.str "test")), (.sub (.var 5) (.c (.int 1)))]), (.tup [(.ife (.e (.cmp .ne (.sub (.var 5) (.c (.int 2))) (.tup []))) (.bin .add (.var 6) (.c (.int 1))) (.var 6)), (.var 7)])])), (.own 3 (.cat (.var 3) (.call "_law_flat" [(.sub (.var 5) (.c (.int 2))), (.bin .add (.var 6) (.c (.int 1))), (.var 6)])))] [(.app 3 (.tup [(.var 5), (.tup [(.var 7)])]))])])]
theorem flat_step [FlatL T] (d k : Nat) (IH : ∀ (bs : List AV) (num behind : Int) (h : AH), blkB cn a d (.tup bs) = true → manyN d (.tup bs) ≤ 40 → callN T (k + d + 3) (Str.ofString "_law_flat") [.tup bs, .int num, .int behind] h = .ok (.lst (rowsD (fun x => x) d bs num behind)) h)
    {b : AV} (hb : Shp cn a d b) (rows : List AV) (hr : rows.length + one1 d b ≤ 40) (s0 s1 s2 s4 a8 a9 : Sv) (here y : Int) (h : AH) :
    Rs.Ok (evSs (callN T (k + d + 3)) stepSs [s0, s1, s2, .ol rows, s4, .vl b, .vl (.int here), .vl (.int y), a8, a9] h) fun f h' => h' = h ∧ ∃ b8 b9, f = .nx [s0, s1, s2, .ol (rows ++ oneR (fun x => x) (rowsD (fun x => x) d) (manyN d) b here y), s4, .vl b, .vl (.int here), .vl (.int y), b8, b9] := by
  cases hb with
  | ife z p q hz hp hq =>
    have e : oneR (fun x => x) (rowsD (fun x => x) d) (manyN d) (.tup [.str "if", z, .tup p, .tup q]) here y = .tup [.tup [.str "test", z], .tup [.int (nextI p (here + 1) y), .int (nextI q (here + 1 + manyN d (.tup p)) y)]] :: (rowsD (fun x => x) d p (here + 1) y ++ rowsD (fun x => x) d q (here + 1 + manyN d (.tup p)) y) := rfl
    have e2 : one1 d (.tup [.str "if", z, .tup p, .tup q]) = 1 + (manyN d (.tup p) + manyN d (.tup q)) := by
      have e2 : blksOf (.tup [.str "if", z, .tup p, .tup q]) = [.tup p, .tup q] := rfl
      simp [one1, e2]
    rw [e2] at hr
    have q2 : callN T (k + d + 3) (Str.ofString "_law_many") [.tup p] h = .ok (.int (manyN d (.tup p))) h := by
      have := c_law_many (T := T) d (k + 2) (.tup p) h hp
      rwa [show k + 2 + d + 1 = k + d + 3 by omega] at this
    have l1 := rows_len (m := fun x => x) (num := here + 1) (behind := y) hp
    have l2 := rows_len (m := fun x => x) (num := here + 1 + manyN d (.tup p)) (behind := y) hq
    have ew : ((Str.ofString "if") == (Str.ofString "if")) = true := by decide +kernel
    have r1 := IH p (here + 1) y h hp (by omega)
    have r2 := IH q (here + 1 + manyN d (.tup p)) y h hq (by omega)
    have at3 : L2.atI [AV.str "if", z, .tup p, .tup q] 3 = some (.tup q) := rfl
    rw [e]
    (try simp (disch := first | omega | assumption | (simp only [List.length_cons, List.length_nil, List.length_append, List.length_map]; omega) | decide) only [↓WA, WB, if_true, if_false, peek, hasTys, hasTy, wipeA, tgSlots, tgsSlots, cmpSlots, List.replicate, Nat.reduceAdd, Nat.reduceSub, Nat.reduceLT, Nat.reduceLeDiff, stepSs, ew, q2])
    refine Br_of (fun c1 => ?_) (fun c1 => ?_) <;> (try simp (disch := first | omega | assumption | (simp only [List.length_cons, List.length_nil, List.length_append, List.length_map]; omega) | decide) only [↓WA, WB, if_true, if_false, peek, hasTys, hasTy, wipeA, tgSlots, tgsSlots, cmpSlots, List.replicate, Nat.reduceAdd, Nat.reduceSub, Nat.reduceLT, Nat.reduceLeDiff, at3]) <;> refine Br_of (fun c2 => ?_) (fun c2 => ?_) <;> (try simp (disch := first | omega | assumption | (simp only [List.length_cons, List.length_nil, List.length_append, List.length_map]; omega) | decide) only [↓WA, WB, if_true, if_false, peek, hasTys, hasTy, wipeA, tgSlots, tgsSlots, cmpSlots, List.replicate, Nat.reduceAdd, Nat.reduceSub, Nat.reduceLT, Nat.reduceLeDiff, r1, r2, at3]) <;> simp only [Bool.not_eq_true', Bool.not_eq_false'] at c1 c2 <;> simp [nextI, c1, c2]
  | whi z p hz hp =>
    have e : oneR (fun x => x) (rowsD (fun x => x) d) (manyN d) (.tup [.str "while", z, .tup p]) here y = .tup [.tup [.str "test", z], .tup [.int (nextI p (here + 1) here), .int y]] :: rowsD (fun x => x) d p (here + 1) here := rfl
    have e2 : one1 d (.tup [.str "while", z, .tup p]) = 1 + manyN d (.tup p) := by
      have e2 : blksOf (.tup [.str "while", z, .tup p]) = [.tup p] := rfl
      simp [one1, e2]
    rw [e2] at hr
    have l1 := rows_len (m := fun x => x) (num := here + 1) (behind := here) hp
    have ew : ((Str.ofString "while") == (Str.ofString "if")) = false := by decide +kernel
    have ew2 : ((Str.ofString "while") == (Str.ofString "while")) = true := by decide +kernel
    have r1 := IH p (here + 1) here h hp (by omega)
    rw [e]
    (try simp (disch := first | omega | assumption | (simp only [List.length_cons, List.length_nil, List.length_append, List.length_map]; omega) | decide) only [↓WA, WB, if_true, if_false, peek, hasTys, hasTy, wipeA, tgSlots, tgsSlots, cmpSlots, List.replicate, Nat.reduceAdd, Nat.reduceSub, Nat.reduceLT, Nat.reduceLeDiff, stepSs, ew, ew2])
    refine Br_of (fun c1 => ?_) (fun c1 => ?_) <;> (try simp (disch := first | omega | assumption | (simp only [List.length_cons, List.length_nil, List.length_append, List.length_map]; omega) | decide) only [↓WA, WB, if_true, if_false, peek, hasTys, hasTy, wipeA, tgSlots, tgsSlots, cmpSlots, List.replicate, Nat.reduceAdd, Nat.reduceSub, Nat.reduceLT, Nat.reduceLeDiff, r1]) <;> simp only [Bool.not_eq_true', Bool.not_eq_false'] at c1 <;> simp [nextI, c1]
  | ded w ps h1 h2 hd hl =>
    rw [oneR_ded h1 h2]
    have f1 : (w == Str.ofString "if") = false := by simpa using h1
    have f2 : (w == Str.ofString "while") = false := by simpa using h2
    have : one1 d (.tup (.str w :: ps)) = 1 := by
      simp only [one1, blksOf]
      rw [if_neg h1, if_neg h2]; rfl
    (try simp (disch := first | omega | assumption | (simp only [List.length_cons, List.length_nil, List.length_append, List.length_map]; omega) | decide) only [↓WA, WB, if_true, if_false, peek, hasTys, hasTy, wipeA, tgSlots, tgsSlots, cmpSlots, List.replicate, Nat.reduceAdd, Nat.reduceSub, Nat.reduceLT, Nat.reduceLeDiff, stepSs, f1, f2])
    exact ⟨_, _, rfl⟩
theorem c_law_flat [FlatL T] : ∀ (d k : Nat) (bs : List AV) (num behind : Int) (h : AH), blkB cn a d (.tup bs) = true → manyN d (.tup bs) ≤ 40 → callN T (k + d + 3) (Str.ofString "_law_flat") [.tup bs, .int num, .int behind] h = .ok (.lst (rowsD (fun x => x) d bs num behind)) h
  | 0, k, bs, num, behind, h, hb, hm => by simp [blkB] at hb
  | d + 1, k, bs, num, behind, h, hb, hm => by
    rw [callN_step FlatL.law_flat]
    refine Ok_eq (w_run rfl ?_)
    obtain ⟨h12, hs⟩ := blk_shp hb
    (try simp (disch := first | omega | assumption | (simp only [List.length_cons, List.length_nil, List.length_append, List.length_map]; omega) | decide) only [↓WA, WB, if_true, if_false, peek, hasTys, hasTy, wipeA, tgSlots, tgsSlots, cmpSlots, List.replicate, Nat.reduceAdd, Nat.reduceSub, Nat.reduceLT, Nat.reduceLeDiff, f_law_flat])
    refine w_for (fun i σ h' => h' = h ∧ ∃ a4 a5 a6 a7 a8 a9, σ = [.vl (.tup bs), .vl (.int num), .vl (.int behind), .ol (rowsG (oneR (fun x => x) (rowsD (fun x => x) d) (manyN d)) (one1 d) num behind bs i), a4, a5, a6, a7, a8, a9]) ⟨rfl, _, _, _, _, _, _, rfl⟩ (fun i hi σ h' ⟨eh, a4, a5, a6, a7, a8, a9, eσ⟩ => ?_) (fun σ h' ⟨eh, a4, a5, a6, a7, a8, a9, eσ⟩ => ?_)
    · subst eh eσ
      have hi' : i < bs.length := by rw [enA_len] at hi; exact hi
      rw [enA_at hi, Nat.zero_add]
      refine ⟨_, rfl, ?_⟩
      have hbm : bs[i] ∈ bs := List.getElem_mem hi'
      have eN : rowsG (oneR (fun x => x) (rowsD (fun x => x) d) (manyN d)) (one1 d) num behind bs (i + 1) = rowsG (oneR (fun x => x) (rowsD (fun x => x) d) (manyN d)) (one1 d) num behind bs i ++ oneR (fun x => x) (rowsD (fun x => x) d) (manyN d) bs[i] (num + (rowsG (oneR (fun x => x) (rowsD (fun x => x) d) (manyN d)) (one1 d) num behind bs i).length) (if i + 1 < bs.length then num + (rowsG (oneR (fun x => x) (rowsD (fun x => x) d) (manyN d)) (one1 d) num behind bs i).length + one1 d bs[i] else behind) := by
        simp only [rowsG, List.getElem?_eq_getElem hi']
      have lN := rowsG_len (num := num) (behind := behind) (oneR_len (m := fun x => x) hs) (i + 1) (by omega)
      have lN2 : ((bs.take (i + 1)).map (one1 d)).sum ≤ 40 := Nat.le_trans (sum_take (one1 d) bs (i + 1)) hm
      have hs1 := hs _ hbm
      have hm1 := Nat.le_trans (one_le (d := d) hbm) hm
      have q2 : callN T (k + (d + 1) + 2) (Str.ofString "_law_many") [.tup [bs[i]]] h' = .ok (.int (one1 d bs[i])) h' := by
        have := c_law_many (T := T) (d + 1) (k + 1) (.tup [bs[i]]) h' (blk_one hb hbm)
        rw [one_many] at this
        rwa [show k + 1 + (d + 1) + 1 = k + (d + 1) + 2 by omega] at this
      have hol := oneR_len (m := fun x => x) hs _ hbm
      rw [eN] at lN ⊢
      generalize bs[i] = b at q2 hs1 hm1 lN hol
      generalize rowsG (oneR (fun x => x) (rowsD (fun x => x) d) (manyN d)) (one1 d) num behind bs i = rows at lN
      rw [List.length_append, hol] at lN
      have hs1' := rowsG_len (num := num) (behind := behind) (oneR_len (m := fun x => x) hs) i (by omega)
      have st := flat_step (T := T) (cn := cn) (a := a) d k (fun bs num behind h hb hm => c_law_flat d k bs num behind h hb hm) hs1 rows
      change Rs.Ok (evSs _ (_ :: _ :: stepSs) _ _) _
      (try simp (disch := first | omega | assumption | (simp only [List.length_cons, List.length_nil, List.length_append, List.length_map]; omega) | decide) only [↓WA, WB, if_true, if_false, peek, hasTys, hasTy, wipeA, tgSlots, tgsSlots, cmpSlots, List.replicate, Nat.reduceAdd, Nat.reduceSub, Nat.reduceLT, Nat.reduceLeDiff])
      refine Br_dec (fun c => ?_) (fun c => ?_)
      · rw [if_pos (show i + 1 < bs.length by omega)]
        (try simp (disch := first | omega | assumption | (simp only [List.length_cons, List.length_nil, List.length_append, List.length_map]; omega) | decide) only [↓WA, WB, if_true, if_false, peek, hasTys, hasTy, wipeA, tgSlots, tgsSlots, cmpSlots, List.replicate, Nat.reduceAdd, Nat.reduceSub, Nat.reduceLT, Nat.reduceLeDiff, q2])
        refine (st (by omega) _ _ _ _ _ _ (num + rows.length) (num + rows.length + one1 d b) h').mono fun f h2 ⟨eh, b8, b9, ef⟩ => ?_
        subst eh ef
        (try simp (disch := first | omega | assumption | (simp only [List.length_cons, List.length_nil, List.length_append, List.length_map]; omega) | decide) only [↓WA, WB, if_true, if_false, peek, hasTys, hasTy, wipeA, tgSlots, tgsSlots, cmpSlots, List.replicate, Nat.reduceAdd, Nat.reduceSub, Nat.reduceLT, Nat.reduceLeDiff])
        exact ⟨_, _, _, _, _, _, rfl⟩
      · rw [if_neg (show ¬ i + 1 < bs.length by omega)]
        (try simp (disch := first | omega | assumption | (simp only [List.length_cons, List.length_nil, List.length_append, List.length_map]; omega) | decide) only [↓WA, WB, if_true, if_false, peek, hasTys, hasTy, wipeA, tgSlots, tgsSlots, cmpSlots, List.replicate, Nat.reduceAdd, Nat.reduceSub, Nat.reduceLT, Nat.reduceLeDiff, q2])
        refine (st (by omega) _ _ _ _ _ _ (num + rows.length) behind h').mono fun f h2 ⟨eh, b8, b9, ef⟩ => ?_
        subst eh ef
        (try simp (disch := first | omega | assumption | (simp only [List.length_cons, List.length_nil, List.length_append, List.length_map]; omega) | decide) only [↓WA, WB, if_true, if_false, peek, hasTys, hasTy, wipeA, tgSlots, tgsSlots, cmpSlots, List.replicate, Nat.reduceAdd, Nat.reduceSub, Nat.reduceLT, Nat.reduceLeDiff])
        exact ⟨_, _, _, _, _, _, rfl⟩
    · subst eh eσ
      rw [enA_len]
      (try simp (disch := first | omega | assumption | (simp only [List.length_cons, List.length_nil, List.length_append, List.length_map]; omega) | decide) only [↓WA, WB, if_true, if_false, peek, hasTys, hasTy, wipeA, tgSlots, tgsSlots, cmpSlots, List.replicate, Nat.reduceAdd, Nat.reduceSub, Nat.reduceLT, Nat.reduceLeDiff])
      rfl
def tellA : AV := .tup [.str "tell", .str "a"]
def innA : AV := .tup [.str "if", .str "a", .tup [], .tup [.tup [.str "while", .str "b", .tup []]]]
def ends1 : List AV := [.tup [.tup [.str "while", .str "a", .tup []]], .tup [.tup [.str "if", .str "a", .tup [], .tup []]], .tup [.tup [.str "if", .str "a", .tup [tellA], .tup []], tellA], .tup [innA, innA]]
def ends2 : List AV := [.tup [.tup [.str "while", .str "a", .tup [innA, .tup [.str "while", .str "b", .tup [tellA, .tup [.str "if", .str "b", .tup [], .tup [tellA]]]]]]], .tup [], .tup [tellA, tellA], .tup [.tup [.str "if", .str "b", .tup [innA], .tup [tellA]]]]
theorem c_ends [FlatL T] (k : Nat) (h : AH) : callN T (k + 1) (Str.ofString "_law_ends_of_blocks") [] h = .ok (.lst [.tup [.tup [], .tup ends1], .tup [.tup [], .tup ends2]]) h := by
  rw [callN_step FlatL.law_ends_of_blocks]
  refine Ok_eq (w_run rfl ?_)
  (try simp (disch := first | omega | assumption | (simp only [List.length_cons, List.length_nil, List.length_append, List.length_map]; omega) | decide) only [↓WA, WB, if_true, if_false, peek, hasTys, hasTy, wipeA, tgSlots, tgsSlots, cmpSlots, List.replicate, Nat.reduceAdd, Nat.reduceSub, Nat.reduceLT, Nat.reduceLeDiff, f_law_ends_of_blocks])
  kernel_rfl
theorem net1 : Net (.tup [.tup [], .tup ends1]) [] ends1 := ⟨rfl, ⟨by simp, by simp⟩, by decide, by decide, fun i hi => by
  have : i = 0 ∨ i = 1 ∨ i = 2 ∨ i = 3 := by simp [ends1] at hi; omega
  rcases this with rfl | rfl | rfl | rfl <;> exact ⟨by kernel_rfl, Nat.le_of_ble_eq_true (by kernel_rfl)⟩⟩
theorem net2 : Net (.tup [.tup [], .tup ends2]) [] ends2 := ⟨rfl, ⟨by simp, by simp⟩, by decide, by decide, fun i hi => by
  have : i = 0 ∨ i = 1 ∨ i = 2 ∨ i = 3 := by simp [ends2] at hi; omega
  rcases this with rfl | rfl | rfl | rfl <;> exact ⟨by kernel_rfl, Nat.le_of_ble_eq_true (by kernel_rfl)⟩⟩
theorem gd12 : gd 0 10 (.tup [.tup [], .tup ends1]) = true ∧ gd 0 10 (.tup [.tup [], .tup ends2]) = true := by decide +kernel
theorem c_law_marked [FlatL T] (k : Nat) (h : AH) {w : Str} {ps : List AV} {nx : AV} (hl : ps.length ≤ 4) : callN T (k + 1) (Str.ofString "_law_marked") [.tup [.tup (.str w :: ps), nx]] h = .ok (mkRow (.tup [.tup (.str w :: ps), nx])) h := by
  rw [callN_step FlatL.law_marked]
  refine Ok_eq (w_run rfl ?_)
  have e2 : opC .mem (.str w) (.tup [(.str "let"), (.str "hang"), (.str "pick"), (.str "send")]) h = some (markB w) := by
    simp only [opC, items, Option.bind_some, pyIn, eqD_str, Option.map_some, markB]
  (try simp (disch := first | omega | assumption | (simp only [List.length_cons, List.length_nil, List.length_append, List.length_map]; omega) | decide) only [↓WA, WB, if_true, if_false, peek, hasTys, hasTy, wipeA, tgSlots, tgsSlots, cmpSlots, List.replicate, Nat.reduceAdd, Nat.reduceSub, Nat.reduceLT, Nat.reduceLeDiff, f_law_marked, e2])
  refine Br_of (fun c => ?_) (fun c => ?_) <;> (try simp (disch := first | omega | assumption | (simp only [List.length_cons, List.length_nil, List.length_append, List.length_map]; omega) | decide) only [↓WA, WB, if_true, if_false, peek, hasTys, hasTy, wipeA, tgSlots, tgsSlots, cmpSlots, List.replicate, Nat.reduceAdd, Nat.reduceSub, Nat.reduceLT, Nat.reduceLeDiff])
  · simp only [mkRow, dedOf]; rw [if_pos c]; rfl
  · simp only [mkRow, dedOf]; rw [if_neg (by simp [c])]
theorem sc_wt {x : AV} (h : isSc x = true) : wt x ≤ 200 := by cases x <;> first | (simp [wt]; done) | (simp [isSc] at h)
theorem wts_sum1 {f : AV → Nat} : ∀ {xs : List AV}, (∀ x ∈ xs, wt x + 2 ≤ f x) → wts xs ≤ (xs.map f).sum
  | [], _ => by simp [wts]
  | x :: xs, h => by
    have := h x (by simp)
    have := wts_sum1 fun y q => h y (List.mem_cons_of_mem _ q)
    simp only [wts, List.map_cons, List.sum_cons]; omega
theorem sum_mul (f : AV → Nat) (c : Nat) : ∀ xs : List AV, (xs.map fun x => c * f x).sum = c * (xs.map f).sum
  | [] => rfl
  | x :: xs => by simp only [List.map_cons, List.sum_cons, sum_mul f c xs, Nat.mul_add]
theorem blk_wt : ∀ {d : Nat} {bs : List AV}, blkB cn a d (.tup bs) = true → wt (.tup bs) ≤ 1400 * manyN d (.tup bs) + 3
  | 0, bs, h => by simp [blkB] at h
  | d + 1, bs, h => by
    obtain ⟨h1, h2⟩ := blk_shp h
    have := wts_sum1 (f := fun x => 1400 * one1 d x) (xs := bs) fun b hb => by
      cases h2 b hb with
      | ife z p q hz hp hq =>
        have e2 : blksOf (.tup [.str "if", z, .tup p, .tup q]) = [.tup p, .tup q] := rfl
        have wp := blk_wt hp
        have wq := blk_wt hq
        have wz := sc_wt (nm_sc hz)
        simp only [one1, e2, List.map_cons, List.map_nil, List.sum_cons, List.sum_nil]
        simp only [wt, wts] at wp wq ⊢; omega
      | whi z p hz hp =>
        have e2 : blksOf (.tup [.str "while", z, .tup p]) = [.tup p] := rfl
        have wp := blk_wt hp
        have wz := sc_wt (nm_sc hz)
        simp only [one1, e2, List.map_cons, List.map_nil, List.sum_cons, List.sum_nil]
        simp only [wt, wts] at wp ⊢; omega
      | ded w ps q1 q2 q3 q4 =>
        have hs := ded_sc q1 q2 q3
        have := wts_bd (c := 200) (xs := ps) fun x hx => sc_wt (hs x hx)
        simp only [one1, wt, wts]; omega
    rw [sum_mul] at this
    rw [many_len]
    simp only [wt]; omega
theorem net_wt {v : AV} {cs : List (Int × Int)} {bs : List AV} (N : Net v cs bs) : wt v ≤ 400000 := by
  obtain ⟨rfl, hc, l1, l4, hb⟩ := N
  have h1 := wts_bd (c := 60000) (xs := bs) fun x hx => by
    obtain ⟨i, hi, rfl⟩ := List.getElem_of_mem hx
    obtain ⟨b1, b2⟩ := hb i hi
    obtain ⟨p, ep⟩ := blk_tup b1
    rw [ep] at b1 b2 ⊢
    have := blk_wt b1
    omega
  have h2 := wts_bd (c := 410) (xs := cs.map fun p => AV.tup [.int p.1, .int p.2]) fun x hx => by
    obtain ⟨p, _, rfl⟩ := List.mem_map.mp hx
    simp [wt, wts]
  rw [List.length_map] at h2
  have := hc.1
  simp only [cnV, wt, wts]; omega
theorem net_repr {D : Nat} {v : AV} {cs : List (Int × Int)} {bs : List AV} (N : Net v cs bs) (hv : gd 0 D v = true) (hD : D ≤ 20) : ∃ t, opRepr v = some t := repr_some (g := 0) (by omega) (by omega) hv (by have := net_wt N; omega)
theorem rows_shape : ∀ {d : Nat} {bs : List AV} {num behind : Int}, blkB cn a d (.tup bs) = true → ∀ r ∈ rowsD (fun x => x) d bs num behind, ∃ w ps nx, r = .tup [.tup (.str w :: ps), nx] ∧ ps.length ≤ 4
  | 0, bs, num, behind, h => by simp [blkB] at h
  | d + 1, bs, num, behind, h => by
    obtain ⟨h1, h2⟩ := blk_shp h
    intro r hr
    simp only [rowsD] at hr
    obtain ⟨b, hb, x, y, hr2, _⟩ := rowsG_mem (oneR_len (m := fun x => x) h2) (fun b hb => by simp only [one1]; omega) _ (Nat.le_refl _) hr
    cases h2 b hb with
    | ife z p q hz hp hq =>
      have e : oneR (fun x => x) (rowsD (fun x => x) d) (manyN d) (.tup [.str "if", z, .tup p, .tup q]) x y = .tup [.tup [.str "test", z], .tup [.int (nextI p (x + 1) y), .int (nextI q (x + 1 + manyN d (.tup p)) y)]] :: (rowsD (fun x => x) d p (x + 1) y ++ rowsD (fun x => x) d q (x + 1 + manyN d (.tup p)) y) := rfl
      rw [e, List.mem_cons, List.mem_append] at hr2
      rcases hr2 with rfl | hr2 | hr2
      · exact ⟨_, [z], _, rfl, by simp⟩
      · exact rows_shape hp r hr2
      · exact rows_shape hq r hr2
    | whi z p hz hp =>
      have e : oneR (fun x => x) (rowsD (fun x => x) d) (manyN d) (.tup [.str "while", z, .tup p]) x y = .tup [.tup [.str "test", z], .tup [.int (nextI p (x + 1) x), .int y]] :: rowsD (fun x => x) d p (x + 1) x := rfl
      rw [e, List.mem_cons] at hr2
      rcases hr2 with rfl | hr2
      · exact ⟨_, [z], _, rfl, by simp⟩
      · exact rows_shape hp r hr2
    | ded w ps q1 q2 q3 q4 =>
      rw [oneR_ded q1 q2, List.mem_singleton] at hr2
      subst hr2
      exact ⟨w, ps, _, rfl, q4⟩
def lapB : List Stm := [(.pars [5, 6] [true, false] [(.lst []), (.bi .repr [(.var 4)])]), (.for (.nm 7) (.sq (.sub (.var 4) (.c (.int 1)))) [(.app 5 (.bi .tuple [(.comp (.cl (.nm 10) (.sq (.call "_law_flat" [(.var 7), (.c (.int 0)), (.neg (.c (.int 1)))])) [] (.elt (.call "_law_marked" [(.var 10)]))))]))]), (.for (.nm 8) (.rg (.c (.int 0)) (.c (.int 2))) [(.set 9 (.call "flat" [(.var 4)])), (.ife (.or (.e (.cmp .ne (.bi .repr [(.var 9)]) (.bi .repr [(.bi .tuple [(.var 5)])]))) (.e (.cmp .isn (.callK "is_code" [(.var 9), (.var 4)] [1, 0]) (.c (.bl true))))) [(.ret (.c (.bl false)))] []), (.ife (.e (.cmp .isn (.callK "is_own" [(.var 9), (.var 4)] [1, 0]) (.c (.bl true)))) [(.ret (.c (.bl false)))] [])]), (.ife (.or (.e (.cmp .ne (.bi .repr [(.callK "flat" [(.var 4)] [0])]) (.bi .repr [(.var 9)]))) (.e (.cmp .ne (.bi .repr [(.var 4)]) (.var 6)))) [(.ret (.c (.bl false)))] [])]
theorem lap_ok [FlatL T] {v : AV} {cs : List (Int × Int)} {bs : List AV} (N : Net v cs bs) (hv : gd 0 10 v = true) (s0 s1 s2 s3 a5 a6 a7 a8 a9 a10 : Sv) (h : AH) :
    Rs.Ok (evSs (callN T 39) lapB [s0, s1, s2, s3, .vl v, a5, a6, a7, a8, a9, a10] h) fun f h1 => h1 = h ∧ ∃ b5 b6 b7 b8 b9 b10, f = .nx [s0, s1, s2, s3, .vl v, b5, b6, b7, b8, b9, b10] := by
  obtain ⟨t, et⟩ := net_repr N hv (by omega)
  obtain ⟨t2, et2⟩ := flat_repr N hv (by omega)
  have q1 : callN T 39 (Str.ofString "flat") [v] h = _ := c_flat (T := T) 26 N h hv
  have q2 : callN T 39 (Str.ofString "is_code") [v, flatV bs] h = _ := c_code (T := T) 26 N h hv (by omega)
  have q3 : callN T 39 (Str.ofString "is_own") [v, flatV bs] h = _ := c_own (T := T) 26 N h hv (by omega)
  have l4 := N.l4
  have hb := N.blk
  have ev := N.eq
  have e1 : opSub v (.int 1) h = some (.tup bs) := by rw [ev]; rfl
  clear ev
  have ef : flatV bs = .tup (bs.map (rowsV dedOf)) := rfl
  (try simp (disch := first | omega | assumption | (simp only [List.length_cons, List.length_nil, List.length_append, List.length_map]; omega) | decide) only [↓WA, WB, if_true, if_false, peek, hasTys, hasTy, wipeA, tgSlots, tgsSlots, cmpSlots, List.replicate, Nat.reduceAdd, Nat.reduceSub, Nat.reduceLT, Nat.reduceLeDiff, lapB, et, e1])
  refine w_for (fun i σ h' => h' = h ∧ ∃ b7 b8 b9 b10, σ = [s0, s1, s2, s3, .vl v, .ol ((bs.take i).map (rowsV dedOf)), .vl (.str t), b7, b8, b9, b10]) ⟨rfl, _, _, _, _, rfl⟩ (fun i hi σ h' ⟨eh, b7, b8, b9, b10, eσ⟩ => ?_) (fun σ h' ⟨eh, b7, b8, b9, b10, eσ⟩ => ?_)
  · subst eh eσ
    refine ⟨_, asg_nm (by simp), ?_⟩
    obtain ⟨c1, c2⟩ := hb i hi
    rw [List.take_succ_eq_append_getElem hi, List.map_append, List.map_cons, List.map_nil]
    generalize bs[i] = b at c1 c2
    obtain ⟨p, rfl⟩ := blk_tup c1
    have r1 : callN T 39 (Str.ofString "_law_flat") [.tup p, .int 0, .int (-1)] h' = _ := c_law_flat (T := T) 4 32 p 0 (-1) h' c1 c2
    have em := rows_map (num := 0) (behind := -1) c1
    have l := rows_len (m := fun x => x) (num := 0) (behind := -1) c1
    (try simp (disch := first | omega | assumption | (simp only [List.length_cons, List.length_nil, List.length_append, List.length_map]; omega) | decide) only [↓WA, WB, if_true, if_false, peek, hasTys, hasTy, wipeA, tgSlots, tgsSlots, cmpSlots, List.replicate, Nat.reduceAdd, Nat.reduceSub, Nat.reduceLT, Nat.reduceLeDiff, r1])
    refine w_map mkRow (fun x hx => ?_) ?_
    · obtain ⟨w, ps, nx, rfl, hl⟩ := rows_shape c1 x hx
      refine ⟨_, asg_nm (by simp), ?_⟩
      have r2 : callN T 39 (Str.ofString "_law_marked") [.tup [.tup (.str w :: ps), nx]] h' = _ := c_law_marked (T := T) 38 h' hl
      (try simp (disch := first | omega | assumption | (simp only [List.length_cons, List.length_nil, List.length_append, List.length_map]; omega) | decide) only [↓WA, WB, if_true, if_false, peek, hasTys, hasTy, wipeA, tgSlots, tgsSlots, cmpSlots, List.replicate, Nat.reduceAdd, Nat.reduceSub, Nat.reduceLT, Nat.reduceLeDiff, w_bodyC, r2])
    · rw [em]
      have l' := rows_len (m := dedOf) (num := 0) (behind := -1) c1
      have li : (bs.take i).length ≤ 4 := by simp; omega
      (try simp (disch := first | omega | assumption | (simp only [List.length_cons, List.length_nil, List.length_append, List.length_map]; omega) | decide) only [↓WA, WB, if_true, if_false, peek, hasTys, hasTy, wipeA, tgSlots, tgsSlots, cmpSlots, List.replicate, Nat.reduceAdd, Nat.reduceSub, Nat.reduceLT, Nat.reduceLeDiff])
      exact ⟨_, _, _, _, rfl⟩
  · subst eh eσ
    rw [List.take_length]
    rw [ef] at q1 q2 q3 et2
    generalize bs.map (rowsV dedOf) = rs at q1 q2 q3 et2
    (try simp (disch := first | omega | assumption | (simp only [List.length_cons, List.length_nil, List.length_append, List.length_map]; omega) | decide) only [↓WA, WB, if_true, if_false, peek, hasTys, hasTy, wipeA, tgSlots, tgsSlots, cmpSlots, List.replicate, Nat.reduceAdd, Nat.reduceSub, Nat.reduceLT, Nat.reduceLeDiff])
    refine ⟨by omega, ?_⟩
    refine w_for (fun i σ h'' => h'' = h' ∧ ∃ b7 b8 b9 b10, σ = [s0, s1, s2, s3, .vl v, .ol rs, .vl (.str t), b7, b8, b9, b10] ∧ (0 < i → b9 = .vl (.tup rs))) ⟨rfl, _, _, _, _, rfl, by simp⟩ (fun i hi σ h'' ⟨eh, b7, b8, b9, b10, eσ, e9⟩ => ?_) (fun σ h'' ⟨eh, b7, b8, b9, b10, eσ, e9⟩ => ?_)
    · subst eh eσ
      refine ⟨_, asg_nm (by simp), ?_⟩
      (try simp (disch := first | omega | assumption | (simp only [List.length_cons, List.length_nil, List.length_append, List.length_map]; omega) | decide) only [↓WA, WB, if_true, if_false, peek, hasTys, hasTy, wipeA, tgSlots, tgsSlots, cmpSlots, List.replicate, Nat.reduceAdd, Nat.reduceSub, Nat.reduceLT, Nat.reduceLeDiff, q1, q2, q3, et2])
      exact ⟨_, _, _, _, rfl, fun _ => rfl⟩
    · subst eh eσ
      have e9' := e9 (by rw [show (rangeA 0 2).length = 2 from rfl]; omega)
      subst e9'
      (try simp (disch := first | omega | assumption | (simp only [List.length_cons, List.length_nil, List.length_append, List.length_map]; omega) | decide) only [↓WA, WB, if_true, if_false, peek, hasTys, hasTy, wipeA, tgSlots, tgsSlots, cmpSlots, List.replicate, Nat.reduceAdd, Nat.reduceSub, Nat.reduceLT, Nat.reduceLeDiff, q1, et2, et])
      exact ⟨_, _, _, _, _, _, rfl⟩
theorem opInt_b {b : Bool} {h : AH} : opBi .int [.bl b] h = .ok (.int (if b then 1 else 0)) h := by cases b <;> rfl
def NetOk (v : AV) : Prop := ∃ cs bs, Net v cs bs ∧ gd 0 10 v = true
def cellB : List Stm := [(.set 2 (.call "_law_state" [(.var 0), (.var 1)])), (.set 3 (.lst [(.call "_law_net" [(.var 2), (.c (.int 4)), (.c (.int 8))]), (.call "_law_net" [(.var 2), (.c (.int 2)), (.c (.int 3))])])), (.for (.nm 4) (.sq (.bin .add (.var 3) (.slice (.call "_law_ends_of_blocks" []) none (some (.bin .mul (.c (.int 2)) (.bi .int [(.cmp .eq (.var 1) (.c (.int 0)))])))))) lapB)]
theorem cell_ok [FlatL T] (ns : List Int) (i : Nat) (h : AH) (a2 a3 a4 a5 a6 a7 a8 a9 a10 : Sv) :
    Rs.Ok (evSs (callN T 39) cellB [.vl (.scr ns), .vl (.int i), a2, a3, a4, a5, a6, a7, a8, a9, a10] h) fun f h1 => ∃ b1 b2 b3 b4 b5 b6 b7 b8 b9 b10, f = .nx [.vl (.scr ns), b1, b2, b3, b4, b5, b6, b7, b8, b9, b10] := by
  (try simp (disch := first | omega | assumption | (simp only [List.length_cons, List.length_nil, List.length_append, List.length_map]; omega) | decide) only [↓WA, WB, if_true, if_false, peek, hasTys, hasTy, wipeA, tgSlots, tgsSlots, cmpSlots, List.replicate, Nat.reduceAdd, Nat.reduceSub, Nat.reduceLT, Nat.reduceLeDiff, cellB])
  refine (c_state (T := T) ns i 37 h).mono fun v h1 ⟨ev, c, eh, s⟩ => ?_
  subst ev
  (try simp (disch := first | omega | assumption | (simp only [List.length_cons, List.length_nil, List.length_append, List.length_map]; omega) | decide) only [↓WA, WB, if_true, if_false, peek, hasTys, hasTy, wipeA, tgSlots, tgsSlots, cmpSlots, List.replicate, Nat.reduceAdd, Nat.reduceSub, Nat.reduceLT, Nat.reduceLeDiff])
  refine (c_law_net (T := T) 31 s 4 8 (by omega) (by omega)).mono fun v1 h2 ⟨s2, n1⟩ => ?_
  (try simp (disch := first | omega | assumption | (simp only [List.length_cons, List.length_nil, List.length_append, List.length_map]; omega) | decide) only [↓WA, WB, if_true, if_false, peek, hasTys, hasTy, wipeA, tgSlots, tgsSlots, cmpSlots, List.replicate, Nat.reduceAdd, Nat.reduceSub, Nat.reduceLT, Nat.reduceLeDiff])
  refine (c_law_net (T := T) 31 s2 2 3 (by omega) (by omega)).mono fun v2 h3 ⟨s3, n2⟩ => ?_
  have q := c_ends (T := T) 38 h3
  have fin : ∀ (ws : List AV) (h4 : AH), (∀ w ∈ ws, NetOk w) → Rs.Ok (forL (.nm 4) (evSs (callN T 39) lapB) ws [.vl (.scr ns), .vl (.int i), .vl (.ref h.length), .vl (.lst [v1, v2]), a4, a5, a6, a7, a8, a9, a10] h4) fun f h1 => ∃ b1 b2 b3 b4 b5 b6 b7 b8 b9 b10, f = .nx [.vl (.scr ns), b1, b2, b3, b4, b5, b6, b7, b8, b9, b10] := by
    intro ws h4 hw
    refine w_for (fun i σ h' => ∃ b1 b2 b3 b4 b5 b6 b7 b8 b9 b10, σ = [.vl (.scr ns), b1, b2, b3, b4, b5, b6, b7, b8, b9, b10]) ⟨_, _, _, _, _, _, _, _, _, _, rfl⟩ (fun j hj σ h' ⟨b1, b2, b3, b4, b5, b6, b7, b8, b9, b10, eσ⟩ => ?_) (fun σ h' ⟨b1, b2, b3, b4, b5, b6, b7, b8, b9, b10, eσ⟩ => ?_)
    · subst eσ
      refine ⟨_, asg_nm (by simp), ?_⟩
      obtain ⟨cs, bs, N, hv⟩ := hw ws[j] (List.getElem_mem hj)
      refine (lap_ok (T := T) N hv (.vl (.scr ns)) b1 b2 b3 b5 b6 b7 b8 b9 b10 h').mono fun f h5 ⟨eh, c5, c6, c7, c8, c9, c10, ef⟩ => ?_
      subst ef
      exact ⟨_, _, _, _, _, _, _, _, _, _, rfl⟩
    · subst eσ
      exact ⟨_, _, _, _, _, _, _, _, _, _, rfl⟩
  by_cases hi : i = 0
  · subst hi
    have m1 : opB .mul (.int 2) (.int (if decide (((0 : Nat) : Int) = 0) = true then 1 else 0)) h3 = .ok (.int 2) h3 := rfl
    have m2 : cutL [AV.tup [AV.tup [], AV.tup ends1], AV.tup [AV.tup [], AV.tup ends2]] none (some 2) = [AV.tup [AV.tup [], AV.tup ends1], AV.tup [AV.tup [], AV.tup ends2]] := rfl
    (try simp (disch := first | omega | assumption | (simp only [List.length_cons, List.length_nil, List.length_append, List.length_map]; omega) | decide) only [↓WA, WB, if_true, if_false, peek, hasTys, hasTy, wipeA, tgSlots, tgsSlots, cmpSlots, List.replicate, Nat.reduceAdd, Nat.reduceSub, Nat.reduceLT, Nat.reduceLeDiff, q, opInt_b, m1, m2])
    refine (fin _ h3 ?_).mono fun f h5 ⟨b1, b2, b3, b4, b5, b6, b7, b8, b9, b10, ef⟩ => ?_
    · intro w hw
      simp only [List.cons_append, List.nil_append, List.append_nil, List.mem_cons, List.not_mem_nil, or_false] at hw
      rcases hw with rfl | rfl | rfl | rfl
      · exact n1
      · exact n2
      · exact ⟨_, _, net1, gd12.1⟩
      · exact ⟨_, _, net2, gd12.2⟩
    · subst ef
      (try simp (disch := first | omega | assumption | (simp only [List.length_cons, List.length_nil, List.length_append, List.length_map]; omega) | decide) only [↓WA, WB, if_true, if_false, peek, hasTys, hasTy, wipeA, tgSlots, tgsSlots, cmpSlots, List.replicate, Nat.reduceAdd, Nat.reduceSub, Nat.reduceLT, Nat.reduceLeDiff])
      exact ⟨_, _, _, _, _, _, _, _, _, _, rfl⟩
  · have m1 : opB .mul (.int 2) (.int (if decide ((i : Int) = 0) = true then 1 else 0)) h3 = .ok (.int 0) h3 := by rw [if_neg (by simp; omega)]; rfl
    have m2 : cutL [AV.tup [AV.tup [], AV.tup ends1], AV.tup [AV.tup [], AV.tup ends2]] none (some 0) = [] := rfl
    (try simp (disch := first | omega | assumption | (simp only [List.length_cons, List.length_nil, List.length_append, List.length_map]; omega) | decide) only [↓WA, WB, if_true, if_false, peek, hasTys, hasTy, wipeA, tgSlots, tgsSlots, cmpSlots, List.replicate, Nat.reduceAdd, Nat.reduceSub, Nat.reduceLT, Nat.reduceLeDiff, q, opInt_b, m1, m2])
    refine (fin _ h3 ?_).mono fun f h5 ⟨b1, b2, b3, b4, b5, b6, b7, b8, b9, b10, ef⟩ => ?_
    · intro w hw
      simp only [List.cons_append, List.nil_append, List.append_nil, List.mem_cons, List.not_mem_nil, or_false] at hw
      rcases hw with rfl | rfl
      · exact n1
      · exact n2
    · subst ef
      (try simp (disch := first | omega | assumption | (simp only [List.length_cons, List.length_nil, List.length_append, List.length_map]; omega) | decide) only [↓WA, WB, if_true, if_false, peek, hasTys, hasTy, wipeA, tgSlots, tgsSlots, cmpSlots, List.replicate, Nat.reduceAdd, Nat.reduceSub, Nat.reduceLT, Nat.reduceLeDiff])
      exact ⟨_, _, _, _, _, _, _, _, _, _, rfl⟩
theorem law_true [FlatL T] (ns : List Int) : Rs.Ok (callN T 40 (Str.ofString "law") [.scr ns] []) fun v h => v = .bl true := by
  rw [callN_step FlatL.law]
  refine w_run rfl ?_
  (try simp (disch := first | omega | assumption | (simp only [List.length_cons, List.length_nil, List.length_append, List.length_map]; omega) | decide) only [↓WA, WB, if_true, if_false, peek, hasTys, hasTy, wipeA, tgSlots, tgsSlots, cmpSlots, List.replicate, Nat.reduceAdd, Nat.reduceSub, Nat.reduceLT, Nat.reduceLeDiff, f_law])
  refine ⟨by split <;> split <;> omega, ?_⟩
  refine w_for (fun j σ h' => ∃ b1 b2 b3 b4 b5 b6 b7 b8 b9 b10, σ = [.vl (.scr ns), b1, b2, b3, b4, b5, b6, b7, b8, b9, b10]) ⟨_, _, _, _, _, _, _, _, _, _, rfl⟩ (fun j hj σ h' ⟨b1, b2, b3, b4, b5, b6, b7, b8, b9, b10, eσ⟩ => ?_) (fun σ h' ⟨b1, b2, b3, b4, b5, b6, b7, b8, b9, b10, eσ⟩ => ?_)
  · subst eσ
    refine ⟨_, asg_nm (by simp), ?_⟩
    rw [rangeA_at, Int.zero_add]
    refine (cell_ok (T := T) ns j h' b2 b3 b4 b5 b6 b7 b8 b9 b10).mono fun f h2 ⟨c1, c2, c3, c4, c5, c6, c7, c8, c9, c10, ef⟩ => ?_
    subst ef
    exact ⟨_, _, _, _, _, _, _, _, _, _, rfl⟩
  · subst eσ
    (try simp (disch := first | omega | assumption | (simp only [List.length_cons, List.length_nil, List.length_append, List.length_map]; omega) | decide) only [↓WA, WB, if_true, if_false, peek, hasTys, hasTy, wipeA, tgSlots, tgsSlots, cmpSlots, List.replicate, Nat.reduceAdd, Nat.reduceSub, Nat.reduceLT, Nat.reduceLeDiff])
end
end S

set_option linter.all false
set_option maxRecDepth 100000
set_option maxHeartbeats 4000000
namespace K12
open PySem G S
def T : Tab := tabOf ds
instance : Core T := ⟨by kernel_rfl, by kernel_rfl⟩
instance : Nets T := ⟨by kernel_rfl, by kernel_rfl, by kernel_rfl, by kernel_rfl, by kernel_rfl, by kernel_rfl, by kernel_rfl, by kernel_rfl, by kernel_rfl, by kernel_rfl, by kernel_rfl, by kernel_rfl, by kernel_rfl, by kernel_rfl⟩
instance : Draw T := ⟨by kernel_rfl, by kernel_rfl, by kernel_rfl⟩
instance : NetL T := ⟨by kernel_rfl, by kernel_rfl, by kernel_rfl, by kernel_rfl, by kernel_rfl⟩
instance : Code T := ⟨by kernel_rfl, by kernel_rfl, by kernel_rfl, by kernel_rfl, by kernel_rfl, by kernel_rfl, by kernel_rfl, by kernel_rfl, by kernel_rfl, by kernel_rfl, by kernel_rfl, by kernel_rfl, by kernel_rfl⟩
instance : FlatL T := ⟨by kernel_rfl, by kernel_rfl, by kernel_rfl, by kernel_rfl, by kernel_rfl, by kernel_rfl, by kernel_rfl, by kernel_rfl, by kernel_rfl, by kernel_rfl, by kernel_rfl, by kernel_rfl, by kernel_rfl, by kernel_rfl, by kernel_rfl, by kernel_rfl, by kernel_rfl⟩
theorem hlaw (ns : List Int) (hl : ns.length ≤ 63) : ∃ h, callN (tabOf ds) 40 d_law.name [.scr ns] [] = .ok (.bl true) h := by
  obtain ⟨v, h, e, rfl⟩ := (law_true (T := T) ns).get
  exact ⟨h, e⟩
end K12

set_option linter.all false
set_option maxRecDepth 100000
set_option maxHeartbeats 0
namespace K12
open PySem PySem.Spec PyProof.Rows L2 G
def loose : List Str := (["GiveError", "NoNet", "NoCode", "is_whole", "is_within", "PLACES", "MOST_NUMBER", "is_number", "SMALL", "CAPITALS", "MOST_SIGNS", "MOST_CHANNELS", "MOST_ACTORS", "MOST_OF_BLOCK", "MOST_BLOCKS", "MOST_STATEMENTS", "OPS", "FORMS", "UNLIKE", "is_number_name", "is_graph_name", "is_op", "is_end_of", "is_part", "has_word", "is_deed", "blocks_in", "is_block"] : List Str) ++ (["many_in", "are_channels", "is_net", "need_net", "END", "MARKS", "MARKED", "BLOCKED", "is_row_deed", "is_row", "are_rows", "is_code_of", "is_code", "need_code", "deed_of", "rows_of_one", "rows_of", "flat_of", "flat", "unmarked", "is_own", "_law_cell_at", "_law_state", "_law_choice", "_law_many", "_law_simple", "_law_block", "_law_ends"] : List Str) ++ (["_law_net", "_law_flat", "_law_marked", "_law_ends_of_blocks"] : List Str)
abbrev R : PySem.W.OpenRow := PySem.W.OpenLaw.row PySem.Challenge.rw_giveway_k12_flat_code
def fn : List He.DefD := ds.map DefI.dd
def fa : List He.Fa := faOf ds bl ++ []
abbrev hk : PySem.W.Hook := hookS 4 fa fn cs kd
def ob (s : PySem.W.SharedT) : AlS := obsS 4 fa fn cs kd (HandSHeadRun.getT s)
theorem ob_eq (s : PySem.W.SharedT) : ob s = hk.obs s.abs := obsS_eq (HandSHeadRun.getT_eq s)
theorem run (w : World) : HandSHeadRun.RunEq R (PySem.W.view R.prog [66]) hk ob 20000 loose w := by
  refine PySem.W.byRow2 "special-get-raises" (P := fun w => HandSHeadRun.RunEq R (PySem.W.view R.prog [66]) hk ob 20000 loose w) (fun w os => ?_) (fun w os => ?_) w <;> kernel_rfl
theorem kwok : ∀ d ∈ ds, ∀ sh ∈ d.kw, KwOk d sh := by
  intro d hd
  simp only [ds, List.mem_append, List.mem_cons, List.not_mem_nil, or_false] at hd
  rcases hd with (rfl | rfl | rfl | rfl | rfl | rfl | rfl | rfl | rfl | rfl | rfl | rfl | rfl | rfl | rfl | rfl | rfl | rfl | rfl | rfl | rfl | rfl | rfl | rfl | rfl | rfl | rfl | rfl) | (rfl | rfl | rfl | rfl | rfl | rfl | rfl | rfl | rfl | rfl | rfl | rfl | rfl)
  · exact fun sh hsh => nomatch hsh
  · exact fun sh hsh => nomatch hsh
  · exact fun sh hsh => nomatch hsh
  · exact fun sh hsh => nomatch hsh
  · exact fun sh hsh => nomatch hsh
  · exact fun sh hsh => nomatch hsh
  · exact fun sh hsh => nomatch hsh
  · exact fun sh hsh => nomatch hsh
  · exact fun sh hsh => nomatch hsh
  · exact fun sh hsh => nomatch hsh
  · exact fun sh hsh => nomatch hsh
  · exact fun sh hsh => nomatch hsh
  · exact fun sh hsh => nomatch hsh
  · exact fun sh hsh => nomatch hsh
  · exact fun sh hsh => nomatch hsh
  · exact fun sh hsh => nomatch hsh
  · exact fun sh hsh => nomatch hsh
  · exact fun sh hsh => nomatch hsh
  · exact fun sh hsh => nomatch hsh
  · exact fun sh hsh => nomatch hsh
  · exact (by
    intro sh hsh
    simp only [d_is_code, List.mem_cons, List.not_mem_nil, or_false] at hsh
    rcases hsh with rfl
    · refine KwEq.ok rfl ?_
      intro kV doc pm an cdv ct us ws l1 l2
      match us, ws, l1, l2 with
      | [], [_, _], _, _ => rfl
)
  · exact fun sh hsh => nomatch hsh
  · exact fun sh hsh => nomatch hsh
  · exact fun sh hsh => nomatch hsh
  · exact fun sh hsh => nomatch hsh
  · exact fun sh hsh => nomatch hsh
  · exact (by
    intro sh hsh
    simp only [d_flat, List.mem_cons, List.not_mem_nil, or_false] at hsh
    rcases hsh with rfl
    · refine KwEq.ok rfl ?_
      intro kV doc pm an cdv ct us ws l1 l2
      match us, ws, l1, l2 with
      | [], [_], _, _ => rfl
)
  · exact fun sh hsh => nomatch hsh
  · exact (by
    intro sh hsh
    simp only [d_is_own, List.mem_cons, List.not_mem_nil, or_false] at hsh
    rcases hsh with rfl
    · refine KwEq.ok rfl ?_
      intro kV doc pm an cdv ct us ws l1 l2
      match us, ws, l1, l2 with
      | [], [_, _], _, _ => rfl
)
  · exact fun sh hsh => nomatch hsh
  · exact fun sh hsh => nomatch hsh
  · exact fun sh hsh => nomatch hsh
  · exact fun sh hsh => nomatch hsh
  · exact fun sh hsh => nomatch hsh
  · exact fun sh hsh => nomatch hsh
  · exact fun sh hsh => nomatch hsh
  · exact fun sh hsh => nomatch hsh
  · exact fun sh hsh => nomatch hsh
  · exact fun sh hsh => nomatch hsh
  · exact fun sh hsh => nomatch hsh
  · exact fun sh hsh => nomatch hsh
theorem posok : ∀ d ∈ ds, plainB d = true ∨ ∀ p ∈ d.pos, PosOk d p := by
  intro d hd
  simp only [ds, List.mem_append, List.mem_cons, List.not_mem_nil, or_false] at hd
  rcases hd with (rfl | rfl | rfl | rfl | rfl | rfl | rfl | rfl | rfl | rfl | rfl | rfl | rfl | rfl | rfl | rfl | rfl | rfl | rfl | rfl | rfl | rfl | rfl | rfl | rfl | rfl | rfl | rfl) | (rfl | rfl | rfl | rfl | rfl | rfl | rfl | rfl | rfl | rfl | rfl | rfl | rfl)
  · exact .inl (by kernel_rfl)
  · exact .inl (by kernel_rfl)
  · exact .inl (by kernel_rfl)
  · exact .inl (by kernel_rfl)
  · exact .inl (by kernel_rfl)
  · exact .inl (by kernel_rfl)
  · exact .inl (by kernel_rfl)
  · exact .inl (by kernel_rfl)
  · exact .inl (by kernel_rfl)
  · exact .inl (by kernel_rfl)
  · exact .inl (by kernel_rfl)
  · exact .inl (by kernel_rfl)
  · exact .inl (by kernel_rfl)
  · exact .inl (by kernel_rfl)
  · exact .inl (by kernel_rfl)
  · exact .inl (by kernel_rfl)
  · exact .inl (by kernel_rfl)
  · exact .inl (by kernel_rfl)
  · exact .inl (by kernel_rfl)
  · exact .inl (by kernel_rfl)
  · exact .inl (by kernel_rfl)
  · exact .inl (by kernel_rfl)
  · exact .inl (by kernel_rfl)
  · exact .inl (by kernel_rfl)
  · exact .inl (by kernel_rfl)
  · exact .inl (by kernel_rfl)
  · exact .inl (by kernel_rfl)
  · exact .inl (by kernel_rfl)
  · exact .inl (by kernel_rfl)
  · exact .inl (by kernel_rfl)
  · exact .inl (by kernel_rfl)
  · exact .inl (by kernel_rfl)
  · exact .inl (by kernel_rfl)
  · exact .inl (by kernel_rfl)
  · exact .inl (by kernel_rfl)
  · exact .inl (by kernel_rfl)
  · exact .inl (by kernel_rfl)
  · exact .inl (by kernel_rfl)
  · exact .inl (by kernel_rfl)
  · exact .inl (by kernel_rfl)
  · exact .inl (by kernel_rfl)
end K12
open PySem PySem.W PySem.Calls PyProof.Rows G
theorem PySem.Challenge.cw_giveway_k12_flat_code_holds : PySem.Challenge.rw_giveway_k12_flat_code.Holds := by
  w_on; o_law
  refine HandSHeadRun.head_any (r := OpenLaw.row PySem.Challenge.rw_giveway_k12_flat_code) (q := view (OpenLaw.row PySem.Challenge.rw_giveway_k12_flat_code).prog [66]) (H := K12.hk) (ob := K12.ob) (M := 20000) (loose := K12.loose) (d := HandSHeadRun.topDef (OpenLaw.row PySem.Challenge.rw_giveway_k12_flat_code).prog 66) (kwd := []) K12.ob_eq
    (by kernel_rfl) (fun s => by kernel_rfl) K12.run (by kernel_rfl) (by kernel_rfl) (by kernel_rfl) (by rfl) (by first | assumption | decide +kernel) (by decide +kernel) ⟨rfl, rfl, rfl, rfl, rfl, by decide +kernel⟩ ?hw ?hc
  case hw => w_witness2
  case hc =>
    exact law_end (l := PySem.Challenge.rw_giveway_k12_flat_code) (k := 40) (n := 63) (x := "_law_script") (ds := K12.ds) (bl := K12.bl) (cs := K12.cs) (kd := K12.kd) (more := []) (dl := K12.d_law) rfl (by kernel_rfl) ⟨rfl, by decide, by decide⟩ (by simp [K12.ds]) (by kernel_rfl) rfl K12.kwok K12.posok (by kernel_rfl) (by decide +kernel) K12.chk K12.hlaw


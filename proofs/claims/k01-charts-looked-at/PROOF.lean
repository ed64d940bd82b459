import PyProof.Rows.All
import Wide.All
import OpenK.AllK
import Wide.FinOn
import HandS.ForMost
import HandS.Walk
import HandS.TupAny
import HandS.TupLe
import HandS.Zip
import HandS.IsInst
import HandS.Style
import HandS.Exc
import HandS.Base
import HandS.Call
import HandS.Ends
import HandS.HeadEnd
import HandS.Defaults
import HandS.Words
import HandS.SetFor
import HandS.Strs
import HandS.Head0
import HandS.Head1
import HandS.Head2
import HandS.HeadHook1
import HandS.HeadHook2
import KE.KStateDown
import Lean
import PySem.Challenge.RW_giveway_k01_charts_looked_at
set_option Elab.async false
set_option linter.all false
set_option maxRecDepth 100000
set_option maxHeartbeats 4000000
/-! GA: abstract values, the small language, its meaning. -/
namespace G
open PySem L2

/-- abstract values: tuples, lists, dicts inline; ref: a cell of the abstract heap; fn: a function (class) of the module; scr: the script -/
inductive AV where
  | non | bl (b : Bool) | int (i : Int) | str (x : Str) | tup (xs : List AV) | lst (xs : List AV) | dct (ks vs : List AV)
  | ref (n : Nat) | fn (x : Str) | scr (ns : List Int)
  deriving Inhabited

/-- what a cell holds -/
inductive Cell where
  | lst (xs : List AV)
  | dK (ks : List Key) (vs : List AV)
  | dT (ks : List (List Key)) (vs : List AV)
  | ins (C : Str) (fs : List (Str × AV))
  deriving Inhabited
abbrev AH := List Cell

/-- an exception: its class, its fields -/
structure Exn where
  cls : Str
  fs : List (Str × AV)

inductive Rs (α : Type) where
  | ok (a : α) (h : AH)
  | ex (x : Exn) (h : AH)
  | no

def Rs.bind {α β : Type} (r : Rs α) (f : α → AH → Rs β) : Rs β := match r with
  | .ok a h => f a h
  | .ex x h => .ex x h
  | .no => .no
@[simp] theorem Rs.bind_ok {α β : Type} (a : α) (h : AH) (f : α → AH → Rs β) : (Rs.ok a h).bind f = f a h := rfl
@[simp] theorem Rs.bind_ex {α β : Type} (x : Exn) (h : AH) (f : α → AH → Rs β) : (Rs.ex x h).bind f = .ex x h := rfl
@[simp] theorem Rs.bind_no {α β : Type} (f : α → AH → Rs β) : (Rs.no : Rs α).bind f = .no := rfl

/-- what a name holds: nothing, a value, a list of one's own -/
inductive Sv where
  | un | vl (x : AV) | ol (xs : List AV)
  deriving Inhabited
abbrev ASt := List Sv
def frz : Sv → Sv
  | .ol xs => .vl (.lst xs)
  | s => s
def frzAt (σ : ASt) : List Nat → ASt
  | [] => σ
  | i :: is => frzAt (match σ[i]? with
    | some s => σ.set i (frz s)
    | none => σ) is

inductive BOp where
  | add | sub | mul | fdiv | mod | pow
inductive COp where
  | lt | le | gt | ge | eq | ne | is | isn | mem | nmem
inductive Ty where
  | int | bool | str | tuple | list | dict

inductive Tgt where
  | nm (i : Nat)
  | tp (ts : List Tgt)

inductive Bi where
  | len | all | any | sum | min | max | sorted | tuple | list | str | int | repr | bool
  deriving DecidableEq

mutual
inductive Exp where
  | c (v : AV)
  | var (i : Nat)
  | bin (o : BOp) (a b : Exp)
  | neg (a : Exp)
  | not (a : Exp)
  | and (a b : Exp)
  | or (a b : Exp)
  | cmp (o : COp) (a b : Exp)
  | chain (o p : COp) (a b c : Exp)
  | ife (t : Tst) (a b : Exp)
  | isi (a : Exp) (ts : List Ty)
  | tup (es : List Exp)
  | lst (es : List Exp)
  | sub (a i : Exp)
  | slice (a : Exp) (lo hi : Option Exp)
  | rev (a : Exp)
  | call (f : Str) (es : List Exp)
  | callK (f : Str) (es : List Exp) (ix : List Nat)
  | dis (ks : List Key) (vs : List AV)
  | upper (a : Exp)
  | sset (a : Exp)
  | bi (f : Bi) (es : List Exp)
  | comp (c : Cmp)
  | cell (e : Exp)
/-- a test -/
inductive Tst where
  | e (e : Exp)
  | and (a b : Tst)
  | or (a b : Tst)
  | not (a : Tst)
/-- a comprehension: its clauses, then its element -/
inductive Cmp where
  | elt (e : Exp)
  | cl (tg : Tgt) (it : Itr) (ifs : List Tst) (c : Cmp)
inductive Itr where
  | sq (e : Exp)
  | rg (a b : Exp)
  | en (e : Exp)
  | zp (a b : Exp)
end

inductive Stm where
  | set (i : Nat) (e : Exp)
  | own (i : Nat) (e : Exp)
  | asg (t : Tgt) (e : Exp)
  | par (i j : Nat) (a b : Exp)
  | sset (o i e : Exp)
  | app (i : Nat) (e : Exp)
  | expr (e : Exp)
  | aug (i : Nat) (o : BOp) (e : Exp)
  | ife (t : Tst) (a b : List Stm)
  | for (tg : Tgt) (it : Itr) (b : List Stm)
  | while (t : Tst) (b : List Stm)
  | ret (e : Exp)
  | retN
  | pass
  | brk
  | cnt
  | frzd (is : List Nat) (s : Stm)
  | never

/-! ### operations on values -/
mutual
/-- == : none where it is not told -/
def pyEq : AV → AV → Option Bool
  | .non, .non => some true
  | .bl a, .bl b => some (a == b)
  | .bl a, .int j => some ((if a then 1 else 0) == j)
  | .int i, .bl b => some (i == (if b then 1 else 0))
  | .int i, .int j => some (i == j)
  | .str x, .str y => some (x == y)
  | .lst xs, .lst ys => if xs.length = ys.length then pyEqs xs ys else some false
  | .tup xs, .tup ys => pyEqs xs ys
  | .non, .bl _ | .non, .int _ | .non, .str _ | .non, .lst _ | .non, .tup _ => some false
  | .bl _, .non | .bl _, .str _ | .bl _, .lst _ | .bl _, .tup _ => some false
  | .int _, .non | .int _, .str _ | .int _, .lst _ | .int _, .tup _ => some false
  | .str _, .non | .str _, .bl _ | .str _, .int _ | .str _, .lst _ | .str _, .tup _ => some false
  | .lst _, .non | .lst _, .bl _ | .lst _, .int _ | .lst _, .str _ | .lst _, .tup _ => some false
  | .tup _, .non | .tup _, .bl _ | .tup _, .int _ | .tup _, .str _ | .tup _, .lst _ => some false
  | _, _ => none
/-- item by item, as long as both have some; the lengths at the end -/
def pyEqs : List AV → List AV → Option Bool
  | [], [] => some true
  | x :: xs, y :: ys => (pyEq x y).bind fun a => (pyEqs xs ys).map fun b => a && b
  | [], _ :: _ => some false
  | _ :: _, [] => some false
end

mutual
def dep : AV → Nat
  | .tup xs => deps xs + 1
  | .lst xs => deps xs + 1
  | _ => 0
def deps : List AV → Nat
  | [] => 0
  | x :: xs => max (dep x) (deps xs)
end
/-- x == y, where one of them is not too deep -/
def eqD (x y : AV) : Option Bool := if min (dep x) (dep y) ≤ 60 then pyEq x y else none

def pyIn (x : AV) : List AV → Option Bool
  | [] => some false
  | y :: ys => (eqD y x).bind fun a => (pyIn x ys).map fun b => a || b

def truth (h : AH) : AV → Option Bool
  | .non => some false
  | .bl b => some b
  | .int i => some (i != 0)
  | .str x => if x.length ≤ sizeLine then some (x.length != 0) else none
  | .tup xs => some (!xs.isEmpty)
  | .lst xs => some (!xs.isEmpty)
  | _ => none

/-- the items of a list, a tuple, a list in a cell -/
def items (h : AH) : AV → Option (List AV)
  | .tup xs => some xs
  | .lst xs => some xs
  | .ref n => match h[n]? with
    | some (.lst xs) => some xs
    | _ => none
  | _ => none

/-- the items of a list, a tuple, told as a value -/
def vitems : AV → Option (List AV)
  | .tup xs => some xs
  | .lst xs => some xs
  | _ => none

/-- the items of a list, a list in a cell -/
def litems (h : AH) : AV → Option (List AV)
  | .lst xs => some xs
  | .ref n => match h[n]? with
    | some (.lst xs) => some xs
    | _ => none
  | _ => none

def opB (o : BOp) (x y : AV) (h : AH) : Rs AV := match o, x, y with
  | .add, .int i, .int j => .ok (.int (i + j)) h
  | .sub, .int i, .int j => .ok (.int (i - j)) h
  | .mul, .int i, .int j => if (-(2 ^ 64) < i ∧ i < 2 ^ 64) ∨ (-(2 ^ 64) < j ∧ j < 2 ^ 64) then .ok (.int (i * j)) h else .no
  | .fdiv, .int i, .int j => if 0 < j ∧ j < 1073741824 then .ok (.int (i / j)) h else .no
  | .mod, .int i, .int j => if 0 < j then .ok (.int (i % j)) h else .no
  | .pow, .int i, .int j => if 0 ≤ j ∧ j ≤ 1000000 ∧ i.natAbs < 2 ^ 64 then .ok (.int (i ^ j.toNat)) h else .no
  | .add, .str a, .str b => if a.length + b.length ≤ sizeLine then .ok (.str (a ++ b)) h else .no
  | .add, .tup a, .tup b => if a.length + b.length ≤ sizeLine then .ok (.tup (a ++ b)) h else .no
  | .add, .lst a, .lst b => if a.length + b.length ≤ sizeLine then .ok (.lst (a ++ b)) h else .no
  | _, _, _ => .no

def opLt : AV → AV → Option Bool
  | .int i, .int j => some (decide (i < j))
  | _, _ => none
def isConst : AV → Bool
  | .non => true
  | .bl _ => true
  | _ => false
/-- is: of None, of truths -/
def opIs : AV → AV → Option Bool
  | .non, .non => some true
  | .bl a, .bl b => some (decide (a = b))
  | .bl _, .non | .int _, .non | .str _, .non | .tup _, .non | .lst _, .non | .dct _ _, .non | .ref _, .non | .fn _, .non | .scr _, .non => some false
  | _, _ => none

def opC (o : COp) (x y : AV) (h : AH) : Option Bool := match o with
  | .lt => opLt x y
  | .gt => opLt y x
  | .le => (opLt y x).map not
  | .ge => (opLt x y).map not
  | .eq => eqD x y
  | .ne => (eqD x y).map not
  | .is => opIs x y
  | .isn => (opIs x y).map not
  | .mem => match y with
    | .str b => (match x with
      | .str a => some (!(Builtin.Str.occurrences b a 0 b.length 1).isEmpty)
      | _ => none)
    | _ => (items h y).bind (pyIn x)
  | .nmem => match y with
    | .str b => (match x with
      | .str a => some (!(!(Builtin.Str.occurrences b a 0 b.length 1).isEmpty))
      | _ => none)
    | _ => ((items h y).bind (pyIn x)).map not

def hasTy : AV → Ty → Option Bool
  | .non, _ => some false
  | .bl _, .bool => some true
  | .bl _, .int => some true
  | .bl _, _ => some false
  | .int _, .int => some true
  | .int _, _ => some false
  | .str _, .str => some true
  | .str _, _ => some false
  | .tup _, .tuple => some true
  | .tup _, _ => some false
  | .lst _, .list => some true
  | .lst _, _ => some false
  | .dct _ _, .dict => some true
  | .dct _ _, _ => some false
  | _, _ => none
def hasTys (x : AV) : List Ty → Option Bool
  | [] => some false
  | t :: ts => match hasTy x t with
    | some true => some true
    | some false => hasTys x ts
    | none => none

/-- x[i] -/
def opSub (x i : AV) (h : AH) : Option AV := match x, i with
  | .str z, .int k => if z.length ≤ sizeLine then (atI z.cps.toList k).map fun c => .str ⟨#[c]⟩ else none
  | .scr ns, .int k => (atI ns k).map .int
  | x, .int k => (items h x).bind fun xs => atI xs k
  | _, _ => none
/-- x[lo:hi] -/
def cutL {α : Type} (xs : List α) (lo hi : Option Int) : List α := (xs.drop (HT.sIx xs.length 0 lo)).take (HT.sIx xs.length xs.length hi - HT.sIx xs.length 0 lo)
def opSlice (x : AV) (lo hi : Option Int) (h : AH) : Option AV := match x with
  | .tup xs => some (.tup (cutL xs lo hi))
  | .lst xs => some (.lst (cutL xs lo hi))
  | .str z => if z.length ≤ sizeLine then some (.str (cutS z lo hi)) else none
  | _ => none

/-! ### targets -/
mutual
def asgT : Tgt → AV → ASt → Option ASt
  | .nm i, v, σ => if i < σ.length then some (σ.set i (.vl v)) else none
  | .tp ts, .tup xs, σ => asgTs ts xs σ
  | .tp _, _, _ => none
def asgTs : List Tgt → List AV → ASt → Option ASt
  | [], [], σ => some σ
  | t :: ts, x :: xs, σ => (asgT t x σ).bind (asgTs ts xs)
  | [], _ :: _, _ => none
  | _ :: _, [], _ => none
end

def lift {α : Type} (o : Option α) (h : AH) : Rs α := match o with
  | some a => .ok a h
  | none => .no
@[simp] theorem lift_some {α : Type} (a : α) (h : AH) : lift (some a) h = .ok a h := rfl
@[simp] theorem lift_none {α : Type} (h : AH) : lift (none : Option α) h = .no := rfl

/-- a key as a value -/
def keyA : Key → AV
  | .inl i => .int i
  | .inr x => .str x
mutual
/-- what repr reads -/
def toPy : AV → Option PyData
  | .non => some .none
  | .bl b => some (.bool b)
  | .int i => some (.int i)
  | .str x => some (.str x)
  | .tup xs => (toPys xs).map .tuple
  | .lst xs => (toPys xs).map .list
  | .dct ks vs => (toPys ks).bind fun as => (toPys vs).map fun bs => .dict (as.zip bs)
  | _ => none
def toPys : List AV → Option (List PyData)
  | [] => some []
  | x :: xs => (toPy x).bind fun a => (toPys xs).map fun as => a :: as
end
def opRepr (x : AV) : Option Str := (toPy x).bind fun d => if d.showable = true ∧ d.depth ≤ 60 ∧ d.shown.length ≤ sizeLine then some d.shown else none
def intsOf : List AV → Option (List Int)
  | [] => some []
  | x :: xs => match x with
    | .int b => (intsOf xs).map (b :: ·)
    | _ => none
/-- a number put into rising ones, once -/
def insS (k : Int) : List Int → List Int
  | [] => [k]
  | x :: xs => if k < x then k :: x :: xs else if k = x then x :: xs else x :: insS k xs
def sortSet (ns : List Int) : List Int := ns.foldr insS []
def boolsOf : List AV → Option (List Bool)
  | [] => some []
  | x :: xs => match x with
    | .bl b => (boolsOf xs).map (b :: ·)
    | _ => none

def opBi (f : Bi) (vs : List AV) (h : AH) : Rs AV := match f, vs with
  | .len, [.str z] => if z.length ≤ sizeLine then .ok (.int z.length) h else .no
  | .len, [.scr ns] => .ok (.int ns.length) h
  | .len, [v] => (lift (items h v) h).bind fun xs h => .ok (.int xs.length) h
  | .all, [v] => lift (((litems h v).bind boolsOf).map fun bs => .bl (bs.all id)) h
  | .any, [v] => lift (((litems h v).bind boolsOf).map fun bs => .bl (bs.any id)) h
  | .tuple, [v] => lift ((items h v).map .tup) h
  | .list, [v] => lift ((items h v).map .lst) h
  | .min, [.int i, .int j] => .ok (.int (if j < i then j else i)) h
  | .max, [.int i, .int j] => .ok (.int (if j > i then j else i)) h
  | .repr, [v] => lift ((opRepr v).map .str) h
  | _, _ => .no

/-! ### the meaning -/
/-- the loop of a comprehension: for each item the slots by its target, then the rest -/
def compL (tg : Tgt) (body : ASt → AH → Rs (List AV)) : List AV → ASt → AH → Rs (List AV)
  | [], _, h => .ok [] h
  | x :: xs, σ, h => (lift (asgT tg x σ) h).bind fun σ' h => (body σ' h).bind fun ys h => (compL tg body xs σ h).bind fun zs h => .ok (ys ++ zs) h

/-- the items that an iteration gives -/
def zipA : List AV → List AV → List AV
  | x :: xs, y :: ys => .tup [x, y] :: zipA xs ys
  | _, _ => []
def zipK : AV → AV → Option (List AV)
  | .tup a, .tup b => some (zipA a b)
  | .lst a, .lst b => some (zipA a b)
  | _, _ => none
def enumA : Nat → List AV → List AV
  | _, [] => []
  | n, x :: xs => .tup [.int n, x] :: enumA (n + 1) xs
def rangeA (a b : Int) : List AV := (List.range (b - a).toNat).map fun (i : Nat) => .int (a + (i : Int))

abbrev CallA := Str → List AV → AH → Rs AV
mutual
def tgSlots : Tgt → List Nat
  | .nm i => [i]
  | .tp ts => tgsSlots ts
def tgsSlots : List Tgt → List Nat
  | [] => []
  | t :: ts => tgSlots t ++ tgsSlots ts
end
/-- the names of a comprehension's block -/
def cmpSlots : Cmp → List Nat
  | .elt _ => []
  | .cl tg _ _ c => tgSlots tg ++ cmpSlots c
def wipeA (σ : ASt) : List Nat → ASt
  | [] => σ
  | v :: vs => (wipeA σ vs).set v .un
/-- no exception leaves -/
def noEx {α : Type} (r : Rs α) : Rs α := match r with
  | .ex _ _ => .no
  | r => r

/-- a thing that is only looked into: a list of one's own too -/
def peek (e : Exp) (σ : ASt) (h : AH) (r : Rs AV) : Rs AV := match e with
  | .var i => (match σ[i]? with
    | some (.ol xs) => .ok (.lst xs) h
    | _ => r)
  | _ => r

mutual
def evE (Φ : CallA) : Exp → ASt → AH → Rs AV
  | .c v, _, h => .ok v h
  | .var i, σ, h => (match σ[i]? with
    | some (.vl v) => .ok v h
    | _ => .no)
  | .bin o a b, σ, h => (evE Φ a σ h).bind fun x h => (evE Φ b σ h).bind fun y h => opB o x y h
  | .neg a, σ, h => (evE Φ a σ h).bind fun x h => (match x with
    | .int i => .ok (.int (-i)) h
    | _ => .no)
  | .not a, σ, h => (evE Φ a σ h).bind fun x h => (match x with
    | .bl b => .ok (.bl (!b)) h
    | _ => .no)
  | .and a b, σ, h => (evE Φ a σ h).bind fun x h => (match x with
    | .bl true => evE Φ b σ h
    | .bl false => .ok (.bl false) h
    | _ => .no)
  | .or a b, σ, h => (evE Φ a σ h).bind fun x h => (match x with
    | .bl false => evE Φ b σ h
    | .bl true => .ok (.bl true) h
    | _ => .no)
  | .cmp o a b, σ, h => (peek a σ h (evE Φ a σ h)).bind fun x h => (peek b σ h (evE Φ b σ h)).bind fun y h => lift ((opC o x y h).map .bl) h
  | .chain o p a b c, σ, h => (evE Φ a σ h).bind fun x h => (evE Φ b σ h).bind fun y h => (lift (opC o x y h) h).bind fun k h =>
    (match k with
    | true => (evE Φ c σ h).bind fun z h => lift ((opC p y z h).map .bl) h
    | false => .ok (.bl false) h)
  | .ife t a b, σ, h => (evT Φ t σ h).bind fun k h => (match k with
    | true => evE Φ a σ h
    | false => evE Φ b σ h)
  | .isi a ts, σ, h => (evE Φ a σ h).bind fun x h => lift ((hasTys x ts).map .bl) h
  | .tup es, σ, h => (evEs Φ es σ h).bind fun xs h => if xs.length ≤ sizeLine then .ok (.tup xs) h else .no
  | .lst es, σ, h => (evEs Φ es σ h).bind fun xs h => if xs.length ≤ sizeLine then .ok (.lst xs) h else .no
  | .sub a i, σ, h => (peek a σ h (evE Φ a σ h)).bind fun x h => (evE Φ i σ h).bind fun k h => lift (opSub x k h) h
  | .slice a lo hi, σ, h => (peek a σ h (evE Φ a σ h)).bind fun x h => (evO Φ lo σ h).bind fun l h => (evO Φ hi σ h).bind fun u h => lift (opSlice x l u h) h
  | .rev a, σ, h => (peek a σ h (evE Φ a σ h)).bind fun x h => (match x with
    | .tup xs => .ok (.tup xs.reverse) h
    | .lst xs => .ok (.lst xs.reverse) h
    | _ => .no)
  | .call f es, σ, h => (evEs Φ es σ h).bind fun xs h => Φ f xs h
  | .dis ks vs, _, h => if ks.length ≤ 1 ∧ vs.length = ks.length then .ok (.dct (ks.map keyA) vs) h else .no
  | .upper a, σ, h => (evE Φ a σ h).bind fun x h => (match x with
    | .str z => if z.length ≤ 5592405 then .ok (.str (Txt.upper z)) h else .no
    | _ => .no)
  | .sset a, σ, h => (evE Φ a σ h).bind fun x h => (match x with
    | .tup xs => (match intsOf xs with
      | some ns => if ns.length < 64 then .ok (.lst ((sortSet ns).map .int)) h else .no
      | none => .no)
    | _ => .no)
  | .callK f es ix, σ, h => (evEs Φ es σ h).bind fun xs h => Φ f (ix.map fun i => xs.getD i .non) h
  | .bi f es, σ, h => (evPs Φ es σ h).bind fun xs h => opBi f xs h
  | .comp c, σ, h => (noEx (evC Φ c true σ h)).bind fun xs h => if xs.length ≤ sizeLine then .ok (.lst xs) h else .no
  | .cell e, σ, h => (evE Φ e σ h).bind fun x h => (match x with
    | .lst xs => .ok (.ref h.length) (h ++ [.lst xs])
    | _ => .no)
def evPs (Φ : CallA) : List Exp → ASt → AH → Rs (List AV)
  | [], _, h => .ok [] h
  | e :: es, σ, h => (peek e σ h (evE Φ e σ h)).bind fun x h => (evPs Φ es σ h).bind fun xs h => .ok (x :: xs) h
def evT (Φ : CallA) : Tst → ASt → AH → Rs Bool
  | .e e, σ, h => (peek e σ h (evE Φ e σ h)).bind fun x h => lift (truth h x) h
  | .and a b, σ, h => (evT Φ a σ h).bind fun k h => (match k with
    | true => evT Φ b σ h
    | false => .ok false h)
  | .or a b, σ, h => (evT Φ a σ h).bind fun k h => (match k with
    | true => .ok true h
    | false => evT Φ b σ h)
  | .not a, σ, h => (evT Φ a σ h).bind fun k h => .ok (!k) h
def evEs (Φ : CallA) : List Exp → ASt → AH → Rs (List AV)
  | [], _, h => .ok [] h
  | e :: es, σ, h => (evE Φ e σ h).bind fun x h => (evEs Φ es σ h).bind fun xs h => .ok (x :: xs) h
def evO (Φ : CallA) : Option Exp → ASt → AH → Rs (Option Int)
  | none, _, h => .ok none h
  | some e, σ, h => (evE Φ e σ h).bind fun x h => (match x with
    | .int i => .ok (some i) h
    | _ => .no)
def evI (Φ : CallA) : Itr → Bool → ASt → AH → Rs (List AV)
  | .sq e, pk, σ, h => (if pk then peek e σ h (evE Φ e σ h) else evE Φ e σ h).bind fun x h => lift (vitems x) h
  | .rg a b, _, σ, h => (evE Φ a σ h).bind fun x h => (evE Φ b σ h).bind fun y h => (match x, y with
    | .int i, .int j => if -(2 ^ 62) ≤ i ∧ i < 2 ^ 62 ∧ -(2 ^ 62) ≤ j ∧ j < 2 ^ 62 then .ok (rangeA i j) h else .no
    | _, _ => .no)
  | .en e, pk, σ, h => (if pk then peek e σ h (evE Φ e σ h) else evE Φ e σ h).bind fun x h => (lift (vitems x) h).bind fun xs h => .ok (enumA 0 xs) h
  | .zp a b, pk, σ, h => (if pk then peek a σ h (evE Φ a σ h) else evE Φ a σ h).bind fun x h => (if pk then peek b σ h (evE Φ b σ h) else evE Φ b σ h).bind fun y h => lift (zipK x y) h
/-- the tests of a clause -/
def evF (Φ : CallA) : List Tst → ASt → AH → Rs Bool
  | [], _, h => .ok true h
  | t :: ts, σ, h => (evT Φ t σ h).bind fun k h => (match k with
    | true => evF Φ ts σ h
    | false => .ok false h)
def evC (Φ : CallA) : Cmp → Bool → ASt → AH → Rs (List AV)
  | .elt e, _, σ, h => (evE Φ e σ h).bind fun x h => .ok [x] h
  | .cl tg it ifs c, pk, σ, h => (evI Φ it pk σ h).bind fun xs h => compL tg (fun σ h => (evF Φ ifs σ h).bind fun k h => (match k with
    | true => evC Φ c false σ h
    | false => .ok [] h)) xs (wipeA σ (tgSlots tg ++ cmpSlots c)) h
end

/-- what a statement comes to -/
inductive Fl where
  | nx (σ : ASt) | rt (v : AV) | bk (σ : ASt) | ct (σ : ASt)

def forL (tg : Tgt) (body : ASt → AH → Rs Fl) : List AV → ASt → AH → Rs Fl
  | [], σ, h => .ok (.nx σ) h
  | x :: xs, σ, h => (lift (asgT tg x σ) h).bind fun σ h => (body σ h).bind fun f h => (match f with
    | .nx σ => forL tg body xs σ h
    | .ct σ => forL tg body xs σ h
    | .bk σ => .ok (.nx σ) h
    | .rt v => .ok (.rt v) h)
def whileN (t : ASt → AH → Rs Bool) (body : ASt → AH → Rs Fl) : Nat → ASt → AH → Rs Fl
  | 0, _, _ => .no
  | n + 1, σ, h => (t σ h).bind fun k h => (match k with
    | false => .ok (.nx σ) h
    | true => (body σ h).bind fun f h => (match f with
      | .nx σ => whileN t body n σ h
      | .ct σ => whileN t body n σ h
      | .bk σ => .ok (.nx σ) h
      | .rt v => .ok (.rt v) h))
def turns : Nat := 1099511627776
def setSlot (σ : ASt) (i : Nat) (s : Sv) : Option ASt := if i < σ.length then some (σ.set i s) else none

mutual
def evS (Φ : CallA) : Stm → ASt → AH → Rs Fl
  | .set i e, σ, h => (evE Φ e σ h).bind fun x h => (lift (setSlot σ i (.vl x)) h).bind fun σ h => .ok (.nx σ) h
  | .own i e, σ, h => (evE Φ e σ h).bind fun x h => (match x with
    | .lst xs => (lift (setSlot σ i (.ol xs)) h).bind fun σ h => .ok (.nx σ) h
    | _ => .no)
  | .asg t e, σ, h => (evE Φ e σ h).bind fun x h => (lift (asgT t x σ) h).bind fun σ h => .ok (.nx σ) h
  | .par i j a b, σ, h => (evE Φ a σ h).bind fun x h => (evE Φ b σ h).bind fun y h => (lift ((setSlot σ i (.vl x)).bind fun σ => setSlot σ j (.vl y)) h).bind fun σ h => .ok (.nx σ) h
  | .sset o i e, σ, h => (evE Φ e σ h).bind fun v h => (evE Φ o σ h).bind fun x h => (evE Φ i σ h).bind fun k h => (match x, k with
    | .ref n, .int z => (match h[n]? with
      | some (.lst xs) => (match ixN xs.length z with
        | some j => .ok (.nx σ) (h.set n (.lst (xs.set j v)))
        | none => .no)
      | _ => .no)
    | _, _ => .no)
  | .app i e, σ, h => (match σ[i]? with
    | some (.ol xs) => (evE Φ e σ h).bind fun x h => if xs.length < sizeLine then .ok (.nx (σ.set i (.ol (xs ++ [x])))) h else .no
    | _ => .no)
  | .expr e, σ, h => (evE Φ e σ h).bind fun _ h => .ok (.nx σ) h
  | .aug i o e, σ, h => (match σ[i]? with
    | some (.vl x) => (evE Φ e σ h).bind fun y h => (match o, x, y with
      | .add, .int a, .int b => .ok (.nx (σ.set i (.vl (.int (a + b))))) h
      | .sub, .int a, .int b => .ok (.nx (σ.set i (.vl (.int (a - b))))) h
      | _, _, _ => .no)
    | _ => .no)
  | .ife t a b, σ, h => (evT Φ t σ h).bind fun k h => (match k with
    | true => evSs Φ a σ h
    | false => evSs Φ b σ h)
  | .for tg it b, σ, h => (evI Φ it false σ h).bind fun xs h => forL tg (evSs Φ b) xs σ h
  | .while t b, σ, h => whileN (evT Φ t) (evSs Φ b) turns σ h
  | .ret e, σ, h => (evE Φ e (σ.map frz) h).bind fun x h => .ok (.rt x) h
  | .retN, _, h => .ok (.rt .non) h
  | .pass, σ, h => .ok (.nx σ) h
  | .brk, σ, h => .ok (.bk σ) h
  | .cnt, σ, h => .ok (.ct σ) h
  | .frzd is s, σ, h => evS Φ s (frzAt σ is) h
  | .never, _, _ => .no
def evSs (Φ : CallA) : List Stm → ASt → AH → Rs Fl
  | [], σ, h => .ok (.nx σ) h
  | s :: ss, σ, h => (evS Φ s σ h).bind fun f h => (match f with
    | .nx σ => evSs Φ ss σ h
    | f => .ok f h)
end

/-- a def of the small language: its places (parameters first), how many parameters, its body -/
structure Fn where
  slots : Nat
  pars : Nat
  body : List Stm

def start (n : Nat) (vs : List AV) : ASt := vs.map .vl ++ List.replicate (n - vs.length) .un
def runFn (Φ : CallA) (f : Fn) (vs : List AV) (h : AH) : Rs AV := if vs.length = f.pars then
    (evSs Φ f.body (start f.slots vs) h).bind fun r h => (match r with
      | .rt v => .ok v h
      | .nx _ => .ok .non h
      | _ => .no)
  else .no
abbrev Tab := List (Str × Fn)
/-- the calls, so many deep -/
def callN (T : Tab) : Nat → CallA
  | 0, _, _, _ => .no
  | n + 1, f, vs, h => match T.lookup f with
    | some fn => runFn (callN T n) fn vs h
    | none => .no
end G

set_option Elab.async false
set_option linter.all false
set_option maxRecDepth 100000
set_option maxHeartbeats 4000000
/-! GB: what the abstract values stand for. -/
namespace G
open PySem PySem.Spec PyProof.Rows L2

/-! ### over the machine's heap: enough for ==, in -/
mutual
inductive Con (h : Heap) : AV → Value → Prop
  | non : Con h .non .none
  | bl (b : Bool) : Con h (.bl b) (.bool b)
  | int (i : Int) (t : Tok) : Con h (.int i) (.int i t)
  | str (x : Str) (t : Tok) : Con h (.str x) (.str x t)
  | tup {a : Addr} {xs : List AV} {us : List Value} : h.IsTuple a us.toArray → Cons h xs us → Con h (.tup xs) (.ref a)
  | lst {a : Addr} {xs : List AV} {us : List Value} : h.IsList a us.toArray → Cons h xs us → Con h (.lst xs) (.ref a)
  | dct (ks vs : List AV) (u : Value) : Con h (.dct ks vs) u
  | ref (n : Nat) (u : Value) : Con h (.ref n) u
  | fn (x : Str) (u : Value) : Con h (.fn x) u
  | scr (ns : List Int) (u : Value) : Con h (.scr ns) u
inductive Cons (h : Heap) : List AV → List Value → Prop
  | nil : Cons h [] []
  | cons {x : AV} {u : Value} {xs : List AV} {us : List Value} : Con h x u → Cons h xs us → Cons h (x :: xs) (u :: us)
end

theorem Cons.length {h : Heap} : ∀ {xs : List AV} {us : List Value}, Cons h xs us → xs.length = us.length
  | [], _, c => by cases c; rfl
  | x :: xs, _, c => by
    cases c with
    | cons _ cs => exact congrArg Nat.succ (Cons.length cs)

theorem arr_inj {α : Type} {xs ys : List α} (h : xs.toArray = ys.toArray) : xs = ys := by simpa using congrArg Array.toList h
theorem isTuple_inj {h : Heap} {a : Addr} {xs ys : Array Value} (p : h.IsTuple a xs) (q : h.IsTuple a ys) : xs = ys := by
  obtain ⟨o, e, _, n, d⟩ := p
  obtain ⟨o', e', _, n', d'⟩ := q
  rw [e] at e'; cases e'
  rw [d] at d'
  injection d'
theorem isList_inj {h : Heap} {a : Addr} {xs ys : Array Value} (p : h.IsList a xs) (q : h.IsList a ys) : xs = ys := by
  obtain ⟨o, e, _, n, d⟩ := p
  obtain ⟨o', e', _, n', d'⟩ := q
  rw [e] at e'; cases e'
  rw [d] at d'
  injection d'
theorem not_list_tuple {h : Heap} {a : Addr} {xs ys : Array Value} (p : h.IsList a xs) (q : h.IsTuple a ys) : False := by
  obtain ⟨o, e, c, n, d⟩ := p
  obtain ⟨o', e', c', n', d'⟩ := q
  rw [e] at e'; cases e'
  rw [c] at c'; exact absurd c' (by decide)

mutual
/-- two readings of one value are equal, where == is told of them -/
theorem Con.refl_eq {h : Heap} : ∀ (x y : AV) (u : Value) (b : Bool), Con h x u → Con h y u → pyEq x y = some b → b = true
  | .non, y, u, b, c, c', e => by
    cases c; cases c' <;> simp_all [pyEq]
  | .bl _, y, u, b, c, c', e => by
    cases c; cases c' <;> simp_all [pyEq]
  | .int _, y, u, b, c, c', e => by
    cases c; cases c' <;> simp_all [pyEq]
  | .str _, y, u, b, c, c', e => by
    cases c; cases c' <;> simp_all [pyEq]
  | .tup xs, y, u, b, c, c', e => by
    cases c with
    | tup p cs =>
      cases c' with
      | tup p' cs' =>
        cases (arr_inj (isTuple_inj p p'))
        exact Con.refl_eqs xs _ _ b cs cs' (by simpa [pyEq] using e)
      | lst p' cs' => exact (not_list_tuple p' p).elim
      | dct => simp [pyEq] at e
      | ref => simp [pyEq] at e
      | fn => simp [pyEq] at e
      | scr => simp [pyEq] at e
  | .lst xs, y, u, b, c, c', e => by
    cases c with
    | lst p cs =>
      cases c' with
      | lst p' cs' =>
        cases (arr_inj (isList_inj p p'))
        have l : xs.length = _ := cs.length.trans cs'.length.symm
        exact Con.refl_eqs xs _ _ b cs cs' (by simpa [pyEq, l] using e)
      | tup p' cs' => exact (not_list_tuple p p').elim
      | dct => simp [pyEq] at e
      | ref => simp [pyEq] at e
      | fn => simp [pyEq] at e
      | scr => simp [pyEq] at e
  | .dct _ _, y, u, b, c, c', e => by cases y <;> simp [pyEq] at e
  | .ref _, y, u, b, c, c', e => by cases y <;> simp [pyEq] at e
  | .fn _, y, u, b, c, c', e => by cases y <;> simp [pyEq] at e
  | .scr _, y, u, b, c, c', e => by cases y <;> simp [pyEq] at e
theorem Con.refl_eqs {h : Heap} : ∀ (xs ys : List AV) (us : List Value) (b : Bool), Cons h xs us → Cons h ys us → pyEqs xs ys = some b → b = true
  | [], ys, us, b, c, c', e => by
    cases c; cases c'; simpa [pyEqs] using e.symm
  | x :: xs, ys, us, b, c, c', e => by
    cases c with
    | cons c cs =>
      cases c' with
      | @cons y _ ys _ c' cs' =>
        simp only [pyEqs, Option.bind_eq_some_iff, Option.map_eq_some_iff] at e
        obtain ⟨k1, e1, k2, e2, rfl⟩ := e
        rw [Con.refl_eq x y _ _ c c' e1, Con.refl_eqs xs ys _ _ cs cs' e2]
        rfl
end

section
variable {s : Shared}
open SeqAt
theorem min_deps {x y : AV} {xs ys : List AV} : min (dep x) (dep y) ≤ min (deps (x :: xs)) (deps (y :: ys)) := by
  simp only [deps]; omega
theorem min_deps' {x y : AV} {xs ys : List AV} : min (deps xs) (deps ys) ≤ min (deps (x :: xs)) (deps (y :: ys)) := by
  simp only [deps]; omega

/-- what == is of two values, in the three forms that the machine asks -/
structure EqIs (A : Around) (s : Shared) (u v : Value) (b : Bool) : Prop where
  rc : RcAt A s u v b
  ne : RcNeAt A s u v (!b)
  eq : EqAt A s u v b

theorem all_at (f : Nat → Bool) (n : Nat) : ((List.range n).all f) = decide (∀ j, j < n → f j = true) := by
  rw [Bool.eq_iff_iff]; simp

/-- the items' answers by their place -/
theorem eqs_at {xs ys : List AV} {b : Bool} (e : pyEqs xs ys = some b) : ∃ f : Nat → Bool, (∀ j (h1 : j < xs.length) (h2 : j < ys.length), pyEq xs[j] ys[j] = some (f j)) ∧
    ((List.range (min xs.length ys.length)).all f && xs.length == ys.length) = b := by
  induction xs generalizing ys b with
  | nil =>
    cases ys with
    | nil => exact ⟨fun _ => true, fun j h1 => absurd h1 (by simp), by simpa [pyEqs] using e⟩
    | cons y ys => exact ⟨fun _ => true, fun j h1 => absurd h1 (by simp), by simpa [pyEqs] using e⟩
  | cons x xs ih =>
    cases ys with
    | nil => exact ⟨fun _ => true, fun j _ h2 => absurd h2 (by simp), by simpa [pyEqs] using e⟩
    | cons y ys =>
      simp only [pyEqs, Option.bind_eq_some_iff, Option.map_eq_some_iff] at e
      obtain ⟨k1, e1, k2, e2, rfl⟩ := e
      obtain ⟨f, hf, hb⟩ := ih e2
      refine ⟨fun j => match j with | 0 => k1 | j + 1 => f j, fun j h1 h2 => ?_, ?_⟩
      · cases j with
        | zero => simpa using e1
        | succ j => simpa using hf j (by simpa using h1) (by simpa using h2)
      · rw [← hb]
        simp only [List.length_cons]
        rw [show min (xs.length + 1) (ys.length + 1) = min xs.length ys.length + 1 by omega, List.range_succ_eq_map, List.all_cons, List.all_map]
        simp only [Bool.and_assoc]
        congr 2
        simp

mutual
theorem eq_is : ∀ (x y : AV) (u v : Value) (b : Bool) (A : Around), Con s.heap x u → Con s.heap y v → pyEq x y = some b → A.units + min (dep x) (dep y) < cLine → EqIs A s u v b
  | .non, y, u, v, b, A, c, c', e, hu => by
    cases c
    have hu' : A.units < cLine := by omega
    cases c' <;> simp only [pyEq, Option.some.injEq, reduceCtorEq] at e <;> subst e
    · exact ⟨.none_none, .none_none, .same _⟩
    · exact ⟨.none_bool _, .none_bool _, .none_bool _⟩
    · exact ⟨.none_int _ _, .none_int _ _, .none_int _ _⟩
    · exact ⟨.none_str _ _, .none_str _ _, .none_str _ _⟩
    · rename_i p _; exact ⟨.none_tuple p hu', .none_tuple p hu', .none_tuple p hu'⟩
    · rename_i p _; exact ⟨.none_list p hu', .none_list p hu', .none_list p hu'⟩
  | .bl k, y, u, v, b, A, c, c', e, hu => by
    cases c
    have hu' : A.units < cLine := by omega
    cases c' <;> simp only [pyEq, Option.some.injEq, reduceCtorEq] at e <;> subst e
    · exact ⟨.bool_none _, .bool_none _, .bool_none _⟩
    · exact ⟨.bool_bool _ _, .bool_bool _ _, .bool_bool _ _⟩
    · exact ⟨.bool_int _ _ _, .bool_int _ _ _, .bool_int _ _ _⟩
    · exact ⟨.bool_str _ _ _, .bool_str _ _ _, .bool_str _ _ _⟩
    · rename_i p _; exact ⟨.bool_tuple _ p hu', .bool_tuple _ p hu', .bool_tuple _ p hu'⟩
    · rename_i p _; exact ⟨.bool_list _ p hu', .bool_list _ p hu', .bool_list _ p hu'⟩
  | .int k, y, u, v, b, A, c, c', e, hu => by
    cases c
    have hu' : A.units < cLine := by omega
    cases c' <;> simp only [pyEq, Option.some.injEq, reduceCtorEq] at e <;> subst e
    · exact ⟨.int_none _ _, .int_none _ _, .int_none _ _⟩
    · exact ⟨.int_bool _ _ _, .int_bool _ _ _, .int_bool _ _ _⟩
    · exact ⟨.int_int _ _ _ _, .int_int _ _ _ _, .int_int _ _ _ _⟩
    · exact ⟨.int_str _ _ _ _, .int_str _ _ _ _, .int_str _ _ _ _⟩
    · rename_i p _; exact ⟨.int_tuple _ _ p hu', .int_tuple _ _ p hu', .int_tuple _ _ p hu'⟩
    · rename_i p _; exact ⟨.int_list _ _ p hu', .int_list _ _ p hu', .int_list _ _ p hu'⟩
  | .str k, y, u, v, b, A, c, c', e, hu => by
    cases c
    have hu' : A.units < cLine := by omega
    cases c' <;> simp only [pyEq, Option.some.injEq, reduceCtorEq] at e <;> subst e
    · exact ⟨.str_none _ _, .str_none _ _, .str_none _ _⟩
    · exact ⟨.str_bool _ _ _, .str_bool _ _ _, .str_bool _ _ _⟩
    · exact ⟨.str_int _ _ _ _, .str_int _ _ _ _, .str_int _ _ _ _⟩
    · exact ⟨.str_str _ _ _ _, .str_str _ _ _ _, .str_str _ _ _ _⟩
    · rename_i p _; exact ⟨.str_tuple _ _ p hu', .str_tuple _ _ p hu', .str_tuple _ _ p hu'⟩
    · rename_i p _; exact ⟨.str_list _ _ p hu', .str_list _ _ p hu', .str_list _ _ p hu'⟩
  | .tup xs, y, u, v, b, A, c, c', e, hu => by
    cases c with
    | @tup a _ us p cs =>
      have hu' : A.units < cLine := by omega
      cases c' with
      | non => simp only [pyEq, Option.some.injEq] at e; subst e; exact ⟨.tuple_none p hu', .tuple_none p hu', .tuple_none p hu'⟩
      | bl _ => simp only [pyEq, Option.some.injEq] at e; subst e; exact ⟨.tuple_bool _ p hu', .tuple_bool _ p hu', .tuple_bool _ p hu'⟩
      | int _ _ => simp only [pyEq, Option.some.injEq] at e; subst e; exact ⟨.tuple_int _ _ p hu', .tuple_int _ _ p hu', .tuple_int _ _ p hu'⟩
      | str _ _ => simp only [pyEq, Option.some.injEq] at e; subst e; exact ⟨.tuple_str _ _ p hu', .tuple_str _ _ p hu', .tuple_str _ _ p hu'⟩
      | lst p' _ => simp only [pyEq, Option.some.injEq] at e; subst e; exact ⟨.tuple_list p p' hu', .tuple_list p p' hu', .tuple_list p p' hu'⟩
      | @tup a' ys vs p' cs' =>
        simp only [pyEq] at e
        obtain ⟨f, hf, hb⟩ := eqs_at e
        have l1 := cs.length
        have l2 := cs'.length
        have it : ∀ j (h1 : j < us.toArray.size) (h2 : j < vs.toArray.size), EqAt A.in1 s us.toArray[j] vs.toArray[j] (f j) := fun j h1 h2 =>
          (eqs_is xs ys us vs A.in1 cs cs' (by show A.units + 1 + _ < cLine; simp only [dep] at hu; omega) j f hf (by simpa using h1) (by simpa using h2)).eq
        have rb : ((List.range (min us.toArray.size vs.toArray.size)).all f && us.toArray.size == vs.toArray.size) = b := by
          rw [← hb, l1, l2]; simp
        have r := RcAt.tuples p p' hu' it
        rw [rb] at r
        have rn := RcNeAt.tuples p p' hu' it
        rw [rb] at rn
        refine ⟨r, rn, ?_⟩
        by_cases q : a = a'
        · subst q
          have := Con.refl_eq (.tup xs) (.tup ys) _ b (.tup p cs) (.tup p' cs') (by simpa [pyEq] using e)
          subst this
          exact .same _
        · exact .of_refs q r
      | dct => simp [pyEq] at e
      | ref => simp [pyEq] at e
      | fn => simp [pyEq] at e
      | scr => simp [pyEq] at e
  | .lst xs, y, u, v, b, A, c, c', e, hu => by
    cases c with
    | @lst a _ us p cs =>
      have hu' : A.units < cLine := by omega
      cases c' with
      | non => simp only [pyEq, Option.some.injEq] at e; subst e; exact ⟨.list_none p hu', .list_none p hu', .list_none p hu'⟩
      | bl _ => simp only [pyEq, Option.some.injEq] at e; subst e; exact ⟨.list_bool _ p hu', .list_bool _ p hu', .list_bool _ p hu'⟩
      | int _ _ => simp only [pyEq, Option.some.injEq] at e; subst e; exact ⟨.list_int _ _ p hu', .list_int _ _ p hu', .list_int _ _ p hu'⟩
      | str _ _ => simp only [pyEq, Option.some.injEq] at e; subst e; exact ⟨.list_str _ _ p hu', .list_str _ _ p hu', .list_str _ _ p hu'⟩
      | tup p' _ => simp only [pyEq, Option.some.injEq] at e; subst e; exact ⟨.list_tuple p p' hu', .list_tuple p p' hu', .list_tuple p p' hu'⟩
      | @lst a' ys vs p' cs' =>
        have l1 := cs.length
        have l2 := cs'.length
        by_cases hl : xs.length = ys.length
        · simp only [pyEq, hl, if_true] at e
          obtain ⟨f, hf, hb⟩ := eqs_at e
          have hsz : us.toArray.size = vs.toArray.size := by simp; omega
          have it : ∀ j (h1 : j < us.toArray.size) (h2 : j < vs.toArray.size), EqAt A.in1 s us.toArray[j] vs.toArray[j] (f j) := fun j h1 h2 =>
            (eqs_is xs ys us vs A.in1 cs cs' (by show A.units + 1 + _ < cLine; simp only [dep] at hu; omega) j f hf (by simpa using h1) (by simpa using h2)).eq
          have rb : ((List.range us.toArray.size).all f) = b := by
            rw [← hb, show min xs.length ys.length = us.toArray.size by simp; omega]
            simp [hl]
          have r := RcAt.lists p p' hsz hu' it
          rw [rb] at r
          have rn := RcNeAt.lists p p' hsz hu' it
          rw [rb] at rn
          refine ⟨r, rn, ?_⟩
          by_cases q : a = a'
          · subst q
            have := Con.refl_eq (.lst xs) (.lst ys) _ b (.lst p cs) (.lst p' cs') (by simpa [pyEq, hl] using e)
            subst this
            exact .same _
          · exact .of_refs q r
        · simp only [pyEq, hl, if_false, Option.some.injEq] at e
          subst e
          have hsz : (us.toArray.size != vs.toArray.size) = true := by simp; omega
          have r := RcAt.lists_lengths p p' hsz hu'
          refine ⟨r, RcNeAt.lists_lengths p p' hsz hu', .of_refs (fun q => ?_) r⟩
          subst q
          have q := isList_inj p p'
          rw [q] at hsz; simp at hsz
      | dct => simp [pyEq] at e
      | ref => simp [pyEq] at e
      | fn => simp [pyEq] at e
      | scr => simp [pyEq] at e
  | .dct _ _, y, u, v, b, A, c, c', e, hu => by cases y <;> simp [pyEq] at e
  | .ref _, y, u, v, b, A, c, c', e, hu => by cases y <;> simp [pyEq] at e
  | .fn _, y, u, v, b, A, c, c', e, hu => by cases y <;> simp [pyEq] at e
  | .scr _, y, u, v, b, A, c, c', e, hu => by cases y <;> simp [pyEq] at e
theorem eqs_is : ∀ (xs ys : List AV) (us vs : List Value) (A : Around), Cons s.heap xs us → Cons s.heap ys vs → A.units + min (deps xs) (deps ys) < cLine →
    ∀ (j : Nat) (f : Nat → Bool), (∀ j (h1 : j < xs.length) (h2 : j < ys.length), pyEq xs[j] ys[j] = some (f j)) → ∀ (h1 : j < us.length) (h2 : j < vs.length), EqIs A s us[j] vs[j] (f j)
  | [], _, _, _, _, c, _, _, j, _, _, h1, _ => by cases c; exact absurd h1 (by simp)
  | _ :: _, [], _, _, _, _, c', _, j, _, _, _, h2 => by cases c'; exact absurd h2 (by simp)
  | x :: xs, y :: ys, _, _, A, c, c', hu, j, f, hf, h1, h2 => by
    cases c with
    | cons c cs =>
      cases c' with
      | cons c' cs' =>
        cases j with
        | zero => exact eq_is x y _ _ _ A c c' (hf 0 (by simp) (by simp)) (by have := min_deps (x := x) (y := y) (xs := xs) (ys := ys); omega)
        | succ j => exact eqs_is xs ys _ _ A cs cs' (by have := min_deps' (x := x) (y := y) (xs := xs) (ys := ys); omega) j (fun j => f (j + 1)) (fun j h1 h2 => hf (j + 1) (by simpa using h1) (by simpa using h2)) (by simpa using h1) (by simpa using h2)
end
end
end G

set_option Elab.async false
set_option linter.all false
set_option maxRecDepth 100000
set_option maxHeartbeats 4000000
/-! GC: the abstract state and the hand layer's. -/
namespace G
open PySem PySem.Spec PyProof.Rows L2

/-! ### one value has one answer -/
mutual
theorem Con.det {h : Heap} : ∀ (y1 y2 x : AV) (u : Value) (k1 k2 : Bool), Con h y1 u → Con h y2 u → pyEq y1 x = some k1 → pyEq y2 x = some k2 → k1 = k2
  | .non, y2, x, u, k1, k2, c, c', e, e' => by
    cases c; cases c' <;> cases x <;> simp_all [pyEq]
  | .bl _, y2, x, u, k1, k2, c, c', e, e' => by
    cases c; cases c' <;> cases x <;> simp_all [pyEq]
  | .int _, y2, x, u, k1, k2, c, c', e, e' => by
    cases c; cases c' <;> cases x <;> simp_all [pyEq]
  | .str _, y2, x, u, k1, k2, c, c', e, e' => by
    cases c; cases c' <;> cases x <;> simp_all [pyEq]
  | .tup xs, y2, x, u, k1, k2, c, c', e, e' => by
    cases c with
    | tup p cs =>
      cases c' with
      | tup p' cs' =>
        cases (arr_inj (isTuple_inj p p'))
        cases x <;> simp only [pyEq, Option.some.injEq, reduceCtorEq] at e e'
        case tup zs => exact Con.dets xs _ zs _ k1 k2 cs cs' e e'
        all_goals (rw [← e, ← e'])
      | lst p' cs' => exact (not_list_tuple p' p).elim
      | dct => cases x <;> simp [pyEq] at e'
      | ref => cases x <;> simp [pyEq] at e'
      | fn => cases x <;> simp [pyEq] at e'
      | scr => cases x <;> simp [pyEq] at e'
  | .lst xs, y2, x, u, k1, k2, c, c', e, e' => by
    cases c with
    | lst p cs =>
      cases c' with
      | @lst _ ys _ p' cs' =>
        cases (arr_inj (isList_inj p p'))
        have l : xs.length = ys.length := cs.length.trans cs'.length.symm
        cases x <;> simp only [pyEq, Option.some.injEq, reduceCtorEq] at e e'
        case lst zs =>
          by_cases hl : xs.length = zs.length
          · rw [if_pos hl] at e
            rw [if_pos (l.symm.trans hl)] at e'
            exact Con.dets xs _ zs _ k1 k2 cs cs' e e'
          · rw [if_neg hl] at e
            rw [if_neg (fun q => hl (l.trans q))] at e'
            exact Option.some.inj (e.symm.trans e')
        all_goals (rw [← e, ← e'])
      | tup p' cs' => exact (not_list_tuple p p').elim
      | dct => cases x <;> simp [pyEq] at e'
      | ref => cases x <;> simp [pyEq] at e'
      | fn => cases x <;> simp [pyEq] at e'
      | scr => cases x <;> simp [pyEq] at e'
  | .dct _ _, _, x, _, _, _, _, _, e, _ => by cases x <;> simp [pyEq] at e
  | .ref _, _, x, _, _, _, _, _, e, _ => by cases x <;> simp [pyEq] at e
  | .fn _, _, x, _, _, _, _, _, e, _ => by cases x <;> simp [pyEq] at e
  | .scr _, _, x, _, _, _, _, _, e, _ => by cases x <;> simp [pyEq] at e
theorem Con.dets {h : Heap} : ∀ (xs ys zs : List AV) (us : List Value) (k1 k2 : Bool), Cons h xs us → Cons h ys us → pyEqs xs zs = some k1 → pyEqs ys zs = some k2 → k1 = k2
  | [], ys, zs, us, k1, k2, c, c', e, e' => by
    cases c; cases c'
    exact Option.some.inj (e.symm.trans e')
  | x :: xs, ys, [], us, k1, k2, c, c', e, e' => by
    cases c; cases c'
    simp only [pyEqs, Option.some.injEq] at e e'
    rw [← e, ← e']
  | x :: xs, ys, z :: zs, us, k1, k2, c, c', e, e' => by
    cases c with
    | cons c cs =>
      cases c' with
      | @cons y _ ys _ c' cs' =>
        simp only [pyEqs, Option.bind_eq_some_iff, Option.map_eq_some_iff] at e e'
        obtain ⟨a1, e1, a2, e2, rfl⟩ := e
        obtain ⟨b1, f1, b2, f2, rfl⟩ := e'
        rw [Con.det x y z _ _ _ c c' e1 f1, Con.dets xs ys zs _ _ _ cs cs' e2 f2]
end


/-- == against x, told of a value of the machine -/
def Ans (h : Heap) (x : AV) (u : Value) (b : Bool) : Prop := ∃ y, Con h y u ∧ eqD y x = some b
theorem Ans.det {h : Heap} {x : AV} {u : Value} {b b' : Bool} (p : Ans h x u b) (p' : Ans h x u b') : b = b' := by
  obtain ⟨y, c, e⟩ := p
  obtain ⟨y', c', e'⟩ := p'
  unfold eqD at e e'
  split at e
  · split at e'
    · exact Con.det y y' x u b b' c c' e e'
    · cases e'
  · cases e
open SeqAt in
theorem in_answers' {s : Shared} {A : Around} {x : AV} {v : Value} (cx : Con s.heap x v) (hu : A.units + 60 < cLine) (e : Value → Bool) (he : ∀ u b, Ans s.heap x u b → e u = b) :
    ∀ {xs : List AV} {us : List Value} {k : Bool}, Cons s.heap xs us → pyIn x xs = some k → (∀ u ∈ us, EqAt A s u v (e u)) ∧ us.any e = k
  | [], _, k, cs, hk => by
    cases cs
    exact ⟨fun u hu => (by cases hu), by simpa [pyIn] using hk⟩
  | y :: ys, _, k, cs, hk => by
    cases cs with
    | cons c cs =>
      simp only [pyIn, Option.bind_eq_some_iff, Option.map_eq_some_iff] at hk
      obtain ⟨a, e1, b, e2, rfl⟩ := hk
      have ea := he _ _ ⟨y, c, e1⟩
      obtain ⟨h1, h2⟩ := in_answers' cx hu e he cs e2
      refine ⟨fun u hu' => ?_, by rw [List.any_cons, ea, h2]⟩
      rcases List.mem_cons.mp hu' with rfl | hu'
      · rw [ea]
        unfold eqD at e1
        split at e1
        · exact (eq_is y x _ v a A c cx e1 (by omega)).eq
        · cases e1
      · exact h1 u hu'
open SeqAt in
/-- the answers of == against one value, by the machine's values -/
theorem in_answers {s : Shared} {A : Around} {x : AV} {v : Value} (cx : Con s.heap x v) (hu : A.units + 60 < cLine) {xs : List AV} {us : List Value} {k : Bool} (cs : Cons s.heap xs us) (hk : pyIn x xs = some k) :
    ∃ e : Value → Bool, (∀ u ∈ us, EqAt A s u v (e u)) ∧ us.any e = k := by
  classical
  refine ⟨fun u => if Ans s.heap x u true then true else false, in_answers' cx hu _ (fun u b p => ?_) cs hk⟩
  by_cases q : Ans s.heap x u true
  · simp only [if_pos q]; exact q.det p
  · simp only [if_neg q]
    cases b with
    | true => exact absurd p q
    | false => rfl

/-! ### the abstract value and the layer's value -/
/-- the script: locked, or of the written part -/
def SqS (K : PySem.W.Frag) (H : Hp) (a : Addr) (ns : List Int) : Prop := (∃ o, H a = some (.frz o (.lst (ns.map V.int)))) ∨
    ∃ (o : Obj) (its : Array Value) (n : Nat), K.lookup a = some o ∧ o.cls = .type "list" ∧ o.dict = none ∧ o.data = .seq its n ∧ its.size ≤ sizeLine ∧ Vals (ns.map V.int) its.toList
theorem SqS.sq {K : PySem.W.Frag} {H : Hp} {a : Addr} {ns : List Int} (h : SqS K H a ns) : SqL K H a (ns.map V.int) := by
  rcases h with h | h
  · exact .inl (.inr h)
  · exact .inr h


mutual
inductive Rep (K : PySem.W.Frag) (mg : Str → Option Value) (ρ : List Addr) (ex : Addr → Prop) (H : Hp) : AV → V → Prop
  | non : Rep K mg ρ ex H .non .non
  | bl (b : Bool) : Rep K mg ρ ex H (.bl b) (.bl b)
  | int (i : Int) : Rep K mg ρ ex H (.int i) (.int i)
  | str (x : Str) : Rep K mg ρ ex H (.str x) (.str x)
  | tup {a : Addr} {xs : List AV} {vs : List V} : SqT K H a vs → Reps K mg ρ ex H xs vs → Rep K mg ρ ex H (.tup xs) (.ref a)
  | lst {a : Addr} {xs : List AV} {vs : List V} : H a = some (.lst vs) → a ∉ ρ → ¬ ex a → Reps K mg ρ ex H xs vs → Rep K mg ρ ex H (.lst xs) (.ref a)
  | dct {a : Addr} {kvs : List (Key × V)} {vs : List AV} : H a = some (.dK kvs) → a ∉ ρ → ¬ ex a → Reps K mg ρ ex H vs (kvs.map (·.2)) → Rep K mg ρ ex H (.dct (kvs.map fun p => keyA p.1) vs) (.ref a)
  | ref {n : Nat} {a : Addr} : ρ[n]? = some a → Rep K mg ρ ex H (.ref n) (.ref a)
  | fn {x : Str} {f : Addr} : mg x = some (.ref f) → Rep K mg ρ ex H (.fn x) (.ref f)
  | scr {a : Addr} {ns : List Int} : SqS K H a ns → Rep K mg ρ ex H (.scr ns) (.ref a)
inductive Reps (K : PySem.W.Frag) (mg : Str → Option Value) (ρ : List Addr) (ex : Addr → Prop) (H : Hp) : List AV → List V → Prop
  | nil : Reps K mg ρ ex H [] []
  | cons {x : AV} {v : V} {xs : List AV} {vs : List V} : Rep K mg ρ ex H x v → Reps K mg ρ ex H xs vs → Reps K mg ρ ex H (x :: xs) (v :: vs)
end

/-- what leaves every reading as it is -/
structure Stp (ρ : List Addr) (ex : Addr → Prop) (H : Hp) (ρ' : List Addr) (ex' : Addr → Prop) (H' : Hp) : Prop where
  val : ∀ a u, H a = some u → a ∉ ρ → ¬ ex a → H' a = some u ∧ a ∉ ρ' ∧ ¬ ex' a
  fix : ∀ a u, H a = some u → ¬ Mut (some u) → H' a = some u
  ref : ∀ (n : Nat) (a : Addr), ρ[n]? = some a → ρ'[n]? = some a
section
variable {K : PySem.W.Frag} {mg : Str → Option Value} {ρ ρ' ρ'' : List Addr} {ex ex' ex'' : Addr → Prop} {H H' H'' : Hp}
theorem Stp.refl : Stp ρ ex H ρ ex H := ⟨fun _ _ e n x => ⟨e, n, x⟩, fun _ _ e _ => e, fun _ _ e => e⟩
theorem Stp.trans (a : Stp ρ ex H ρ' ex' H') (b : Stp ρ' ex' H' ρ'' ex'' H'') : Stp ρ ex H ρ'' ex'' H'' :=
  ⟨fun c u e n x => let ⟨e1, n1, x1⟩ := a.val c u e n x; b.val c u e1 n1 x1, fun c u e m => b.fix c u (a.fix c u e m) m, fun n c e => b.ref n c (a.ref n c e)⟩
theorem Stp.sqT (a : Stp ρ ex H ρ' ex' H') {b : Addr} {vs : List V} (h : SqT K H b vs) : SqT K H' b vs := by
  rcases h with (h | ⟨o, h⟩) | h
  · exact .inl (.inl (a.fix b _ h (fun z => z)))
  · exact .inl (.inr ⟨o, a.fix b _ h (fun z => z)⟩)
  · exact .inr h
theorem Stp.sqS (a : Stp ρ ex H ρ' ex' H') {b : Addr} {ns : List Int} (h : SqS K H b ns) : SqS K H' b ns := by
  rcases h with ⟨o, h⟩ | h
  · exact .inl ⟨o, a.fix b _ h (fun z => z)⟩
  · exact .inr h
mutual
theorem Rep.step (a : Stp ρ ex H ρ' ex' H') : ∀ {x : AV} {v : V}, Rep K mg ρ ex H x v → Rep K mg ρ' ex' H' x v
  | _, _, .non => .non
  | _, _, .bl b => .bl b
  | _, _, .int i => .int i
  | _, _, .str x => .str x
  | _, _, .tup q r => .tup (a.sqT q) (Reps.step a r)
  | _, _, .lst e n x r => let ⟨e1, n1, x1⟩ := a.val _ _ e n x; .lst e1 n1 x1 (Reps.step a r)
  | _, _, .dct e n x r => let ⟨e1, n1, x1⟩ := a.val _ _ e n x; .dct e1 n1 x1 (Reps.step a r)
  | _, _, .ref e => .ref (a.ref _ _ e)
  | _, _, .fn e => .fn e
  | _, _, .scr q => .scr (a.sqS q)
theorem Reps.step (a : Stp ρ ex H ρ' ex' H') : ∀ {xs : List AV} {vs : List V}, Reps K mg ρ ex H xs vs → Reps K mg ρ' ex' H' xs vs
  | _, _, .nil => .nil
  | _, _, .cons r rs => .cons (Rep.step a r) (Reps.step a rs)
end
theorem Reps.length : ∀ {xs : List AV} {vs : List V}, Reps K mg ρ ex H xs vs → xs.length = vs.length
  | _, _, .nil => rfl
  | _, _, .cons _ rs => congrArg Nat.succ (Reps.length rs)
theorem Reps.get : ∀ {xs : List AV} {vs : List V} {i : Nat} {x : AV}, Reps K mg ρ ex H xs vs → xs[i]? = some x → ∃ v, vs[i]? = some v ∧ Rep K mg ρ ex H x v
  | _, _, _, _, .nil, e => by simp at e
  | _, _, 0, _, .cons r _, e => by simp at e; subst e; exact ⟨_, rfl, r⟩
  | _, _, i + 1, _, .cons _ rs, e => by
    obtain ⟨v, h1, h2⟩ := Reps.get (i := i) rs (by simpa using e)
    exact ⟨v, by simpa using h1, h2⟩
theorem Reps.get' : ∀ {xs : List AV} {vs : List V} {i : Nat} {v : V}, Reps K mg ρ ex H xs vs → vs[i]? = some v → ∃ x, xs[i]? = some x ∧ Rep K mg ρ ex H x v
  | _, _, _, _, .nil, e => by simp at e
  | _, _, 0, _, .cons r _, e => by simp at e; subst e; exact ⟨_, rfl, r⟩
  | _, _, i + 1, _, .cons _ rs, e => by
    obtain ⟨v, h1, h2⟩ := Reps.get' (i := i) rs (by simpa using e)
    exact ⟨v, by simpa using h1, h2⟩
theorem Reps.append : ∀ {xs ys : List AV} {vs ws : List V}, Reps K mg ρ ex H xs vs → Reps K mg ρ ex H ys ws → Reps K mg ρ ex H (xs ++ ys) (vs ++ ws)
  | _, _, _, _, .nil, s => s
  | _, _, _, _, .cons r rs, s => .cons r (Reps.append rs s)
theorem Reps.take : ∀ {xs : List AV} {vs : List V} (n : Nat), Reps K mg ρ ex H xs vs → Reps K mg ρ ex H (xs.take n) (vs.take n)
  | _, _, 0, _ => .nil
  | _, _, _ + 1, .nil => .nil
  | _, _, n + 1, .cons r rs => .cons r (Reps.take n rs)
theorem Reps.drop : ∀ {xs : List AV} {vs : List V} (n : Nat), Reps K mg ρ ex H xs vs → Reps K mg ρ ex H (xs.drop n) (vs.drop n)
  | _, _, 0, r => r
  | _, _, _ + 1, .nil => .nil
  | _, _, n + 1, .cons _ rs => Reps.drop n rs
theorem Reps.set : ∀ {xs : List AV} {vs : List V} {x : AV} {v : V} (n : Nat), Reps K mg ρ ex H xs vs → Rep K mg ρ ex H x v → Reps K mg ρ ex H (xs.set n x) (vs.set n v)
  | _, _, _, _, _, .nil, _ => .nil
  | _, _, _, _, 0, .cons _ rs, r => .cons r rs
  | _, _, _, _, n + 1, .cons r rs, q => .cons r (Reps.set n rs q)
theorem Reps.reverse : ∀ {xs : List AV} {vs : List V}, Reps K mg ρ ex H xs vs → Reps K mg ρ ex H xs.reverse vs.reverse
  | _, _, .nil => .nil
  | _, _, .cons r rs => by
    rw [List.reverse_cons, List.reverse_cons]
    exact Reps.append (Reps.reverse rs) (.cons r .nil)
theorem Reps.isEmpty {xs : List AV} {vs : List V} (r : Reps K mg ρ ex H xs vs) : xs.isEmpty = vs.isEmpty := by cases r <;> rfl
theorem Reps.bls {bs : List Bool} : ∀ {vs : List V}, Reps K mg ρ ex H (bs.map AV.bl) vs → vs = bs.map V.bl := by
  induction bs with
  | nil => intro vs r; cases r; rfl
  | cons b bs ih =>
    intro vs r
    cases r with
    | cons r rs => cases r; rw [ih rs]; rfl
theorem Reps.ints {ns : List Int} : ∀ {vs : List V}, Reps K mg ρ ex H (ns.map AV.int) vs → vs = ns.map V.int := by
  induction ns with
  | nil => intro vs r; cases r; rfl
  | cons b bs ih =>
    intro vs r
    cases r with
    | cons r rs => cases r; rw [ih rs]; rfl
end

/-- what is only looked into: also a list of one's own -/
def RepW (K : PySem.W.Frag) (mg : Str → Option Value) (ρ : List Addr) (ex : Addr → Prop) (H : Hp) (x : AV) (v : V) : Prop :=
  Rep K mg ρ ex H x v ∨ ∃ xs a vs, x = .lst xs ∧ v = .ref a ∧ H a = some (.lst vs) ∧ a ∉ ρ ∧ Reps K mg ρ ex H xs vs

/-- behind an expression: cells may have turned, new things may have come, all else stands -/
structure Ext (ρ : List Addr) (H : Hp) (ρ' : List Addr) (H' : Hp) : Prop where
  pre : ∃ t, ρ' = ρ ++ t
  new : ∀ a, a ∈ ρ' → a ∉ ρ → H a = none
  fix : ∀ a u, H a = some u → ¬ Mut (some u) → H' a = some u
  keep : ∀ a u, H a = some u → a ∉ ρ → H' a = some u
section
variable {K : PySem.W.Frag} {mg : Str → Option Value} {ρ ρ' ρ'' : List Addr} {ex : Addr → Prop} {H H' H'' : Hp}
theorem Ext.refl : Ext ρ H ρ H := ⟨⟨[], by simp⟩, fun _ a n => absurd a n, fun _ _ e _ => e, fun _ _ e _ => e⟩
theorem Ext.sub (a : Ext ρ H ρ' H') {b : Addr} (h : b ∈ ρ) : b ∈ ρ' := by
  obtain ⟨t, e⟩ := a.pre
  rw [e]; exact List.mem_append_left _ h
theorem Ext.trans (a : Ext ρ H ρ' H') (b : Ext ρ' H' ρ'' H'') : Ext ρ H ρ'' H'' := by
  refine ⟨?_, fun c h n => ?_, fun c u e m => b.fix c u (a.fix c u e m) m, fun c u e n => ?_⟩
  · obtain ⟨t, e⟩ := a.pre
    obtain ⟨t', e'⟩ := b.pre
    exact ⟨t ++ t', by rw [e', e, List.append_assoc]⟩
  · by_cases q : c ∈ ρ'
    · exact a.new c q n
    · cases z : H c with
      | none => rfl
      | some u => have := a.keep c u z n; rw [b.new c h q] at this; cases this
  · refine b.keep c u (a.keep c u e n) fun q => ?_
    rw [a.new c q n] at e; cases e
theorem Ext.step (a : Ext ρ H ρ' H') : Stp ρ ex H ρ' ex H' :=
  ⟨fun b u e n x => ⟨a.keep b u e n, fun q => (by rw [a.new b q n] at e; cases e), x⟩, a.fix, fun n b e => by
    obtain ⟨t, e'⟩ := a.pre
    rw [e', List.getElem?_append_left (List.getElem?_eq_some_iff.mp e).1]; exact e⟩
theorem RepW.step (a : Ext ρ H ρ' H') {x : AV} {v : V} (h : RepW K mg ρ ex H x v) : RepW K mg ρ' ex H' x v := by
  rcases h with h | ⟨xs, b, vs, e1, e2, e3, n, r⟩
  · exact .inl (h.step a.step)
  · exact .inr ⟨xs, b, vs, e1, e2, a.keep b _ e3 n, fun q => (by rw [a.new b q n] at e3; cases e3), r.step a.step⟩
theorem RepW.lst {xs : List AV} {v : V} (h : RepW K mg ρ ex H (.lst xs) v) : ∃ a vs, v = .ref a ∧ H a = some (.lst vs) ∧ a ∉ ρ ∧ Reps K mg ρ ex H xs vs := by
  rcases h with h | ⟨ys, b, vs, e1, e2, e3, n, r⟩
  · cases h with
    | lst e n x r => exact ⟨_, _, rfl, e, n, r⟩
  · cases e1
    exact ⟨b, vs, e2, e3, n, r⟩
theorem RepW.rep {x : AV} {v : V} (h : RepW K mg ρ ex H x v) (n : ∀ xs, x ≠ .lst xs) : Rep K mg ρ ex H x v := by
  rcases h with h | ⟨ys, b, vs, e1, _⟩
  · exact h
  · exact absurd e1 (n ys)
end

/-! ### the abstract heap -/
def CellRel (K : PySem.W.Frag) (mg : Str → Option Value) (ρ : List Addr) (ex : Addr → Prop) (H : Hp) (a : Addr) : Cell → Prop
  | .lst xs => ∃ vs, H a = some (.lst vs) ∧ Reps K mg ρ ex H xs vs
  | .dK ks vs => ∃ kvs : List (Key × V), H a = some (.dK kvs) ∧ kvs.map (·.1) = ks ∧ Reps K mg ρ ex H vs (kvs.map (·.2))
  | .dT ks vs => ∃ kvs : List (List Key × V), H a = some (.dT kvs) ∧ kvs.map (·.1) = ks ∧ Reps K mg ρ ex H vs (kvs.map (·.2))
  | .ins C fs => ∃ (Ca dx : Addr) (gs : List (Str × V)), mg C = some (.ref Ca) ∧ H a = some (.ins Ca dx gs) ∧ gs.map (·.1) = fs.map (·.1) ∧ Reps K mg ρ ex H (fs.map (·.2)) (gs.map (·.2))
structure HRel (K : PySem.W.Frag) (mg : Str → Option Value) (ρ : List Addr) (ex : Addr → Prop) (ah : AH) (H : Hp) : Prop where
  len : ρ.length = ah.length
  nd : ρ.Nodup
  out : ∀ a ∈ ρ, ¬ ex a
  exOk : ∀ a, ex a → H a ≠ none
  cell : ∀ (n : Nat) (c : Cell) (a : Addr), ah[n]? = some c → ρ[n]? = some a → CellRel K mg ρ ex H a c
/-- what the names hold -/
def SlotRel (K : PySem.W.Frag) (mg : Str → Option Value) (ρ : List Addr) (ex : Addr → Prop) (H : Hp) (w : Option Addr) (v : Option V) : Sv → Prop
  | .un => True
  | .vl x => ∃ u, v = some u ∧ Rep K mg ρ ex H x u
  | .ol xs => ∃ a vs, v = some (.ref a) ∧ w = some a ∧ H a = some (.lst vs) ∧ Reps K mg ρ ex H xs vs
structure StRel (K : PySem.W.Frag) (mg : Str → Option Value) (ρ : List Addr) (ex : Addr → Prop) (ws : List (Option Addr)) (aσ : ASt) (ah : AH) (σ : L2.St) (H : Hp) : Prop where
  hp : HRel K mg ρ ex ah H
  len : aσ.length = σ.length
  wlen : ws.length = σ.length
  slot : ∀ (i : Nat) (s : Sv) (v : Option V) (w : Option Addr), aσ[i]? = some s → σ[i]? = some v → ws[i]? = some w → SlotRel K mg ρ ex H w v s
  own : ∀ (i : Nat) (a : Addr), ws[i]? = some (some a) → ex a
  inj : ∀ (i j : Nat) (a : Addr), ws[i]? = some (some a) → ws[j]? = some (some a) → i = j

section
variable {K : PySem.W.Frag} {mg : Str → Option Value} {ρ ρ' : List Addr} {ex ex' : Addr → Prop} {H H' : Hp} {ah : AH}
theorem CellRel.ne {a : Addr} : ∀ {c : Cell}, CellRel K mg ρ ex H a c → H a ≠ none
  | .lst _, ⟨_, e, _⟩ => by rw [e]; simp
  | .dK _ _, ⟨_, e, _⟩ => by rw [e]; simp
  | .dT _ _, ⟨_, e, _⟩ => by rw [e]; simp
  | .ins _ _, ⟨_, _, _, _, e, _⟩ => by rw [e]; simp
theorem CellRel.mut {a : Addr} : ∀ {c : Cell}, CellRel K mg ρ ex H a c → Mut (H a)
  | .lst _, ⟨_, e, _⟩ => by rw [e]; trivial
  | .dK _ _, ⟨_, e, _⟩ => by rw [e]; trivial
  | .dT _ _, ⟨_, e, _⟩ => by rw [e]; trivial
  | .ins _ _, ⟨_, _, _, _, e, _⟩ => by rw [e]; trivial
/-- a cell that itself stands, the rest stepping -/
theorem CellRel.step (a : Stp ρ ex H ρ' ex' H') {b : Addr} (e : H' b = H b) : ∀ {c : Cell}, CellRel K mg ρ ex H b c → CellRel K mg ρ' ex' H' b c
  | .lst _, ⟨vs, h, r⟩ => ⟨vs, e.trans h, r.step a⟩
  | .dK _ _, ⟨kvs, h, hk, r⟩ => ⟨kvs, e.trans h, hk, r.step a⟩
  | .dT _ _, ⟨kvs, h, hk, r⟩ => ⟨kvs, e.trans h, hk, r.step a⟩
  | .ins _ _, ⟨Ca, dx, gs, m, h, hk, r⟩ => ⟨Ca, dx, gs, m, e.trans h, hk, r.step a⟩
theorem HRel.there (h : HRel K mg ρ ex ah H) {a : Addr} (m : a ∈ ρ) : ∃ (n : Nat) (c : Cell), ah[n]? = some c ∧ ρ[n]? = some a ∧ CellRel K mg ρ ex H a c := by
  obtain ⟨n, hn, e⟩ := List.getElem_of_mem m
  have hn' : n < ah.length := by rw [← h.len]; exact hn
  have e1 : ah[n]? = some ah[n] := by simp [hn']
  have e2 : ρ[n]? = some a := by rw [List.getElem?_eq_getElem hn, e]
  exact ⟨n, _, e1, e2, h.cell n _ a e1 e2⟩
theorem HRel.ne (h : HRel K mg ρ ex ah H) {a : Addr} (m : a ∈ ρ) : H a ≠ none := let ⟨_, _, _, _, c⟩ := h.there m; c.ne
theorem HRel.mut (h : HRel K mg ρ ex ah H) {a : Addr} (m : a ∈ ρ) : Mut (H a) := let ⟨_, _, _, _, c⟩ := h.there m; c.mut
/-- more is excluded, at a place where nothing stood -/
theorem HRel.at {n : Nat} {c : Cell} (h : HRel K mg ρ ex ah H) (e : ah[n]? = some c) : ∃ a, ρ[n]? = some a ∧ CellRel K mg ρ ex H a c := by
  have hn : n < ρ.length := by rw [h.len]; exact (List.getElem?_eq_some_iff.mp e).1
  exact ⟨ρ[n], List.getElem?_eq_getElem hn, h.cell n c _ e (List.getElem?_eq_getElem hn)⟩
end

section
variable {K : PySem.W.Frag} {mg : Str → Option Value} {ρ ρ' : List Addr} {ex ex' : Addr → Prop} {H H' : Hp} {ah ah' : AH} {ws : List (Option Addr)} {aσ : ASt} {σ : L2.St}
theorem SlotRel.ext (a : Ext ρ H ρ' H') {w : Option Addr} {v : Option V} (hw : ∀ b, w = some b → b ∉ ρ) : ∀ {s : Sv}, SlotRel K mg ρ ex H w v s → SlotRel K mg ρ' ex H' w v s
  | .un, _ => trivial
  | .vl _, ⟨u, e, r⟩ => ⟨u, e, r.step a.step⟩
  | .ol _, ⟨b, vs, e1, e2, e3, r⟩ => ⟨b, vs, e1, e2, a.keep b _ e3 (hw b e2), r.step a.step⟩
/-- the names stand behind an expression -/
theorem StRel.ext (h : StRel K mg ρ ex ws aσ ah σ H) (a : Ext ρ H ρ' H') (hp : HRel K mg ρ' ex ah' H') : StRel K mg ρ' ex ws aσ ah' σ H' :=
  ⟨hp, h.len, h.wlen, fun i s v w e1 e2 e3 => (h.slot i s v w e1 e2 e3).ext a (fun b eb n => by subst eb; exact h.hp.out b n (h.own i b e3)), h.own, h.inj⟩
end
end G

set_option Elab.async false
set_option linter.all false
set_option maxRecDepth 100000
set_option maxHeartbeats 4000000
/-! GD: operations, by values. -/
namespace G
open PySem PySem.Spec PyProof.Rows L2

/-! ### ends -/
def Post {α : Type} (r : Rs α) (k : α → AH → Prop) (e : Exn → AH → Prop) : Prop := match r with
  | .ok a h => k a h
  | .ex x h => e x h
  | .no => False
theorem Post.imp {α : Type} {r : Rs α} {k k' : α → AH → Prop} {e e' : Exn → AH → Prop} (h : Post r k e) (hk : ∀ a h, k a h → k' a h) (he : ∀ x h, e x h → e' x h) : Post r k' e' := by
  cases r with
  | ok a h' => exact hk _ _ h
  | ex x h' => exact he _ _ h
  | no => exact h
theorem Post.bind {α β : Type} {r : Rs α} {f : α → AH → Rs β} {k : β → AH → Prop} {e : Exn → AH → Prop} : Post (r.bind f) k e ↔ Post r (fun a h => Post (f a h) k e) e := by cases r <;> exact Iff.rfl
theorem Post.lift {α : Type} {o : Option α} {h : AH} {k : α → AH → Prop} {e : Exn → AH → Prop} (p : Post (lift o h) k e) : ∃ a, o = some a ∧ k a h := by
  cases o with
  | none => exact p.elim
  | some a => exact ⟨a, rfl, p⟩
theorem Post.ite {α : Type} {c : Prop} [Decidable c] {r : Rs α} {k : α → AH → Prop} {e : Exn → AH → Prop} (p : Post (if c then r else .no) k e) : c ∧ Post r k e := by
  by_cases h : c
  · rw [if_pos h] at p; exact ⟨h, p⟩
  · rw [if_neg h] at p; exact p.elim

/-- an exception that flies -/
def XRel (K : PySem.W.Frag) (mg : Str → Option Value) (ρ : List Addr) (ex : Addr → Prop) (H : Hp) (x : Exn) (c : Value) (d : Option Addr) : Prop :=
  ∃ C, mg x.cls = some (.ref C) ∧ c = .ref C ∧ ((x.fs = [] ∧ d = none) ∨ ∃ dx gs, d = some dx ∧ H dx = some (.xd gs) ∧ gs.map (·.1) = x.fs.map (·.1) ∧ Reps K mg ρ ex H (x.fs.map (·.2)) (gs.map (·.2)))
def ExC (X : Cx) (E : XK) (ρ : List Addr) (ex : Addr → Prop) (H : Hp) (x : Exn) (ah' : AH) : Prop :=
  ∀ ρ' H' c d, Ext ρ H ρ' H' → HRel X.K X.mg ρ' ex ah' H' → XRel X.K X.mg ρ' ex H' x c d → E c d H'
/-- the end of an expression that comes to v -/
def Kok (X : Cx) (ρ : List Addr) (ex : Addr → Prop) (H : Hp) (Q : VK) (v : AV) (ah' : AH) : Prop :=
  ∀ ρ' H' v', Ext ρ H ρ' H' → HRel X.K X.mg ρ' ex ah' H' → Rep X.K X.mg ρ' ex H' v v' → Q v' H'

section
variable {X : Cx} {E : XK} {ρ ρ' : List Addr} {ex : Addr → Prop} {H H' : Hp} {Q : VK} {ah ah' : AH}
theorem ExC.ext {x : Exn} (h : ExC X E ρ ex H x ah') (a : Ext ρ H ρ' H') : ExC X E ρ' ex H' x ah' := fun ρ2 H2 c d b hp r => h ρ2 H2 c d (a.trans b) hp r
theorem Kok.ext {v : AV} (h : Kok X ρ ex H Q v ah') (a : Ext ρ H ρ' H') : Kok X ρ' ex H' Q v ah' := fun ρ2 H2 c b hp r => h ρ2 H2 c (a.trans b) hp r
theorem Kok.here {v : AV} {v' : V} (h : Kok X ρ ex H Q v ah) (hp : HRel X.K X.mg ρ ex ah H) (r : Rep X.K X.mg ρ ex H v v') : Q v' H := h ρ H v' .refl hp r

/-- a new thing laid -/
theorem ext_new {p : Addr} {o : HO} (hp : HRel X.K X.mg ρ ex ah H) (np : H p = none) : Ext ρ H ρ (upd H p o) :=
  ⟨⟨[], by simp⟩, fun _ a n => absurd a n, fun a u e _ => by rw [upd_ne (ne_of_none e np)]; exact e, fun a u e _ => by rw [upd_ne (ne_of_none e np)]; exact e⟩
theorem hrel_new {p : Addr} {o : HO} (hp : HRel X.K X.mg ρ ex ah H) (np : H p = none) : HRel X.K X.mg ρ ex ah (upd H p o) :=
  ⟨hp.len, hp.nd, hp.out, fun a x => by
    by_cases e : a = p
    · subst e; rw [upd_same]; simp
    · rw [upd_ne e]; exact hp.exOk a x, fun n c a e1 e2 => by
    refine (hp.cell n c a e1 e2).step (ext_new hp np).step ?_
    rw [upd_ne (fun e => by subst e; exact hp.ne (List.mem_of_getElem? e2) np)]⟩
theorem Kok.tup {xs : List AV} {vs : List V} (h : Kok X ρ ex H Q (.tup xs) ah) (hp : HRel X.K X.mg ρ ex ah H) (r : Reps X.K X.mg ρ ex H xs vs) (p : Addr) (np : H p = none) : Q (.ref p) (upd H p (.tup vs)) :=
  h ρ _ _ (ext_new hp np) (hrel_new hp np) (.tup (.inl (.inl upd_same)) (r.step (ext_new hp np).step))
theorem Kok.lst {xs : List AV} {vs : List V} (h : Kok X ρ ex H Q (.lst xs) ah) (hp : HRel X.K X.mg ρ ex ah H) (r : Reps X.K X.mg ρ ex H xs vs) (p : Addr) (np : H p = none) : Q (.ref p) (upd H p (.lst vs)) :=
  h ρ _ _ (ext_new hp np) (hrel_new hp np) (.lst upd_same (fun m => hp.ne m np) (fun x => hp.exOk p x np) (r.step (ext_new hp np).step))
end

/-! ### the machine's heap -/
section
variable {X : Cx} {pins : List (Addr × Obj)} {σ : L2.St} {H : Hp} {s : Shared} {ρ : List Addr} {ex : Addr → Prop}
mutual
theorem Rep.con (I : Inv X pins σ H s) : ∀ {x : AV} {v : V} {u : Value}, Rep X.K X.mg ρ ex H x v → RelV v u → Con s.heap x u
  | _, _, _, .non, r => by cases r; exact .non
  | _, _, _, .bl b, r => by cases r; exact .bl b
  | _, _, _, .int i, r => by obtain ⟨t, rfl⟩ := r; exact .int i t
  | _, _, _, .str x, r => by obtain ⟨t, rfl⟩ := r; exact .str x t
  | _, _, _, .tup q rs, r => by
    cases r
    obtain ⟨its, rv, p, _⟩ := I.tuple q
    exact .tup p (Reps.conAll I rs rv)
  | _, _, _, .lst e _ _ rs, r => by
    cases r
    obtain ⟨its, rv, p, _⟩ := I.list (.of e)
    exact .lst p.isList (Reps.conAll I rs rv)
  | _, _, _, .dct _ _ _ _, _ => .dct _ _ _
  | _, _, _, .ref _, _ => .ref _ _
  | _, _, _, .fn _, _ => .fn _ _
  | _, _, _, .scr _, _ => .scr _ _
theorem Reps.conAll (I : Inv X pins σ H s) : ∀ {xs : List AV} {vs : List V} {us : List Value}, Reps X.K X.mg ρ ex H xs vs → Vals vs us → Cons s.heap xs us
  | _, _, _, .nil, r => by cases r; exact .nil
  | _, _, _, .cons q qs, r => by
    cases r with
    | cons r rs => exact .cons (Rep.con I q r) (Reps.conAll I qs rs)
end
theorem RepW.con (I : Inv X pins σ H s) {x : AV} {v : V} {u : Value} (h : RepW X.K X.mg ρ ex H x v) (r : RelV v u) : Con s.heap x u := by
  rcases h with h | ⟨xs, a, vs, rfl, rfl, e, _, rs⟩
  · exact h.con I r
  · cases r
    obtain ⟨its, rv, p, _⟩ := I.list (.of e)
    exact .lst p.isList (rs.conAll I rv)
/-- the items of a sequence: a list or a tuple of the machine -/
theorem items_at {ah : AH} (hp : HRel X.K X.mg ρ ex ah H) {x : AV} {v : V} {xs : List AV} (h : RepW X.K X.mg ρ ex H x v) (e : items ah x = some xs) :
    ∃ a vs, v = .ref a ∧ ((∃ n, x = .ref n ∧ H a = some (.lst vs)) ∨ (x = .lst xs ∧ H a = some (.lst vs)) ∨ (x = .tup xs ∧ SqT X.K H a vs)) ∧ Reps X.K X.mg ρ ex H xs vs := by
  cases x with
  | tup ys =>
    cases e
    cases h.rep (fun _ q => by cases q) with
    | tup q r => exact ⟨_, _, rfl, .inr (.inr ⟨rfl, q⟩), r⟩
  | lst ys =>
    cases e
    obtain ⟨a, vs, e1, e2, _, r⟩ := h.lst
    exact ⟨a, vs, e1, .inr (.inl ⟨rfl, e2⟩), r⟩
  | ref n =>
    cases h.rep (fun _ q => by cases q) with
    | @ref _ a hn =>
      simp only [items] at e
      split at e
      · rename_i ys hc
        cases e
        obtain ⟨vs, h1, r⟩ := hp.cell n _ a hc hn
        exact ⟨a, vs, rfl, .inl ⟨n, rfl, h1⟩, r⟩
      · cases e
  | non => cases e
  | bl _ => cases e
  | int _ => cases e
  | str _ => cases e
  | dct _ _ => cases e
  | fn _ => cases e
  | scr _ => cases e
theorem items_sq {ah : AH} (hp : HRel X.K X.mg ρ ex ah H) {x : AV} {v : V} {xs : List AV} (h : RepW X.K X.mg ρ ex H x v) (e : items ah x = some xs) :
    ∃ a vs, v = .ref a ∧ (SqL X.K H a vs ∨ SqT X.K H a vs) ∧ Reps X.K X.mg ρ ex H xs vs := by
  obtain ⟨a, vs, e1, q, r⟩ := items_at hp h e
  refine ⟨a, vs, e1, ?_, r⟩
  rcases q with ⟨_, _, q⟩ | ⟨_, q⟩ | ⟨_, q⟩
  · exact .inl (.of q)
  · exact .inl (.of q)
  · exact .inr q
end

/-! ### + - * // % ** -/
def pyB : BOp → Operator
  | .add => .Add
  | .sub => .Sub
  | .mul => .Mult
  | .fdiv => .FloorDiv
  | .mod => .Mod
  | .pow => .Pow
def noX : Exn → AH → Prop := fun _ _ => False
def rB (X : Cx) (o : BOp) : R2 := fun x y H Q => ∃ ρ ex ah a b, HRel X.K X.mg ρ ex ah H ∧ Rep X.K X.mg ρ ex H a x ∧ Rep X.K X.mg ρ ex H b y ∧ Post (opB o a b ah) (Kok X ρ ex H Q) noX
theorem op_B (X : Cx) (o : BOp) : OpR X (binaryOp (pyB o)) (rB X o) := by
  intro pins s σ H x y v u Q I rx ry h
  obtain ⟨ρ, ex, ah, a, b, hp, ra, rb, P⟩ := h
  unfold opB at P
  split at P
  · cases ra; cases rb; exact op_add pins s σ H _ _ v u Q I rx ry ⟨_, _, rfl, rfl, P.here hp (.int _)⟩
  · cases ra; cases rb; exact op_sub pins s σ H _ _ v u Q I rx ry ⟨_, _, rfl, rfl, P.here hp (.int _)⟩
  · cases ra; cases rb
    obtain ⟨c, P⟩ := P.ite
    exact op_mul pins s σ H _ _ v u Q I rx ry ⟨_, _, rfl, rfl, c, P.here hp (.int _)⟩
  · cases ra; cases rb
    obtain ⟨c, P⟩ := P.ite
    exact op_fdiv pins s σ H _ _ v u Q I rx ry ⟨_, _, rfl, rfl, c, P.here hp (.int _)⟩
  · cases ra; cases rb
    obtain ⟨c, P⟩ := P.ite
    exact op_mod pins s σ H _ _ v u Q I rx ry ⟨_, _, rfl, rfl, c, P.here hp (.int _)⟩
  · cases ra; cases rb
    obtain ⟨c, P⟩ := P.ite
    exact op_pow pins s σ H _ _ v u Q I rx ry ⟨_, _, rfl, rfl, c, P.here hp (.int _)⟩
  · cases ra; cases rb
    obtain ⟨c, P⟩ := P.ite
    exact op_add_str pins s σ H _ _ v u Q I rx ry ⟨_, _, rfl, rfl, c, P.here hp (.str _)⟩
  · cases ra with
    | @tup a1 xs vs q r =>
      cases rb with
      | @tup a2 ys ws q2 r2 =>
        obtain ⟨c, P⟩ := P.ite
        refine op_catA pins s σ H _ _ v u Q I rx ry ⟨_, _, _, _, rfl, rfl, q, q2, by rw [← r.length, ← r2.length]; exact c, fun e => ?_, fun e e2 => ?_, fun e e2 p np => P.tup hp (r.append r2) p np⟩
        · subst e; cases r
          exact P.here hp (.tup q2 r2)
        · subst e2; cases r2
          exact P.here hp (.tup q (by simpa using r))
  · cases ra with
    | lst e1 n1 x1 r =>
      cases rb with
      | lst e2 n2 x2 r2 =>
        obtain ⟨c, P⟩ := P.ite
        exact op_cat pins s σ H _ _ v u Q I rx ry ⟨_, _, _, _, rfl, rfl, e1, e2, by rw [← r.length, ← r2.length]; exact c, fun p np => P.lst hp (r.append r2) p np⟩
  · exact P.elim

/-! ### comparisons -/
def pyC : COp → CmpOp
  | .lt => .Lt
  | .le => .LtE
  | .gt => .Gt
  | .ge => .GtE
  | .eq => .Eq
  | .ne => .NotEq
  | .is => .Is
  | .isn => .IsNot
  | .mem => .In
  | .nmem => .NotIn
def rC (X : Cx) (o : COp) : R2 := fun x y H Q => ∃ ρ ex ah a b k, HRel X.K X.mg ρ ex ah H ∧ RepW X.K X.mg ρ ex H a x ∧ RepW X.K X.mg ρ ex H b y ∧ opC o a b ah = some k ∧ Q (.bl k) H
theorem opLt_int {a b : AV} {k : Bool} (e : opLt a b = some k) : ∃ i j, a = .int i ∧ b = .int j ∧ k = decide (i < j) := by
  unfold opLt at e
  split at e
  · cases e; exact ⟨_, _, rfl, rfl, rfl⟩
  · cases e
def isNon : AV → Bool
  | .non => true
  | _ => false
theorem isNon_rep {K : PySem.W.Frag} {mg : Str → Option Value} {ρ : List Addr} {ex : Addr → Prop} {H : Hp} {a : AV} {v : V} (r : RepW K mg ρ ex H a v) : decide (v = .non) = isNon a := by
  rcases r with r | ⟨_, _, _, rfl, rfl, _⟩
  · cases r <;> simp [isNon]
  · simp [isNon]
theorem opIs_cases {a b : AV} {k : Bool} (e : opIs a b = some k) : (b = .non ∧ k = isNon a) ∨ ∃ p q, a = .bl p ∧ b = .bl q ∧ k = decide (p = q) := by
  unfold opIs at e
  split at e <;> first | (cases e; exact .inr ⟨_, _, rfl, rfl, rfl⟩) | (cases e; exact .inl ⟨rfl, rfl⟩) | cases e
section
variable {K : PySem.W.Frag} {mg : Str → Option Value} {ρ : List Addr} {ex : Addr → Prop} {H : Hp}
theorem RepW.int {i : Int} {v : V} (h : RepW K mg ρ ex H (.int i) v) : v = .int i := by cases h.rep (fun _ q => by cases q); rfl
theorem RepW.bl {b : Bool} {v : V} (h : RepW K mg ρ ex H (.bl b) v) : v = .bl b := by cases h.rep (fun _ q => by cases q); rfl
theorem RepW.str {x : Str} {v : V} (h : RepW K mg ρ ex H (.str x) v) : v = .str x := by cases h.rep (fun _ q => by cases q); rfl
theorem RepW.non {v : V} (h : RepW K mg ρ ex H .non v) : v = .non := by cases h.rep (fun _ q => by cases q); rfl
end
theorem eqD_pyEq {a b : AV} {k : Bool} (e : eqD a b = some k) : pyEq a b = some k ∧ min (dep a) (dep b) ≤ 60 := by
  unfold eqD at e
  split at e
  · exact ⟨e, by assumption⟩
  · cases e
theorem op_C (X : Cx) (o : COp) (hu : X.A.units + 64 < cLine) : OpR X (compareOp (pyC o)) (rC X o) := by
  intro pins s σ H x y v u Q I rx ry h
  obtain ⟨ρ, ex, ah, a, b, k, hp, ra, rb, e, q⟩ := h
  have fin : EP X pins σ Q (.bool k) s := ⟨.bl k, H, I, rfl, q⟩
  have memT : ∀ {k' : Bool}, (items ah b).bind (pyIn a) = some k' → ∃ (p : Addr), u = .ref p ∧ ∃ (us : Array Value) (f : Value → Bool), (s.heap.IsList p us ∨ s.heap.IsTuple p us) ∧ (∀ w, w ∈ us → SeqAt.EqAt X.A.in1 s w v (f w)) ∧ us.any f = k' := fun {k'} e => by
    obtain ⟨xs, e1, e2⟩ := Option.bind_eq_some_iff.mp e
    obtain ⟨p, vs, rfl, sq, r⟩ := items_sq hp rb e1
    obtain rfl : u = .ref p := ry
    rcases sq with sq | sq
    · obtain ⟨its, rv, pl, _⟩ := I.list sq
      obtain ⟨f, h1, h2⟩ := in_answers (A := X.A.in1) (ra.con I rx) (by show X.A.units + 1 + 60 < cLine; omega) (r.conAll I rv) e2
      exact ⟨p, rfl, its.toArray, f, .inl pl.isList, fun w hw => h1 w (by simpa using hw), by simpa using h2⟩
    · obtain ⟨its, rv, pl, _⟩ := I.tuple sq
      obtain ⟨f, h1, h2⟩ := in_answers (A := X.A.in1) (ra.con I rx) (by show X.A.units + 1 + 60 < cLine; omega) (r.conAll I rv) e2
      exact ⟨p, rfl, its.toArray, f, .inr pl, fun w hw => h1 w (by simpa using hw), by simpa using h2⟩
  cases o with
  | lt =>
    obtain ⟨i, j, rfl, rfl, rfl⟩ := opLt_int e
    obtain rfl := ra.int
    obtain rfl := rb.int
    exact op_lt pins s σ H _ _ v u Q I rx ry ⟨_, _, rfl, rfl, q⟩
  | gt =>
    obtain ⟨i, j, rfl, rfl, rfl⟩ := opLt_int (a := b) (b := a) e
    obtain rfl := ra.int
    obtain rfl := rb.int
    exact op_gt pins s σ H _ _ v u Q I rx ry ⟨_, _, rfl, rfl, q⟩
  | le =>
    obtain ⟨k', e', rfl⟩ := Option.map_eq_some_iff.mp (show (opLt b a).map not = some k from e)
    obtain ⟨i, j, rfl, rfl, rfl⟩ := opLt_int e'
    obtain rfl := ra.int
    obtain rfl := rb.int
    refine op_le pins s σ H _ _ v u Q I rx ry ⟨_, _, rfl, rfl, ?_⟩
    have ee : decide (j ≤ i) = !decide (i < j) := by rw [← decide_not]; exact decide_eq_decide.mpr (by omega)
    show Q (.bl (decide (j ≤ i))) H
    rw [ee]
    exact q
  | ge =>
    obtain ⟨k', e', rfl⟩ := Option.map_eq_some_iff.mp (show (opLt a b).map not = some k from e)
    obtain ⟨i, j, rfl, rfl, rfl⟩ := opLt_int e'
    obtain rfl := ra.int
    obtain rfl := rb.int
    refine op_ge pins s σ H _ _ v u Q I rx ry ⟨_, _, rfl, rfl, ?_⟩
    have ee : decide (j ≤ i) = !decide (i < j) := by rw [← decide_not]; exact decide_eq_decide.mpr (by omega)
    show Q (.bl (decide (j ≤ i))) H
    rw [ee]
    exact q
  | eq =>
    obtain ⟨e1, e2⟩ := eqD_pyEq (show eqD a b = some k from e)
    exact (eq_is a b v u k X.A (ra.con I rx) (rb.con I ry) e1 (by omega)).rc X.prog X.w X.xe _ fin
  | ne =>
    obtain ⟨k', e', rfl⟩ := Option.map_eq_some_iff.mp (show (eqD a b).map not = some k from e)
    obtain ⟨e1, e2⟩ := eqD_pyEq e'
    exact (eq_is a b v u k' X.A (ra.con I rx) (rb.con I ry) e1 (by omega)).ne X.prog X.w X.xe _ fin
  | «is» =>
    rcases opIs_cases (show opIs a b = some k from e) with ⟨rfl, rfl⟩ | ⟨p, p', rfl, rfl, rfl⟩
    · obtain rfl := rb.non
      exact op_isN pins s σ H _ _ v u Q I rx ry ⟨rfl, by rw [isNon_rep ra]; exact q⟩
    · obtain rfl := ra.bl
      obtain rfl := rb.bl
      exact op_is_bl pins s σ H _ _ v u Q I rx ry ⟨_, _, rfl, rfl, q⟩
  | isn =>
    obtain ⟨k', e', rfl⟩ := Option.map_eq_some_iff.mp (show (opIs a b).map not = some k from e)
    rcases opIs_cases e' with ⟨rfl, rfl⟩ | ⟨p, p', rfl, rfl, rfl⟩
    · obtain rfl := rb.non
      exact op_notN pins s σ H _ _ v u Q I rx ry ⟨rfl, by rw [isNon_rep ra]; exact q⟩
    · obtain rfl := ra.bl
      obtain rfl := rb.bl
      exact op_isnot_bl pins s σ H _ _ v u Q I rx ry ⟨_, _, rfl, rfl, q⟩
  | mem =>
    simp only [opC] at e
    split at e
    · split at e
      · cases e
        obtain rfl := ra.str
        obtain rfl := rb.str
        exact op_in_str pins s σ H _ _ v u Q I rx ry ⟨_, _, rfl, rfl, q⟩
      · cases e
    · obtain ⟨p, rfl, us, f, sq, h1, rfl⟩ := memT e
      rcases sq with sq | sq
      · exact SeqAt.in_listAt f sq h1 fin
      · exact SeqAt.in_tupleAt f sq h1 fin
  | nmem =>
    simp only [opC] at e
    split at e
    · split at e
      · cases e
        obtain rfl := ra.str
        obtain rfl := rb.str
        exact op_notin_str pins s σ H _ _ v u Q I rx ry ⟨_, _, rfl, rfl, q⟩
      · cases e
    · obtain ⟨k', e', rfl⟩ := Option.map_eq_some_iff.mp e
      obtain ⟨p, rfl, us, f, sq, h1, rfl⟩ := memT e'
      rcases sq with sq | sq
      · exact SeqAt.notIn_listAt f sq h1 fin
      · exact SeqAt.notIn_tupleAt f sq h1 fin

/-! ### truth -/
def rTru (X : Cx) : V → Hp → (Bool → Hp → Prop) → Prop := fun x H Q => ∃ ρ ex ah a k, HRel X.K X.mg ρ ex ah H ∧ RepW X.K X.mg ρ ex H a x ∧ truth ah a = some k ∧ Q k H
theorem op_T (X : Cx) : TruR X (rTru X) := by
  intro pins s σ H x v Q I rx h
  obtain ⟨ρ, ex, ah, a, k, hp, ra, e, q⟩ := h
  refine tru_ok pins s σ H x v Q I rx ⟨k, ?_, q⟩
  cases a with
  | non => obtain rfl := ra.non; cases e; rfl
  | bl b => obtain rfl := ra.bl; cases e; rfl
  | int i => obtain rfl := ra.int; cases e; rfl
  | str z =>
    obtain rfl := ra.str
    simp only [truth] at e
    split at e
    · cases e
      exact ⟨by assumption, by
        rw [Bool.eq_iff_iff]; simp⟩
    · cases e
  | tup xs =>
    cases e
    cases ra.rep (fun _ q => by cases q) with
    | tup q r => exact .inr (.inl ⟨_, q, by rw [r.isEmpty]⟩)
  | lst xs =>
    cases e
    obtain ⟨p, vs, rfl, e2, _, r⟩ := ra.lst
    exact .inl ⟨_, .of e2, by rw [r.isEmpty]⟩
  | dct _ _ => cases e
  | ref _ => cases e
  | fn _ => cases e
  | scr _ => cases e

/-! ### subscripts -/
theorem Reps.atI {K : PySem.W.Frag} {mg : Str → Option Value} {ρ : List Addr} {ex : Addr → Prop} {H : Hp} {xs : List AV} {vs : List V} (r : Reps K mg ρ ex H xs vs) {i : Int} {x : AV} (e : L2.atI xs i = some x) : ∃ v, L2.atI vs i = some v ∧ Rep K mg ρ ex H x v := by
  unfold L2.atI at e ⊢
  obtain ⟨j, e1, e2⟩ := Option.bind_eq_some_iff.mp e
  obtain ⟨v, e3, rv⟩ := r.get e2
  exact ⟨v, by rw [← r.length, e1]; exact e3, rv⟩
theorem atI_map {α β : Type} (f : α → β) {xs : List α} {i : Int} {x : α} (e : L2.atI xs i = some x) : L2.atI (xs.map f) i = some (f x) := by
  unfold L2.atI at e ⊢
  obtain ⟨j, e1, e2⟩ := Option.bind_eq_some_iff.mp e
  rw [List.length_map, e1]
  show (xs.map f)[j]? = _
  rw [List.getElem?_map, e2]; rfl
def rSub (X : Cx) : R2 := fun x y H Q => ∃ ρ ex ah a b r, HRel X.K X.mg ρ ex ah H ∧ RepW X.K X.mg ρ ex H a x ∧ Rep X.K X.mg ρ ex H b y ∧ opSub a b ah = some r ∧ ∀ v, Rep X.K X.mg ρ ex H r v → Q v H
theorem op_Sub (X : Cx) : IxR X (rSub X) := by
  intro ve se pins s σ H x y v u Q I rx ry h hs
  obtain ⟨ρ, ex, ah, a, b, r, hp, ra, rb, e, q⟩ := h
  have seq : ∀ k : Int, b = .int k → (∃ xs, items ah a = some xs ∧ L2.atI xs k = some r) → rIx X.K x y H Q := fun k hb ⟨xs, e1, e2⟩ => by
    subst hb
    cases rb
    obtain ⟨p, vs, rfl, sq, rs⟩ := items_sq hp ra e1
    obtain ⟨w, e3, rw'⟩ := rs.atI e2
    rcases sq with sq | sq
    · exact .inl ⟨p, vs, k, w, rfl, rfl, sq, e3, q w rw'⟩
    · exact .inr (.inl ⟨p, vs, k, w, rfl, rfl, sq, e3, q w rw'⟩)
  refine ix_seq ve se pins s σ H x y v u Q I rx ry ?_ hs
  unfold opSub at e
  split at e
  · rename_i z k
    split at e
    · rename_i hz
      obtain ⟨c, e1, rfl⟩ := Option.map_eq_some_iff.mp e
      obtain rfl := ra.str
      cases rb
      exact .inr (.inr ⟨z, k, c, rfl, rfl, hz, e1, q _ (.str _)⟩)
    · cases e
  · rename_i ns k
    obtain ⟨i, e1, rfl⟩ := Option.map_eq_some_iff.mp e
    cases rb
    cases ra.rep (fun _ q => by cases q) with
    | scr sq => exact .inl ⟨_, _, k, .int i, rfl, rfl, sq.sq, atI_map V.int e1, q _ (.int _)⟩
  · rename_i k h1 h2
    obtain ⟨xs, e1, e2⟩ := Option.bind_eq_some_iff.mp e
    exact seq k rfl ⟨xs, e1, e2⟩
  · cases e
end G

set_option Elab.async false
set_option linter.all false
set_option maxRecDepth 100000
set_option maxHeartbeats 4000000
/-! GE: slices, isinstance, built-in calls. -/
namespace HTx
open PySem PySem.Spec PyProof.Rows L2 HT
section
variable {prog : Program} {w : World} {A : Around} {E : Value → Shared → Prop} {s : Shared}
theorem adjust_rev (n : Nat) : Builtin.Slice.sliceAdjust none none (-1) (n : Int) = ((n : Int) - 1, -1) := by
  unfold Builtin.Slice.sliceAdjust
  simp
theorem places_rev (n : Nat) : Builtin.Slice.slicePlaces ((n : Int) - 1) (-1) (-1) = n := by
  unfold Builtin.Slice.slicePlaces
  rw [if_neg (by decide)]
  by_cases h : n = 0
  · subst h; rfl
  · rw [if_pos (by omega)]
    have : ((n : Int) - 1 - -1 - 1) / (- -1) + 1 = n := by
      rw [show (- -1 : Int) = 1 by decide, Int.ediv_one]; omega
    rw [this]; simp
theorem sliceApplied_rev {sl : Addr} {vl vu vs : Value} {n : Nat} {Q : Int × Int × Nat → Shared → Prop} (hs : s.heap.IsSliceOf sl vl vu vs) (pl : IsPart vl none) (pu : IsPart vu none) (ps : IsPart vs (some (-1)))
    (h : Q ((n : Int) - 1, -1, n) s) : wpAny (model prog w) A (Builtin.Slice.sliceApplied (.ref sl) (pure (n : Int))) Q E s := by
  obtain ⟨os, hos, hcs, hds⟩ := id hs
  unfold Builtin.Slice.sliceApplied Builtin.Slice.sliceFields
  refine wpAny_bind (wpAny_bind (wpAny_field hos hds (x := vl) rfl (wpAny_bind (wpAny_field hos hds (x := vu) rfl (wpAny_bind (wpAny_field hos hds (x := vs) rfl (wpAny_pure ?_)))))))
  refine wpAny_bind (slicePart_ ps ?_)
  show wpAny _ _ (if ((-1 : Int) == 0) = true then _ else _) _ _ s
  rw [if_neg (by decide)]
  refine wpAny_bind (slicePart_ pl (wpAny_bind (slicePart_ pu (wpAny_bind (wpAny_pure ?_)))))
  show wpAny _ _ (match Builtin.Slice.sliceAdjust none none (-1) (n : Int) with | (lo, hi) => pure (lo, (-1 : Int), Builtin.Slice.slicePlaces lo hi (-1))) _ _ s
  rw [adjust_rev n]
  show wpAny _ _ (pure ((n : Int) - 1, (-1 : Int), Builtin.Slice.slicePlaces ((n : Int) - 1) (-1) (-1))) _ _ s
  rw [places_rev]
  exact wpAny_pure h
theorem fm_map {α β : Type} {f : α → Option β} {g : α → β} : ∀ {l : List α}, (∀ m ∈ l, f m = some (g m)) → l.filterMap f = l.map g
  | [], _ => rfl
  | a :: l, h => by
    rw [List.filterMap_cons, h a (List.mem_cons_self ..), List.map_cons, fm_map fun m hm => h m (List.mem_cons_of_mem _ hm)]
theorem pick_rev (xs : List Value) : ((List.range xs.length).filterMap fun (m : Nat) => xs.toArray[((xs.length : Int) - 1 + (m : Int) * -1).toNat]?) = xs.reverse := by
  rw [fm_map (g := fun m => xs.reverse.getD m .none) (fun m hm => by
    have hm := List.mem_range.mp hm
    rw [show ((xs.length : Int) - 1 + (m : Int) * -1).toNat = xs.length - 1 - m by omega]
    rw [List.getD_eq_getElem?_getD, List.getElem?_reverse hm]
    have : xs.length - 1 - m < xs.length := by omega
    simp [this])]
  apply List.ext_getElem (by simp)
  intro i h1 h2
  simp only [List.length_map, List.length_range] at h1
  simp [List.getD_eq_getElem?_getD, h1]
theorem getItem_tuple_rev {t sl : Addr} {items : List Value} {vl vu vs : Value} {Q : Value → Shared → Prop} (ht : IsTup s.heap t items.toArray) (hs : s.heap.IsSliceOf sl vl vu vs) (pl : IsPart vl none) (pu : IsPart vu none) (ps : IsPart vs (some (-1)))
    (h : Q (.ref s.heap.objs.size) { s with heap := s.heap.push { cls := .type "tuple", data := .seq items.reverse.toArray } })
    (hsz : items.length ≤ sizeLine) : wpAny (model prog w) A (getItem (.ref t) (.ref sl)) Q E s := by
  obtain ⟨os, hos, hcs, hds⟩ := id hs
  have hTs : s.TypeIs (.ref sl) "slice" := ⟨os, hos, hcs⟩
  unfold getItem
  try with_reducible refine wpAny_holding ?_
  first | refine wpAny_bind (wpAny_pure ?_) | skip
  refine wpAny_bind (wpAny_sequenceKey ht.typeIs (by decide) ?_)
  refine wpAny_bind (wpAny_callSpecial?_slot (name := Str.ofString "__getitem__") ht.typeIs PyProof.Rows.slot_tuple_getitem
    (wpAny_call_entry PyProof.Rows.slot_tuple_getitem ht.typeIs entry_tuple_getitem ?_ (args_tuple_getitem _ _)))
  show wpAny _ _ (Builtin.Tuple.tupleItemsOf (.ref t) >>= _) _ _ s
  refine wpAny_bind (tupleItemsOf_ ht ?_)
  refine wpAny_bind (wpAny_typeOf hTs ?_)
  rw [if_pos (by decide)]
  have hn : items.toArray.size = items.length := List.size_toArray ..
  refine wpAny_bind (sliceApplied_rev hs pl pu ps ?_)
  have hno : ¬ ((((items.toArray.size : Int) - 1 == 0) && ((-1 : Int) == 1) && (items.toArray.size == items.toArray.size)) = true) := by simp
  show wpAny _ _ (if (((items.toArray.size : Int) - 1 == 0) && ((-1 : Int) == 1) && (items.toArray.size == items.toArray.size)) = true then _ else _) _ _ s
  rw [if_neg hno]
  have hp : ((List.range items.toArray.size).filterMap fun (m : Nat) => items.toArray[((items.toArray.size : Int) - 1 + (m : Int) * -1).toNat]?).toArray = items.reverse.toArray := by
    rw [hn, pick_rev]
  rw [hp]
  have htake : sizeOk (.seq items.reverse.toArray) := by
    show items.reverse.toArray.size ≤ sizeLine
    rw [List.size_toArray, List.length_reverse]; exact hsz
  first
    | exact wpAny_bind (m := Builtin.Tuple.tupleExact _) (wpAny_newObj_type (wpAny_pure ⟨_, rfl, wpAny_pure h⟩) htake)
    | exact wpAny_bind (m := Builtin.Tuple.tupleExact _) (wpAny_newObj_type (wpAny_bind (wpAny_pure (wpAny_pure ⟨_, rfl, wpAny_pure h⟩))) htake)
    | exact wpAny_bind (wpAny_bind (m := Builtin.Tuple.tupleExact _) (wpAny_newObj_type (wpAny_pure (wpAny_pure ⟨_, rfl, wpAny_pure h⟩)) htake))
    | exact wpAny_bind (wpAny_bind (m := Builtin.Tuple.tupleExact _) (wpAny_newObj_type (wpAny_pure ⟨_, rfl, wpAny_pure h⟩) htake))
end
end HTx

namespace G
open PySem PySem.Spec PyProof.Rows L2

/-! ### slices -/
theorem cutL_V {α β : Type} (f : α → β) (xs : List α) (lo hi : Option Int) : cutL (xs.map f) lo hi = (cutL xs lo hi).map f := by
  unfold cutL; simp
theorem Reps.cut {K : PySem.W.Frag} {mg : Str → Option Value} {ρ : List Addr} {ex : Addr → Prop} {H : Hp} {xs : List AV} {vs : List V} (r : Reps K mg ρ ex H xs vs) (lo hi : Option Int) : Reps K mg ρ ex H (cutL xs lo hi) (cutV vs lo hi) := by
  unfold cutL cutV
  rw [← r.length]
  exact (r.drop _).take _
def rSl (X : Cx) : V → Option Int → Option Int → Hp → VK → Prop := fun x lo hi H Q => ∃ ρ ex ah a r, HRel X.K X.mg ρ ex ah H ∧ RepW X.K X.mg ρ ex H a x ∧ opSlice a lo hi ah = some r ∧ Kok X ρ ex H Q r ah
theorem cut_whole {α : Type} {xs : List α} {lo hi : Option Int} (h : HT.sIx xs.length 0 lo = 0 ∧ HT.sIx xs.length xs.length hi = xs.length) : cutL xs lo hi = xs := by
  unfold cutL
  rw [h.1, h.2]; simp
theorem op_Sl (X : Cx) : SlR X (rSl X) := by
  intro pins s σ H x v vl vu lo hi sl Q I rx hs pl pu h
  obtain ⟨ρ, ex, ah, a, r, hp, ra, e, q⟩ := h
  cases a with
  | tup xs =>
    cases e
    cases ra.rep (fun _ q => by cases q) with
    | @tup p _ vs sq rs =>
      refine sl_tupA pins s σ H _ v vl vu lo hi sl Q I rx hs pl pu ⟨_, vs, rfl, sq, fun hw => ?_, fun _ p np => q.tup hp (rs.cut lo hi) p np⟩
      refine q.here hp ?_
      rw [← rs.length] at hw
      rw [cut_whole hw]
      exact .tup sq rs
  | lst xs =>
    cases e
    obtain ⟨p, vs, rfl, e2, _, rs⟩ := ra.lst
    exact sl_list pins s σ H _ v vl vu lo hi sl Q I rx hs pl pu ⟨_, vs, rfl, .of e2, fun p np => q.lst hp (rs.cut lo hi) p np⟩
  | str z =>
    simp only [opSlice] at e
    split at e
    · cases e
      obtain rfl := ra.str
      exact sl_str pins s σ H _ v vl vu lo hi sl Q I rx hs pl pu ⟨_, rfl, by assumption, q.here hp (.str _)⟩
    · cases e
  | non => cases e
  | bl _ => cases e
  | int _ => cases e
  | dct _ _ => cases e
  | ref _ => cases e
  | fn _ => cases e
  | scr _ => cases e

/-! ### isinstance -/
def tyN : Ty → String
  | .int => "int"
  | .bool => "bool"
  | .str => "str"
  | .tuple => "tuple"
  | .list => "list"
  | .dict => "dict"
def avN : AV → Option String
  | .non => some "NoneType"
  | .bl _ => some "bool"
  | .int _ => some "int"
  | .str _ => some "str"
  | .tup _ => some "tuple"
  | .lst _ => some "list"
  | .dct _ _ => some "dict"
  | _ => none
theorem hasTy_kit {x : AV} {t : Ty} {b : Bool} (e : hasTy x t = some b) : ∃ n, avN x = some n ∧ kitB n (tyN t) = some b := by
  cases x <;> cases t <;> simp only [hasTy, Option.some.injEq, reduceCtorEq] at e <;> subst e <;> exact ⟨_, rfl, by decide +kernel⟩
theorem hasTys_kit {K : PySem.W.Frag} {x : AV} {n : String} (hn : avN x = some n) : ∀ {ts : List Ty} {b : Bool}, hasTys x ts = some b → PySem.W.kitAny K (.type n) (ts.map fun t => Value.type (tyN t)) = some b
  | [], b, e => e
  | t :: ts, b, e => by
    unfold hasTys at e
    split at e
    · rename_i h
      obtain ⟨m, h1, h2⟩ := hasTy_kit h
      rw [hn] at h1; cases h1
      cases e
      exact kitAny_cons (kit_ty h2) (fun q => by cases q) (fun _ => rfl)
    · rename_i h
      obtain ⟨m, h1, h2⟩ := hasTy_kit h
      rw [hn] at h1; cases h1
      exact kitAny_cons (kit_ty h2) (fun _ => hasTys_kit hn e) (fun q => by cases q)
    · cases e
theorem hasTys_avN {x : AV} : ∀ {ts : List Ty} {b : Bool}, ts ≠ [] → hasTys x ts = some b → ∃ n, avN x = some n
  | [], _, h, _ => absurd rfl h
  | t :: ts, b, _, e => by
    unfold hasTys at e
    split at e
    · rename_i h; obtain ⟨m, h1, _⟩ := hasTy_kit h; exact ⟨m, h1⟩
    · rename_i h; obtain ⟨m, h1, _⟩ := hasTy_kit h; exact ⟨m, h1⟩
    · cases e
theorem Rep.ty {K : PySem.W.Frag} {mg : Str → Option Value} {ρ : List Addr} {ex : Addr → Prop} {H : Hp} {x : AV} {v : V} {n : String} (r : Rep K mg ρ ex H x v) (e : avN x = some n) : TyX K H v (.type n) := by
  cases r with
  | non => cases e; exact .base .non
  | bl b => cases e; exact .base (.bl b)
  | int i => cases e; exact .base (.int i)
  | str z => cases e; exact .base (.str z)
  | tup q _ =>
    cases e
    rcases q with (q | ⟨o, q⟩) | ⟨o, its, k, h1, h2, _⟩
    · exact .base (.tup q)
    · exact .fTuple q
    · exact .kTuple h1 h2
  | lst q _ _ _ => cases e; exact .base (.lst q)
  | dct q _ _ _ => cases e; exact .base (.dK q)
  | ref _ => cases e
  | fn _ => cases e
  | scr _ => cases e

/-! ### calls of built-ins -/
inductive RepWs (K : PySem.W.Frag) (mg : Str → Option Value) (ρ : List Addr) (ex : Addr → Prop) (H : Hp) : List AV → List V → Prop
  | nil : RepWs K mg ρ ex H [] []
  | cons {x : AV} {v : V} {xs : List AV} {vs : List V} : RepW K mg ρ ex H x v → RepWs K mg ρ ex H xs vs → RepWs K mg ρ ex H (x :: xs) (v :: vs)
theorem RepWs.step {K : PySem.W.Frag} {mg : Str → Option Value} {ρ ρ' : List Addr} {ex : Addr → Prop} {H H' : Hp} (a : Ext ρ H ρ' H') : ∀ {xs : List AV} {vs : List V}, RepWs K mg ρ ex H xs vs → RepWs K mg ρ' ex H' xs vs
  | _, _, .nil => .nil
  | _, _, .cons r rs => .cons (r.step a) (RepWs.step a rs)
theorem boolsOf_map : ∀ {xs : List AV} {bs : List Bool}, boolsOf xs = some bs → xs = bs.map AV.bl
  | [], _, e => by cases e; rfl
  | x :: xs, bs, e => by
    cases x <;> simp only [boolsOf, Option.map_eq_some_iff, reduceCtorEq] at e
    obtain ⟨bs', e1, rfl⟩ := e
    rw [boolsOf_map e1]; rfl
theorem litems_items {h : AH} {x : AV} {xs : List AV} (e : litems h x = some xs) : items h x = some xs := by
  cases x <;> first | exact e | cases e
section
variable {X : Cx} {pins : List (Addr × Obj)} {σ : L2.St} {H : Hp} {s : Shared} {ρ : List Addr} {ex : Addr → Prop}
theorem litems_sq {ah : AH} (hp : HRel X.K X.mg ρ ex ah H) {x : AV} {v : V} {xs : List AV} (h : RepW X.K X.mg ρ ex H x v) (e : litems ah x = some xs) :
    ∃ a vs, v = .ref a ∧ H a = some (.lst vs) ∧ Reps X.K X.mg ρ ex H xs vs := by
  obtain ⟨a, vs, e1, q, r⟩ := items_at hp h (litems_items e)
  refine ⟨a, vs, e1, ?_, r⟩
  rcases q with ⟨_, _, q⟩ | ⟨_, q⟩ | ⟨rfl, _⟩
  · exact q
  · exact q
  · cases e
theorem ne_sysMod (I : L2.Inv X pins σ H s) (sm : (X.K.lookup sysModules).isSome = true) {a : Addr} {u : HO} (e : H a = some u) : a ≠ sysModules := by
  rintro rfl
  obtain ⟨o, ho⟩ := Option.isSome_iff_exists.mp sm
  rw [(I.bs _ o (I.ok.mod.kin _ _ ho)).2] at e
  cases e
theorem reads_keys {h : Heap} : ∀ {ks : List Key} {us : List Value} {as : List PyData}, toPys (ks.map keyA) = some as → Vals (ks.map kV) us → ReadsAll h us as []
  | [], _, _, e, r => by
    simp only [List.map_nil, toPys, Option.some.injEq] at e
    subst e
    cases r
    exact .nil
  | k :: ks, _, _, e, r => by
    rw [List.map_cons, toPys] at e
    obtain ⟨a, e1, e2⟩ := Option.bind_eq_some_iff.mp e
    obtain ⟨as, e3, rfl⟩ := Option.map_eq_some_iff.mp e2
    rw [List.map_cons] at r
    cases r with
    | cons r rs =>
      have q := reads_keys (h := h) e3 rs
      cases k with
      | inl i =>
        simp only [keyA, toPy, Option.some.injEq] at e1
        subst e1
        obtain ⟨t, rfl⟩ := r
        exact .cons (as := []) (bs := []) (.int i t) q
      | inr x =>
        simp only [keyA, toPy, Option.some.injEq] at e1
        subst e1
        obtain ⟨t, rfl⟩ := r
        exact .cons (as := []) (bs := []) (.str x t) q
theorem readsAll_len {h : Heap} : ∀ {us : List Value} {ds : List PyData} {as : List Addr}, ReadsAll h us ds as → us.length = ds.length
  | _, _, _, .nil => rfl
  | _, _, _, .cons _ rs => congrArg Nat.succ (readsAll_len rs)
theorem dct_vals {P : Program} {w : World} : ∀ {kvs : List (Key × V)} {vs : List (Key × Value)} {es : List DictEntry}, KV kvs vs → Pairs (mixKind P w) es vs → Vals ((kvs.map (·.1)).map kV) (es.map (·.key)) ∧ Vals (kvs.map (·.2)) (es.map (·.val))
  | [], _, _, r, p => by
    cases r
    cases p
    exact ⟨.nil, .nil⟩
  | kv :: kvs, _, _, r, p => by
    cases r with
    | cons h t =>
      cases p with
      | cons hk hv ps =>
        obtain ⟨h1, h2⟩ := h
        obtain ⟨q1, q2⟩ := dct_vals t ps
        refine ⟨.cons ?_ q1, .cons (by show L2.RelV kv.2 _; dsimp only; rw [hv]; exact h2) q2⟩
        show L2.RelV (kV kv.1) _
        dsimp only
        rw [h1]
        rcases keyIs_shape hk with ⟨i, t, e1, e2⟩ | ⟨x, t, e1, e2⟩
        · rw [e1, e2]; exact ⟨t, rfl⟩
        · rw [e1, e2]; exact ⟨t, rfl⟩
mutual
/-- what repr reads of the machine's heap -/
theorem Rep.reads (I : L2.Inv X pins σ H s) (sm : (X.K.lookup sysModules).isSome = true) : ∀ {x : AV} {v : V} {u : Value} {d : PyData}, Rep X.K X.mg ρ ex H x v → toPy x = some d → RelV v u → ∃ as, Reads s.heap u d as ∧ sysModules ∉ as
  | _, _, _, _, .non, e, r => by cases e; cases r; exact ⟨[], .none, by simp⟩
  | _, _, _, _, .bl b, e, r => by cases e; cases r; exact ⟨[], .bool b, by simp⟩
  | _, _, _, _, .int i, e, r => by cases e; obtain ⟨t, rfl⟩ := r; exact ⟨[], .int i t, by simp⟩
  | _, _, _, _, .str x, e, r => by cases e; obtain ⟨t, rfl⟩ := r; exact ⟨[], .str x t, by simp⟩
  | _, _, _, _, .tup q rs, e, r => by
    rw [toPy] at e
    obtain ⟨ds, e1, rfl⟩ := Option.map_eq_some_iff.mp e
    cases r
    obtain ⟨its, rv, ⟨o, ho, hc, n, hd⟩, _⟩ := I.tuple q
    obtain ⟨as, q1, q2⟩ := Reps.readsAll I sm rs e1 rv
    exact ⟨as, .tuple ho hc hd (by simpa using q1), q2⟩
  | _, _, _, _, .lst ea _ _ rs, e, r => by
    rw [toPy] at e
    obtain ⟨ds, e1, rfl⟩ := Option.map_eq_some_iff.mp e
    cases r
    obtain ⟨hz, its, n, rv, ho⟩ := I.hok _ _ ea
    obtain ⟨as, q1, q2⟩ := Reps.readsAll I sm rs e1 rv
    exact ⟨_, .list ho rfl rfl (by simpa using q1), by
      simp only [List.mem_cons, not_or]
      exact ⟨fun z => ne_sysMod I sm ea z.symm, q2⟩⟩
  | _, _, _, _, .dct (kvs := kvs) ea _ _ rs, e, r => by
    rw [toPy] at e
    obtain ⟨as, e1, e2⟩ := Option.bind_eq_some_iff.mp e
    obtain ⟨bs, e3, rfl⟩ := Option.map_eq_some_iff.mp e2
    cases r
    obtain ⟨hz, hS, vs, kv, o, es, ep, ho, hx, hd, hk, hp, hn⟩ := dk_of I.hok ea
    obtain ⟨v1, v2⟩ := dct_vals kv hp
    obtain ⟨bs', q1, q2⟩ := Reps.readsAll I sm rs e3 v2
    have r1 := reads_keys (h := s.heap) (ks := kvs.map (·.1)) (by rw [List.map_map]; exact e1) v1
    have l1 := readsAll_len r1
    have l2 := readsAll_len q1
    have l3 : as.length = bs.length := by rw [← l1, ← l2]; simp
    refine ⟨_, .dict ho hx.1 hd (as := []) (bs := bs') ?_ ?_, ?_⟩
    · rw [List.map_fst_zip (Nat.le_of_eq l3)]; exact r1
    · rw [List.map_snd_zip (Nat.le_of_eq l3.symm)]; exact q1
    · simp only [List.append_nil, List.cons_append, List.nil_append, List.mem_cons, not_or]
      exact ⟨fun z => ne_sysMod I sm ea z.symm, q2⟩
  | _, _, _, _, .ref _, e, _ => by cases e
  | _, _, _, _, .fn _, e, _ => by cases e
  | _, _, _, _, .scr _, e, _ => by cases e
theorem Reps.readsAll (I : L2.Inv X pins σ H s) (sm : (X.K.lookup sysModules).isSome = true) : ∀ {xs : List AV} {vs : List V} {us : List Value} {ds : List PyData}, Reps X.K X.mg ρ ex H xs vs → toPys xs = some ds → Vals vs us → ∃ as, ReadsAll s.heap us ds as ∧ sysModules ∉ as
  | _, _, _, _, .nil, e, r => by
    simp only [toPys, Option.some.injEq] at e
    subst e
    cases r
    exact ⟨[], .nil, by simp⟩
  | _, _, _, _, .cons q qs, e, r => by
    rw [toPys] at e
    obtain ⟨d, e1, e2⟩ := Option.bind_eq_some_iff.mp e
    obtain ⟨ds, e3, rfl⟩ := Option.map_eq_some_iff.mp e2
    cases r with
    | cons r rs =>
      obtain ⟨as, h1, n1⟩ := Rep.reads I sm q e1 r
      obtain ⟨bs, h2, n2⟩ := Reps.readsAll I sm qs e3 rs
      exact ⟨as ++ bs, .cons h1 h2, by simp [n1, n2]⟩
end
theorem repr_w {Q : VK} (I : L2.Inv X pins σ H s) (hu : X.A.units + 64 < cLine) (gd : X.A.guards = some []) (sm : (X.K.lookup sysModules).isSome = true) {x : AV} {v : V} {us : List Value} {t : Str} (h : RepW X.K X.mg ρ ex H x v) (r : ∃ u, us = [u] ∧ RelV v u) (e : opRepr x = some t) (q : Q (.str t) H) :
    wpAny (model X.prog X.w) X.A (call (.builtin "repr") us) (EP X pins σ Q) X.xe s := by
  obtain ⟨u, rfl, r⟩ := r
  unfold opRepr at e
  obtain ⟨d, e1, e2⟩ := Option.bind_eq_some_iff.mp e
  split at e2
  · rename_i c
    cases e2
    have hr : ∃ as, Reads s.heap u d as ∧ sysModules ∉ as := by
      rcases h with h | ⟨xs, a, vs, rfl, rfl, ea, n, rs⟩
      · exact h.reads I sm e1 r
      · rw [toPy] at e1
        obtain ⟨ds, e3, rfl⟩ := Option.map_eq_some_iff.mp e1
        cases r
        obtain ⟨hz, its, n, rv, ho⟩ := I.hok _ _ ea
        obtain ⟨as, q1, q2⟩ := rs.readsAll I sm e3 rv
        exact ⟨_, .list ho rfl rfl (by simpa using q1), by
          simp only [List.mem_cons, not_or]
          exact ⟨fun z => ne_sysMod I sm ea z.symm, q2⟩⟩
    obtain ⟨as, hr, hn⟩ := hr
    have fin : ∀ tk u, EP X pins σ Q (.str d.shown u) { s with toks := tk } := fun tk u => ⟨.str d.shown, H, I.tok tk, ⟨u, rfl⟩, q⟩
    cases hr with
    | none => exact PySem.P.repr_of_none (fin _ _)
    | bool b => exact PySem.P.repr_of_bool (fin _ _)
    | int i t => exact PySem.P.repr_of_int (by simpa [PyData.showable] using c.1) (fin _ _)
    | str x t => exact PySem.P.repr_of_str (fin _ _) c.2.2
    | list h1 h2 h3 h4 =>
      exact repr_of_reads' (.list h1 h2 h3 h4) c.1 (fun _ => hn) gd (by have := c.2.1; omega) (fun _ _ e => e) (fun h' u tk hk => ⟨.str _, H, I.kept (t' := tk) hk, ⟨u, rfl⟩, q⟩) c.2.2
    | tuple h1 h2 h3 h4 =>
      exact repr_of_reads' (.tuple h1 h2 h3 h4) c.1 (fun _ => hn) gd (by have := c.2.1; omega) (fun _ _ e => e) (fun h' u tk hk => ⟨.str _, H, I.kept (t' := tk) hk, ⟨u, rfl⟩, q⟩) c.2.2
    | dict h1 h2 h3 h4 h5 =>
      exact repr_of_reads' (.dict h1 h2 h3 h4 h5) c.1 (fun _ => hn) gd (by have := c.2.1; omega) (fun _ _ e => e) (fun h' u tk hk => ⟨.str _, H, I.kept (t' := tk) hk, ⟨u, rfl⟩, q⟩) c.2.2
  · cases e2
end
theorem Vals.one' {v : V} {us : List Value} (r : Vals [v] us) : ∃ u, us = [u] ∧ RelV v u := by
  cases r with
  | cons r rr => cases rr; exact ⟨_, rfl, r⟩
def biId : Bi → Value
  | .len => .builtin "len"
  | .all => .builtin "all"
  | .any => .builtin "any"
  | .sum => .builtin "sum"
  | .min => .builtin "min"
  | .max => .builtin "max"
  | .sorted => .builtin "sorted"
  | .tuple => .type "tuple"
  | .list => .type "list"
  | .str => .type "str"
  | .int => .type "int"
  | .repr => .builtin "repr"
  | .bool => .type "bool"
def rBi (X : Cx) (f : Bi) : List V → Hp → VK → Prop := fun vs H Q => ∃ ρ ex ah xs, HRel X.K X.mg ρ ex ah H ∧ RepWs X.K X.mg ρ ex H xs vs ∧ Post (opBi f xs ah) (Kok X ρ ex H Q) noX
theorem op_Bi (X : Cx) (f : Bi) (hc : X.calm = true) (hu : X.A.units + 64 < cLine) (gd : X.A.guards = some []) (sm : (X.K.lookup sysModules).isSome = true) : CallR X (biId f) (rBi X f) := by
  intro pins s σ H vs us Q I r h
  obtain ⟨ρ, ex, ah, xs, hp, rs, P⟩ := h
  unfold opBi at P
  split at P
  · obtain ⟨c, P⟩ := P.ite
    cases rs with | cons r1 rs => cases rs; obtain rfl := r1.str; exact call_len pins s σ H _ us Q I r ⟨_, _, rfl, ⟨c, rfl⟩, P.here hp (.int _)⟩
  · cases rs with
    | cons r1 rs =>
      cases rs
      cases r1.rep (fun _ q => by cases q) with
      | scr sq => exact call_len pins s σ H _ us Q I r ⟨_, _, rfl, .inl ⟨_, sq.sq, (List.length_map ..).symm⟩, P.here hp (.int _)⟩
  · rw [Post.bind] at P
    obtain ⟨ys, e, P⟩ := P.lift
    cases rs with
    | cons r1 rs =>
      cases rs
      obtain ⟨a, ws, rfl, sq, rr⟩ := items_sq hp r1 e
      refine call_len pins s σ H _ us Q I r ⟨_, ws.length, rfl, ?_, by rw [← rr.length]; exact P.here hp (.int _)⟩
      rcases sq with sq | sq
      · exact .inl ⟨_, sq, rfl⟩
      · exact .inr ⟨_, sq, rfl⟩
  · obtain ⟨v, e, P⟩ := P.lift
    obtain ⟨bs, e0, rfl⟩ := Option.map_eq_some_iff.mp e
    obtain ⟨ys, e1, e2⟩ := Option.bind_eq_some_iff.mp e0
    obtain rfl := boolsOf_map e2
    cases rs with
    | cons r1 rs =>
      cases rs
      obtain ⟨a, ws, rfl, e3, rr⟩ := litems_sq hp r1 e1
      obtain rfl := rr.bls
      exact cr_all hc pins s σ H _ us Q I r ⟨a, bs, rfl, .of e3, P.here hp (.bl _)⟩
  · obtain ⟨v, e, P⟩ := P.lift
    obtain ⟨bs, e0, rfl⟩ := Option.map_eq_some_iff.mp e
    obtain ⟨ys, e1, e2⟩ := Option.bind_eq_some_iff.mp e0
    obtain rfl := boolsOf_map e2
    cases rs with
    | cons r1 rs =>
      cases rs
      obtain ⟨a, ws, rfl, e3, rr⟩ := litems_sq hp r1 e1
      obtain rfl := rr.bls
      exact cr_any hc pins s σ H _ us Q I r ⟨a, bs, rfl, .of e3, P.here hp (.bl _)⟩
  · obtain ⟨v, e, P⟩ := P.lift
    obtain ⟨ys, e0, rfl⟩ := Option.map_eq_some_iff.mp e
    cases rs with
    | cons r1 rs =>
      cases rs
      obtain ⟨a, ws, rfl, sq, rr⟩ := items_sq hp r1 e0
      rcases sq with sq | sq
      · exact call_tuple_of pins s σ H _ us Q I r ⟨a, ws, rfl, .inl ⟨sq, fun p np => P.tup hp rr p np⟩⟩
      · exact call_tuple_of pins s σ H _ us Q I r ⟨a, ws, rfl, .inr ⟨sq, P.here hp (.tup sq rr)⟩⟩
  · obtain ⟨v, e, P⟩ := P.lift
    obtain ⟨ys, e0, rfl⟩ := Option.map_eq_some_iff.mp e
    cases rs with
    | cons r1 rs =>
      cases rs
      obtain ⟨a, ws, rfl, sq, rr⟩ := items_sq hp r1 e0
      exact call_list_of pins s σ H _ us Q I r ⟨a, ws, rfl, sq, fun p np => P.lst hp rr p np⟩
  · cases rs with
    | cons r1 rs =>
      cases rs with
      | cons r2 rs =>
        cases rs
        obtain rfl := r1.int
        obtain rfl := r2.int
        exact call_min2 hc pins s σ H _ us Q I r ⟨_, _, rfl, P.here hp (.int _)⟩
  · cases rs with
    | cons r1 rs =>
      cases rs with
      | cons r2 rs =>
        cases rs
        obtain rfl := r1.int
        obtain rfl := r2.int
        exact call_max2 hc pins s σ H _ us Q I r ⟨_, _, rfl, P.here hp (.int _)⟩
  · obtain ⟨v, e, P⟩ := P.lift
    obtain ⟨t, e0, rfl⟩ := Option.map_eq_some_iff.mp e
    cases rs with
    | cons r1 rs =>
      cases rs
      exact repr_w I hu gd sm r1 (Vals.one' r) e0 (P.here hp (.str _))
  · exact P.elim
end G

set_option Elab.async false
set_option linter.all false
set_option maxRecDepth 100000
set_option maxHeartbeats 4000000
/-! GF: the readings of the small language's expressions. -/
namespace G
open PySem PySem.Spec PyProof.Rows L2

/-- what a context must bear -/
structure Ok (X : Cx) : Prop where
  calm : X.calm = true
  nd : X.N.Nodup
  un : X.A.units + 64 < cLine
  gd : X.A.guards = some []
  sm : (X.K.lookup sysModules).isSome = true

def KokW (X : Cx) (ρ : List Addr) (ex : Addr → Prop) (H : Hp) (Q : VK) (v : AV) (ah' : AH) : Prop :=
  ∀ ρ' H' v', Ext ρ H ρ' H' → HRel X.K X.mg ρ' ex ah' H' → RepW X.K X.mg ρ' ex H' v v' → Q v' H'
def KoAs (X : Cx) (ρ : List Addr) (ex : Addr → Prop) (H : Hp) (Q : List V → Hp → Prop) (vs : List AV) (ah' : AH) : Prop :=
  ∀ ρ' H' vs', Ext ρ H ρ' H' → HRel X.K X.mg ρ' ex ah' H' → Reps X.K X.mg ρ' ex H' vs vs' → Q vs' H'
def KoWs (X : Cx) (ρ : List Addr) (ex : Addr → Prop) (H : Hp) (Q : List V → Hp → Prop) (vs : List AV) (ah' : AH) : Prop :=
  ∀ ρ' H' vs', Ext ρ H ρ' H' → HRel X.K X.mg ρ' ex ah' H' → RepWs X.K X.mg ρ' ex H' vs vs' → Q vs' H'
def KoB {α : Type} (X : Cx) (ρ : List Addr) (ex : Addr → Prop) (H : Hp) (Q : α → Hp → Prop) (b : α) (ah' : AH) : Prop :=
  ∀ ρ' H', Ext ρ H ρ' H' → HRel X.K X.mg ρ' ex ah' H' → Q b H'

def tE (X : Cx) (E : XK) (Φ : CallA) (e : Exp) : TE := fun σ H Q => ∃ ρ ex ws aσ ah, StRel X.K X.mg ρ ex ws aσ ah σ H ∧ Post (evE Φ e aσ ah) (Kok X ρ ex H Q) (ExC X E ρ ex H)
def tP (X : Cx) (E : XK) (Φ : CallA) (e : Exp) : TE := fun σ H Q => ∃ ρ ex ws aσ ah, StRel X.K X.mg ρ ex ws aσ ah σ H ∧ Post (peek e aσ ah (evE Φ e aσ ah)) (KokW X ρ ex H Q) (ExC X E ρ ex H)
def tEs (X : Cx) (E : XK) (Φ : CallA) (es : List Exp) : TA := fun σ H Q => ∃ ρ ex ws aσ ah, StRel X.K X.mg ρ ex ws aσ ah σ H ∧ Post (evEs Φ es aσ ah) (KoAs X ρ ex H Q) (ExC X E ρ ex H)
def tPs (X : Cx) (E : XK) (Φ : CallA) (es : List Exp) : TA := fun σ H Q => ∃ ρ ex ws aσ ah, StRel X.K X.mg ρ ex ws aσ ah σ H ∧ Post (evPs Φ es aσ ah) (KoWs X ρ ex H Q) (ExC X E ρ ex H)
def tT (X : Cx) (E : XK) (Φ : CallA) (t : Tst) : TT := fun σ H Q => ∃ ρ ex ws aσ ah, StRel X.K X.mg ρ ex ws aσ ah σ H ∧ Post (evT Φ t aσ ah) (KoB X ρ ex H Q) (ExC X E ρ ex H)
def tO (X : Cx) (E : XK) (Φ : CallA) (o : Option Exp) : TO := fun σ H Q => ∃ ρ ex ws aσ ah, StRel X.K X.mg ρ ex ws aσ ah σ H ∧ Post (evO Φ o aσ ah) (KoB X ρ ex H Q) (ExC X E ρ ex H)
def tF (X : Cx) (E : XK) (Φ : CallA) (ts : List Tst) : TT := fun σ H Q => ∃ ρ ex ws aσ ah, StRel X.K X.mg ρ ex ws aσ ah σ H ∧ Post (evF Φ ts aσ ah) (KoB X ρ ex H Q) (ExC X E ρ ex H)

section
variable {X : Cx} {E : XK} {Φ : CallA} {ρ : List Addr} {ex : Addr → Prop} {H : Hp} {ws : List (Option Addr)} {aσ : ASt} {ah ah' : AH} {σ : L2.St} {pos : Pos} {a b c : Expr} {a' b' c' : Exp} {es : List Expr} {es' : List Exp}
theorem KokW.of {Q : VK} {v : AV} (h : KokW X ρ ex H Q v ah') : Kok X ρ ex H Q v ah' := fun ρ' H' v' e hp r => h ρ' H' v' e hp (.inl r)
theorem StRel.slotAt (S : StRel X.K X.mg ρ ex ws aσ ah σ H) {i : Nat} {s : Sv} (e : aσ[i]? = some s) : ∃ v w, σ[i]? = some v ∧ ws[i]? = some w ∧ SlotRel X.K X.mg ρ ex H w v s := by
  have hi : i < aσ.length := (List.getElem?_eq_some_iff.mp e).1
  have h1 : i < σ.length := by rw [← S.len]; exact hi
  have h2 : i < ws.length := by rw [S.wlen]; exact h1
  exact ⟨_, _, List.getElem?_eq_getElem h1, List.getElem?_eq_getElem h2, S.slot i s _ _ e (List.getElem?_eq_getElem h1) (List.getElem?_eq_getElem h2)⟩

theorem snd_c {e : Expr} {v : AV} {v' : V} (h : PE X e (tC v')) (r : ∀ ρ ex H, Rep X.K X.mg ρ ex H v v') : PE X e (tE X E Φ (.c v)) := by
  refine ⟨fun pins s σ H Q I hq => h.run pins s σ H Q I ?_⟩
  obtain ⟨ρ, ex, ws, aσ, ah, S, P⟩ := hq
  exact (show Kok X ρ ex H Q v ah from P).here S.hp (r _ _ _)
theorem snd_var {i : Nat} {x : Str} (hN : X.N[i]? = some x) (hv : Vis X.env.scope x) (hd : (x == ("__debug__" : Str)) = false) (hcd : (x == ("__classdict__" : Str)) = false) : PE X (.Name x pos) (tE X E Φ (.var i)) := by
  refine ⟨fun pins s σ H Q I hq => (pe_var hN hv hd hcd).run pins s σ H Q I ?_⟩
  obtain ⟨ρ, ex, ws, aσ, ah, S, P⟩ := hq
  simp only [evE] at P
  split at P
  · rename_i v e
    obtain ⟨v', w, h1, _, u, e2, r⟩ := S.slotAt e
    exact ⟨u, by rw [h1, e2], (show Kok X ρ ex H Q v ah from P).here S.hp r⟩
  · exact P.elim
theorem snd_peek_var {i : Nat} {x : Str} (hN : X.N[i]? = some x) (hv : Vis X.env.scope x) (hd : (x == ("__debug__" : Str)) = false) (hcd : (x == ("__classdict__" : Str)) = false) : PE X (.Name x pos) (tP X E Φ (.var i)) := by
  refine ⟨fun pins s σ H Q I hq => (pe_var hN hv hd hcd).run pins s σ H Q I ?_⟩
  obtain ⟨ρ, ex, ws, aσ, ah, S, P⟩ := hq
  simp only [peek, evE] at P
  split at P
  · rename_i xs e
    obtain ⟨v', w, h1, h2, p, vs, e2, e3, e4, r⟩ := S.slotAt e
    exact ⟨.ref p, by rw [h1, e2], P ρ H _ .refl S.hp (.inr ⟨xs, p, vs, rfl, rfl, e4, fun m => S.hp.out p m (S.own i p (by rw [h2, e3])), r⟩)⟩
  · split at P
    · rename_i v e
      obtain ⟨v', w, h1, _, u, e2, r⟩ := S.slotAt e
      exact ⟨u, by rw [h1, e2], P ρ H _ .refl S.hp (.inl r)⟩
    · exact P.elim
/-- what is no name is looked into as it is -/
theorem snd_peek {e : Expr} {e' : Exp} (h : PE X e (tE X E Φ e')) (hn : ∀ i, e' ≠ .var i) : PE X e (tP X E Φ e') := by
  refine ⟨fun pins s σ H Q I hq => h.run pins s σ H Q I ?_⟩
  obtain ⟨ρ, ex, ws, aσ, ah, S, P⟩ := hq
  refine ⟨ρ, ex, ws, aσ, ah, S, ?_⟩
  have e : peek e' aσ ah (evE Φ e' aσ ah) = evE Φ e' aσ ah := by
    cases e' <;> first | rfl | exact absurd rfl (hn _)
  rw [e] at P
  exact P.imp (fun v h k => k.of) (fun _ _ k => k)

theorem snd_bin {o : BOp} (ha : PE X a (tE X E Φ a')) (hb : PE X b (tE X E Φ b')) : PE X (.BinOp a (pyB o) b pos) (tE X E Φ (.bin o a' b')) := by
  refine ⟨fun pins s σ H Q I hq => (pe_op (op_B X o) ha hb).run pins s σ H Q I ?_⟩
  obtain ⟨ρ, ex, ws, aσ, ah, S, P⟩ := hq
  simp only [evE, Post.bind] at P
  refine ⟨ρ, ex, ws, aσ, ah, S, P.imp (fun x h1 P ρ1 H1 v1 a1 hp1 r1 => ?_) (fun _ _ k => k)⟩
  refine ⟨ρ1, ex, ws, aσ, h1, S.ext a1 hp1, P.imp (fun y h2 P ρ2 H2 v2 a2 hp2 r2 => ?_) (fun _ _ k => k.ext a1)⟩
  refine ⟨ρ2, ex, h2, x, y, hp2, r1.step a2.step, r2, ?_⟩
  have : ∀ {r : Rs AV}, r = opB o x y h2 → Post r (Kok X ρ ex H Q) (ExC X E ρ ex H) → Post r (Kok X ρ2 ex H2 Q) noX := fun {r} er P => by
    cases r with
    | ok v h => exact Kok.ext P (a1.trans a2)
    | ex z h =>
      exfalso
      unfold opB at er
      split at er <;> first | cases er | (split at er <;> cases er)
    | no => exact P
  exact this rfl P
theorem snd_neg (ha : PE X a (tE X E Φ a')) : PE X (.UnaryOp .USub a pos) (tE X E Φ (.neg a')) := by
  refine ⟨fun pins s σ H Q I hq => (pe_un un_neg ha).run pins s σ H Q I ?_⟩
  obtain ⟨ρ, ex, ws, aσ, ah, S, P⟩ := hq
  simp only [evE, Post.bind] at P
  refine ⟨ρ, ex, ws, aσ, ah, S, P.imp (fun x h1 P ρ1 H1 v1 a1 hp1 r1 => ?_) (fun _ _ k => k)⟩
  cases x <;> simp only at P <;> try exact P.elim
  cases r1
  exact ⟨_, rfl, ((show Kok X ρ ex H Q _ h1 from P).ext a1).here hp1 (.int _)⟩
theorem snd_not (ha : PE X a (tE X E Φ a')) : PE X (.UnaryOp .Not a pos) (tE X E Φ (.not a')) := by
  refine ⟨fun pins s σ H Q I hq => (pe_not ha).run pins s σ H Q I ?_⟩
  obtain ⟨ρ, ex, ws, aσ, ah, S, P⟩ := hq
  simp only [evE, Post.bind] at P
  refine ⟨ρ, ex, ws, aσ, ah, S, P.imp (fun x h1 P ρ1 H1 v1 a1 hp1 r1 => ?_) (fun _ _ k => k)⟩
  cases x <;> simp only at P <;> try exact P.elim
  cases r1
  exact ⟨_, rfl, ((show Kok X ρ ex H Q _ h1 from P).ext a1).here hp1 (.bl _)⟩
theorem snd_and1 {op : BoolOp} (ha : PE X a (tE X E Φ a')) : PE X (.BoolOp op [a] pos) (tE X E Φ a') := pe_one ha
theorem snd_and {rest : List Expr} (ha : PE X a (tE X E Φ a')) (hb : PE X (.BoolOp .And (b :: rest) pos) (tE X E Φ b')) : PE X (.BoolOp .And (a :: b :: rest) pos) (tE X E Φ (.and a' b')) := by
  refine ⟨fun pins s σ H Q I hq => (pe_and ha hb).run pins s σ H Q I ?_⟩
  obtain ⟨ρ, ex, ws, aσ, ah, S, P⟩ := hq
  simp only [evE, Post.bind] at P
  refine ⟨ρ, ex, ws, aσ, ah, S, P.imp (fun x h1 P ρ1 H1 v1 a1 hp1 r1 => ?_) (fun _ _ k => k)⟩
  cases x <;> (try simp only at P) <;> (try exact P.elim)
  rename_i k
  cases r1
  refine ⟨k, rfl, ?_⟩
  cases k with
  | true =>
    rw [if_pos rfl]
    exact ⟨ρ1, ex, ws, aσ, h1, S.ext a1 hp1, P.imp (fun _ _ k => k.ext a1) (fun _ _ k => k.ext a1)⟩
  | false =>
    rw [if_neg (by decide)]
    exact ((show Kok X ρ ex H Q _ h1 from P).ext a1).here hp1 (.bl _)
theorem snd_or {rest : List Expr} (ha : PE X a (tE X E Φ a')) (hb : PE X (.BoolOp .Or (b :: rest) pos) (tE X E Φ b')) : PE X (.BoolOp .Or (a :: b :: rest) pos) (tE X E Φ (.or a' b')) := by
  refine ⟨fun pins s σ H Q I hq => (pe_or ha hb).run pins s σ H Q I ?_⟩
  obtain ⟨ρ, ex, ws, aσ, ah, S, P⟩ := hq
  simp only [evE, Post.bind] at P
  refine ⟨ρ, ex, ws, aσ, ah, S, P.imp (fun x h1 P ρ1 H1 v1 a1 hp1 r1 => ?_) (fun _ _ k => k)⟩
  cases x <;> (try simp only at P) <;> (try exact P.elim)
  rename_i k
  cases r1
  refine ⟨k, rfl, ?_⟩
  cases k with
  | false =>
    rw [if_neg (by decide)]
    exact ⟨ρ1, ex, ws, aσ, h1, S.ext a1 hp1, P.imp (fun _ _ k => k.ext a1) (fun _ _ k => k.ext a1)⟩
  | true =>
    rw [if_pos rfl]
    exact ((show Kok X ρ ex H Q _ h1 from P).ext a1).here hp1 (.bl _)
theorem behind_nomark {o : COp} (b : Expr) (h : behindInMarks (pyC o) b = false) : behindInMarks (pyC o) b = false := h
/-- the reading of a comparison, shared -/
theorem cmp_read {o : COp} {σ : L2.St} {H : Hp} {Q : VK} (hq : tE X E Φ (.cmp o a' b') σ H Q) : tOp (rC X o) (tP X E Φ a') (tP X E Φ b') σ H Q := by
  obtain ⟨ρ, ex, ws, aσ, ah, S, P⟩ := hq
  simp only [evE, Post.bind] at P
  refine ⟨ρ, ex, ws, aσ, ah, S, P.imp (fun x h1 P ρ1 H1 v1 a1 hp1 r1 => ?_) (fun _ _ k => k)⟩
  refine ⟨ρ1, ex, ws, aσ, h1, S.ext a1 hp1, P.imp (fun y h2 P ρ2 H2 v2 a2 hp2 r2 => ?_) (fun _ _ k => k.ext a1)⟩
  obtain ⟨v, e, P⟩ := P.lift
  obtain ⟨k, e, rfl⟩ := Option.map_eq_some_iff.mp e
  exact ⟨ρ2, ex, h2, x, y, k, hp2, r1.step a2, r2, by assumption, (P.ext (a1.trans a2)).here hp2 (.bl _)⟩
theorem snd_cmp {o : COp} (hk : Ok X) (ha : PE X a (tP X E Φ a')) (hb : PE X b (tP X E Φ b')) (hm : behindInMarks (pyC o) b = false) : PE X (.Compare a [pyC o] [b] pos) (tE X E Φ (.cmp o a' b')) :=
  ⟨fun pins s σ H Q I hq => (pe_cmpR (op_C X o hk.un) ha hb hm).run pins s σ H Q I (cmp_read hq)⟩
theorem snd_ife {t : Expr} {t' : Tst} (ht : PT X t (tT X E Φ t')) (ha : PE X a (tE X E Φ a')) (hb : PE X b (tE X E Φ b')) : PE X (.IfExp t a b pos) (tE X E Φ (.ife t' a' b')) := by
  refine ⟨fun pins s σ H Q I hq => (pe_ifExp ht ha hb).run pins s σ H Q I ?_⟩
  obtain ⟨ρ, ex, ws, aσ, ah, S, P⟩ := hq
  simp only [evE, Post.bind] at P
  refine ⟨ρ, ex, ws, aσ, ah, S, P.imp (fun k h1 P ρ1 H1 a1 hp1 => ?_) (fun _ _ k => k)⟩
  cases k with
  | true => rw [if_pos rfl]; exact ⟨ρ1, ex, ws, aσ, h1, S.ext a1 hp1, P.imp (fun _ _ k => k.ext a1) (fun _ _ k => k.ext a1)⟩
  | false => rw [if_neg (by decide)]; exact ⟨ρ1, ex, ws, aσ, h1, S.ext a1 hp1, P.imp (fun _ _ k => k.ext a1) (fun _ _ k => k.ext a1)⟩

/-! ### lists of expressions -/
theorem snd_nil : PA X [] (tEs X E Φ []) := by
  refine ⟨fun pos pins s σ H Q I hq => pa_nil.run pos pins s σ H Q I ?_⟩
  obtain ⟨ρ, ex, ws, aσ, ah, S, P⟩ := hq
  exact (show KoAs X ρ ex H Q [] ah from P) ρ H [] .refl S.hp .nil
theorem snd_cons (ha : PE X a (tE X E Φ a')) (hs : PA X es (tEs X E Φ es')) (hst : starEach (a :: es) X.env = (false, eval a X.env) :: starEach es X.env) : PA X (a :: es) (tEs X E Φ (a' :: es')) := by
  refine ⟨fun pos pins s σ H Q I hq => (pa_cons ha hs hst).run pos pins s σ H Q I ?_⟩
  obtain ⟨ρ, ex, ws, aσ, ah, S, P⟩ := hq
  simp only [evEs, Post.bind] at P
  refine ⟨ρ, ex, ws, aσ, ah, S, P.imp (fun x h1 P ρ1 H1 v1 a1 hp1 r1 => ?_) (fun _ _ k => k)⟩
  refine ⟨ρ1, ex, ws, aσ, h1, S.ext a1 hp1, P.imp (fun ys h2 P ρ2 H2 v2 a2 hp2 r2 => ?_) (fun _ _ k => k.ext a1)⟩
  exact (show KoAs X ρ ex H Q (x :: ys) h2 from P) ρ2 H2 _ (a1.trans a2) hp2 (.cons (r1.step a2.step) r2)
theorem snd_pnil : PA X [] (tPs X E Φ []) := by
  refine ⟨fun pos pins s σ H Q I hq => pa_nil.run pos pins s σ H Q I ?_⟩
  obtain ⟨ρ, ex, ws, aσ, ah, S, P⟩ := hq
  exact (show KoWs X ρ ex H Q [] ah from P) ρ H [] .refl S.hp .nil
theorem snd_pcons (ha : PE X a (tP X E Φ a')) (hs : PA X es (tPs X E Φ es')) (hst : starEach (a :: es) X.env = (false, eval a X.env) :: starEach es X.env) : PA X (a :: es) (tPs X E Φ (a' :: es')) := by
  refine ⟨fun pos pins s σ H Q I hq => (pa_cons ha hs hst).run pos pins s σ H Q I ?_⟩
  obtain ⟨ρ, ex, ws, aσ, ah, S, P⟩ := hq
  simp only [evPs, Post.bind] at P
  refine ⟨ρ, ex, ws, aσ, ah, S, P.imp (fun x h1 P ρ1 H1 v1 a1 hp1 r1 => ?_) (fun _ _ k => k)⟩
  refine ⟨ρ1, ex, ws, aσ, h1, S.ext a1 hp1, P.imp (fun ys h2 P ρ2 H2 v2 a2 hp2 r2 => ?_) (fun _ _ k => k.ext a1)⟩
  exact (show KoWs X ρ ex H Q (x :: ys) h2 from P) ρ2 H2 _ (a1.trans a2) hp2 (.cons (r1.step a2) r2)
theorem snd_tup {k : Nat} (h : PA X es (tEs X E Φ es')) : PE X (.Tuple es k pos) (tE X E Φ (.tup es')) := by
  refine ⟨fun pins s σ H Q I hq => (pe_tup h).run pins s σ H Q I ?_⟩
  obtain ⟨ρ, ex, ws, aσ, ah, S, P⟩ := hq
  simp only [evE, Post.bind] at P
  refine ⟨ρ, ex, ws, aσ, ah, S, P.imp (fun xs h1 P ρ1 H1 vs a1 hp1 r1 => ?_) (fun _ _ k => k)⟩
  obtain ⟨c, P⟩ := P.ite
  exact ⟨by rw [← r1.length]; exact c, fun p np => ((show Kok X ρ ex H Q (.tup xs) h1 from P).ext a1).tup hp1 r1 p np⟩

/-! ### subscripts, slices -/
theorem snd_sub (ha : PE X a (tP X E Φ a')) (hb : PE X b (tE X E Φ b')) (hs : PlainIx b) : PE X (.Subscript a b pos) (tE X E Φ (.sub a' b')) := by
  refine ⟨fun pins s σ H Q I hq => (pe_ix (op_Sub X) ha hb hs).run pins s σ H Q I ?_⟩
  obtain ⟨ρ, ex, ws, aσ, ah, S, P⟩ := hq
  simp only [evE, Post.bind] at P
  refine ⟨ρ, ex, ws, aσ, ah, S, P.imp (fun x h1 P ρ1 H1 v1 a1 hp1 r1 => ?_) (fun _ _ k => k)⟩
  refine ⟨ρ1, ex, ws, aσ, h1, S.ext a1 hp1, P.imp (fun y h2 P ρ2 H2 v2 a2 hp2 r2 => ?_) (fun _ _ k => k.ext a1)⟩
  obtain ⟨v, e, P⟩ := P.lift
  exact ⟨ρ2, ex, h2, x, y, v, hp2, r1.step a2, r2, e, fun v' r => (P.ext (a1.trans a2)).here hp2 r⟩
theorem snd_none : PO X none (tO X E Φ none) := by
  refine ⟨fun pins s σ H Q I hq => po_none.run pins s σ H Q I ?_⟩
  obtain ⟨ρ, ex, ws, aσ, ah, S, P⟩ := hq
  exact (show KoB X ρ ex H Q none ah from P) ρ H .refl S.hp
theorem snd_some (ha : PE X a (tE X E Φ a')) : PO X (some a) (tO X E Φ (some a')) := by
  refine ⟨fun pins s σ H Q I hq => (po_some ha).run pins s σ H Q I ?_⟩
  obtain ⟨ρ, ex, ws, aσ, ah, S, P⟩ := hq
  simp only [evO, Post.bind] at P
  refine ⟨ρ, ex, ws, aσ, ah, S, P.imp (fun x h1 P ρ1 H1 v1 a1 hp1 r1 => ?_) (fun _ _ k => k)⟩
  cases x <;> simp only at P <;> try exact P.elim
  cases r1
  exact ⟨_, rfl, (show KoB X ρ ex H Q (some _) h1 from P) ρ1 H1 a1 hp1⟩
theorem snd_slice {lo hi : Option Expr} {lo' hi' : Option Exp} {p2 : Pos} (ha : PE X a (tP X E Φ a')) (hl : PO X lo (tO X E Φ lo')) (hh : PO X hi (tO X E Φ hi')) : PE X (.Subscript a (.Slice lo hi none p2) pos) (tE X E Φ (.slice a' lo' hi')) := by
  refine ⟨fun pins s σ H Q I hq => (pe_slice (op_Sl X) ha hl hh).run pins s σ H Q I ?_⟩
  obtain ⟨ρ, ex, ws, aσ, ah, S, P⟩ := hq
  simp only [evE, Post.bind] at P
  refine ⟨ρ, ex, ws, aσ, ah, S, P.imp (fun x h1 P ρ1 H1 v1 a1 hp1 r1 => ?_) (fun _ _ k => k)⟩
  refine ⟨ρ1, ex, ws, aσ, h1, S.ext a1 hp1, P.imp (fun l h2 P ρ2 H2 a2 hp2 => ?_) (fun _ _ k => k.ext a1)⟩
  refine ⟨ρ2, ex, ws, aσ, h2, (S.ext a1 hp1).ext a2 hp2, P.imp (fun u h3 P ρ3 H3 a3 hp3 => ?_) (fun _ _ k => k.ext (a1.trans a2))⟩
  obtain ⟨v, e, P⟩ := P.lift
  exact ⟨ρ3, ex, h3, x, v, hp3, (r1.step a2).step a3, e, P.ext ((a1.trans a2).trans a3)⟩
/-- a[::-1] -/
theorem snd_rev {k : Nat} {p1 p2 p3 : Pos} (ha : PE X a (tP X E Φ a')) : PE X (.Subscript a (.Slice none none (some (.UnaryOp .USub (.Constant (.int 1) k p1) p2)) p3) pos) (tE X E Φ (.rev a')) := by
  refine ⟨fun pins s σ H Q I hq => ?_⟩
  have hr : tP X E Φ a' σ H fun x H1 => ∃ ρ ex ah v, HRel X.K X.mg ρ ex ah H1 ∧ RepW X.K X.mg ρ ex H1 v x ∧ Post (match v with | .tup xs => Rs.ok (AV.tup xs.reverse) ah | .lst xs => .ok (.lst xs.reverse) ah | _ => .no) (Kok X ρ ex H1 Q) noX := by
    obtain ⟨ρ, ex, ws, aσ, ah, S, P⟩ := hq
    simp only [evE, Post.bind] at P
    refine ⟨ρ, ex, ws, aσ, ah, S, P.imp (fun x h1 P ρ1 H1 v1 a1 hp1 r1 => ?_) (fun _ _ k => k)⟩
    refine ⟨ρ1, ex, h1, x, hp1, r1, ?_⟩
    cases x <;> simp only at P ⊢ <;> first | exact P.elim | exact Kok.ext P a1
  refine Subscript_ (thn (ha.run pins s σ H _ I hr) fun v s1 ⟨x, H1, I1, r1, q1⟩ => ?_)
  obtain ⟨ρ, ex, ah, av, hp, ra, P⟩ := q1
  have hst : PO X (some (.UnaryOp .USub (.Constant (.int 1) k p1) p2)) (tPart (tUn (rU fun i => .int (-i)) (tC (.int 1)))) := po_some (pe_un un_neg pe_int)
  refine wpAny_Slice (thn (po_none.run pins s1 σ H1 (fun o H2 => o = none ∧ H2 = H1) I1 ⟨rfl, rfl⟩) fun vl s2 ⟨l, H2, I2, pl, el, e2⟩ => ?_)
  subst el e2
  refine thn (po_none.run pins s2 σ H2 (fun o H3 => o = none ∧ H3 = H2) I2 ⟨rfl, rfl⟩) fun vu s3 ⟨u, H3, I3, pu, eu, e3⟩ => ?_
  subst eu e3
  refine thn (hst.run pins s3 σ H3 (fun o H4 => o = some (-1) ∧ H4 = H3) I3 ⟨1, rfl, -1, rfl, rfl, rfl⟩) fun vs s4 ⟨o, H4, I4, ps, eo, e4⟩ => ?_
  subst eo e4
  have I5 : Inv X pins σ H4 { s4 with heap := s4.heap.push { cls := .type "slice", data := .fields #[vl, vu, vs] } } := I4.kept (t' := s4.toks) fun b ob q => Heap.get?_push_of_some _ q
  cases av <;> simp only at P <;> try exact P.elim
  case tup xs =>
    cases ra.rep (fun _ q => by cases q) with
    | @tup p _ ws sq rs =>
      cases r1
      obtain ⟨its, r, ht, hz⟩ := I5.tuple sq
      have hlen := r.length
      show wpAny (model X.prog X.w) X.A (subscriptTail a (.Slice none none (some (.UnaryOp .USub (.Constant (.int 1) k p1) p2)) p3) (.ref p) (.ref s4.heap.objs.size)) (EP X pins σ Q) X.xe { s4 with heap := s4.heap.push { cls := .type "slice", data := .fields #[vl, vu, vs] } }
      refine tail_any (ops := [.ref p, .ref s4.heap.objs.size]) ht.typeIs (PyProof.Rows.slot_tuple_getitem.lookup) ?_ (by with_unfolding_all rfl)
      refine HTx.getItem_tuple_rev ht (Heap.IsSliceOf.new _ vl vu vs) pl pu ps ?_ (by omega)
      refine ⟨.ref _, _, I5.laid (t' := s4.toks) (o := .tup ws.reverse) (fun b ob q => Heap.get?_push_of_some _ q) (Nat.le_refl _) ?_, rfl, Kok.tup P hp rs.reverse _ (I5.hok.fresh (Nat.le_refl _))⟩
      exact ⟨by rw [List.length_reverse]; exact hz, _, r.reverse, IsTup.new _ _⟩
  case lst xs =>
    obtain ⟨p, ws, rfl, e2, _, rs⟩ := ra.lst
    cases r1
    obtain ⟨its, r, ht, hz⟩ := I5.list (.of e2)
    have hlen := r.length
    show wpAny (model X.prog X.w) X.A (subscriptTail a (.Slice none none (some (.UnaryOp .USub (.Constant (.int 1) k p1) p2)) p3) (.ref p) (.ref s4.heap.objs.size)) (EP X pins σ Q) X.xe { s4 with heap := s4.heap.push { cls := .type "slice", data := .fields #[vl, vu, vs] } }
    refine tail_any (ops := [.ref p, .ref s4.heap.objs.size]) ht.isList.typeIs (PySem.slot_list_getitem.lookup) ?_ (by with_unfolding_all rfl)
    refine wpAny_getItem_list_slice ht.isList (Heap.IsSliceOf.new _ vl vu vs) pl pu ps (by decide) ?_ (by rw [List.size_toArray]; omega)
    rw [PySem.W.krv_pick]
    refine ⟨.ref _, _, I5.laid (t' := s4.toks) (o := .lst ws.reverse) (fun b ob q => Heap.get?_push_of_some _ q) (Nat.le_refl _) ?_, rfl, Kok.lst P hp rs.reverse _ (I5.hok.fresh (Nat.le_refl _))⟩
    exact ⟨by rw [List.length_reverse]; exact hz, _, 0, r.reverse, Heap.get?_push_size _ rfl⟩
end
end G

set_option Elab.async false
set_option linter.all false
set_option maxRecDepth 100000
set_option maxHeartbeats 4000000
/-! GG: targets, iterations, comprehensions. -/
namespace G
open PySem PySem.Spec PyProof.Rows L2
def exP (ex : Addr → Prop) (p : Addr) : Addr → Prop := fun b => ex b ∨ b = p

section
variable {K : PySem.W.Frag} {mg : Str → Option Value} {ρ ρ' : List Addr} {ex ex' : Addr → Prop} {H H' : Hp} {ah ah' : AH} {ws : List (Option Addr)} {aσ : ASt} {σ : L2.St}
theorem Ext.stp (a : Ext ρ H ρ' H') (h : ∀ b, H b ≠ none → ¬ ex b → ¬ ex' b) : Stp ρ ex H ρ' ex' H' :=
  ⟨fun b u e n x => ⟨a.keep b u e n, fun q => (by rw [a.new b q n] at e; cases e), h b (by rw [e]; simp) x⟩, a.fix, fun n b e => by
    obtain ⟨t, e'⟩ := a.pre
    rw [e', List.getElem?_append_left (List.getElem?_eq_some_iff.mp e).1]; exact e⟩
theorem SlotRel.stp (a : Ext ρ H ρ' H') (st : Stp ρ ex H ρ' ex' H') {w : Option Addr} {v : Option V} (hw : ∀ b, w = some b → b ∉ ρ) : ∀ {s : Sv}, SlotRel K mg ρ ex H w v s → SlotRel K mg ρ' ex' H' w v s
  | .un, _ => trivial
  | .vl _, ⟨u, e, r⟩ => ⟨u, e, r.step st⟩
  | .ol _, ⟨b, vs, e1, e2, e3, r⟩ => ⟨b, vs, e1, e2, a.keep b _ e3 (hw b e2), r.step st⟩
theorem StRel.stp (h : StRel K mg ρ ex ws aσ ah σ H) (a : Ext ρ H ρ' H') (st : Stp ρ ex H ρ' ex' H') (hex : ∀ b, ex b → ex' b) (hp : HRel K mg ρ' ex' ah' H') : StRel K mg ρ' ex' ws aσ ah' σ H' :=
  ⟨hp, h.len, h.wlen, fun i s v w e1 e2 e3 => (h.slot i s v w e1 e2 e3).stp a st (fun b eb n => by subst eb; exact h.hp.out b n (h.own i b e3)), fun i a e => hex a (h.own i a e), h.inj⟩
/-- a slot is set to a value -/
theorem StRel.set (h : StRel K mg ρ ex ws aσ ah σ H) {i : Nat} {x : AV} {v : V} (r : Rep K mg ρ ex H x v) : StRel K mg ρ ex ws (aσ.set i (.vl x)) ah (σ.set i (some v)) H :=
  ⟨h.hp, by simp [h.len], by simp [h.wlen], fun j s u w e1 e2 e3 => by
    by_cases hj : i = j
    · subst hj
      have h1 : i < aσ.length := by have := (List.getElem?_eq_some_iff.mp e1).1; simpa using this
      have h2 : i < σ.length := by rw [← h.len]; exact h1
      rw [List.getElem?_set_self h1] at e1
      rw [List.getElem?_set_self h2] at e2
      cases e1; cases e2
      exact ⟨v, rfl, r⟩
    · rw [List.getElem?_set_ne hj] at e1 e2
      exact h.slot j s u w e1 e2 e3, h.own, h.inj⟩
theorem wipeA_length (aσ : ASt) : ∀ vs : List Nat, (wipeA aσ vs).length = aσ.length
  | [] => rfl
  | v :: vs => by unfold wipeA; rw [List.length_set, wipeA_length aσ vs]
theorem wipeA_in {aσ : ASt} {i : Nat} {s : Sv} : ∀ {vs : List Nat}, i ∈ vs → (wipeA aσ vs)[i]? = some s → s = .un
  | v :: vs, hm, h => by
    unfold wipeA at h
    by_cases hi : v = i
    · subst hi
      by_cases hv : v < (wipeA aσ vs).length
      · rw [List.getElem?_set_self hv] at h; cases h; rfl
      · rw [List.getElem?_eq_none (by simpa using hv)] at h; cases h
    · rw [List.getElem?_set_ne hi] at h
      refine wipeA_in (vs := vs) ?_ h
      rcases List.mem_cons.mp hm with e | e
      · exact absurd e.symm hi
      · exact e
theorem wipeA_out {aσ : ASt} {i : Nat} : ∀ {vs : List Nat}, i ∉ vs → (wipeA aσ vs)[i]? = aσ[i]?
  | [], _ => rfl
  | v :: vs, h => by
    have h1 : v ≠ i := fun e => h (by rw [e]; exact List.mem_cons_self)
    have h2 : i ∉ vs := fun m => h (List.mem_cons_of_mem _ m)
    unfold wipeA
    rw [List.getElem?_set_ne h1]
    exact wipeA_out h2
theorem StRel.wipe (h : StRel K mg ρ ex ws aσ ah σ H) (vs : List Nat) : StRel K mg ρ ex ws (wipeA aσ vs) ah (L2.wipe σ vs) H :=
  ⟨h.hp, by rw [wipeA_length, wipe_length, h.len], by rw [wipe_length, h.wlen], fun j s u w e1 e2 e3 => by
    by_cases hj : j ∈ vs
    · rw [wipeA_in hj e1]; trivial
    · rw [wipeA_out hj] at e1
      rw [wipe_out hj] at e2
      exact h.slot j s u w e1 e2 e3, h.own, h.inj⟩
theorem wipe_set {σ : L2.St} {i : Nat} {v : Option V} : ∀ {vs : List Nat}, i ∈ vs → L2.wipe (σ.set i v) vs = L2.wipe σ vs
  | w :: vs, hm => by
    unfold L2.wipe
    by_cases hi : i ∈ vs
    · rw [wipe_set hi]
    · have e : w = i := by
        rcases List.mem_cons.mp hm with e | e
        · exact e.symm
        · exact absurd e hi
      subst e
      have : ∀ us : List Nat, w ∉ us → L2.wipe (σ.set w v) us = (L2.wipe σ us).set w v := by
        intro us hu
        induction us with
        | nil => rfl
        | cons u us ih =>
          unfold L2.wipe
          rw [ih (fun m => hu (List.mem_cons_of_mem _ m)), List.set_comm _ _ (fun e => hu (by rw [e]; exact List.mem_cons_self))]
      rw [this vs hi, List.set_set]
end

/-! ### targets -/
def gT (X : Cx) (t : Tgt) : TG := fun v σ H Q => ∃ ρ ex ws aσ ah x aσ', StRel X.K X.mg ρ ex ws aσ ah σ H ∧ Rep X.K X.mg ρ ex H x v ∧ asgT t x aσ = some aσ' ∧
  ∀ σ', StRel X.K X.mg ρ ex ws aσ' ah σ' H → (∀ vs : List Nat, (∀ i ∈ tgSlots t, i ∈ vs) → L2.wipe σ' vs = L2.wipe σ vs) → Q σ' H
def gTs (X : Cx) (ts : List Tgt) : TGs := fun vs σ H Q => ∃ ρ ex ws aσ ah xs aσ', StRel X.K X.mg ρ ex ws aσ ah σ H ∧ Reps X.K X.mg ρ ex H xs vs ∧ asgTs ts xs aσ = some aσ' ∧
  ∀ σ', StRel X.K X.mg ρ ex ws aσ' ah σ' H → (∀ vs : List Nat, (∀ i ∈ tgsSlots ts, i ∈ vs) → L2.wipe σ' vs = L2.wipe σ vs) → Q σ' H
section
variable {X : Cx} {pos : Pos}
theorem sg_nm {i : Nat} {x : Str} (hN : X.N.Nodup) (hi : X.N[i]? = some x) (hx : Loc X.env.scope x) (hf : X.fn x = true ∨ X.env.scope.names.lookup x = some .local) : PG X (.Name x pos) (gT X (.nm i)) := by
  refine ⟨fun pins s σ H v u Q I r h => (pg_name hN hi hx hf).run pins s σ H v u Q I r ?_⟩
  obtain ⟨ρ, ex, ws, aσ, ah, y, aσ', S, ry, e, q⟩ := h
  simp only [asgT] at e
  split at e
  · cases e
    exact q _ (S.set ry) fun vs hv => wipe_set (hv i (by simp [tgSlots]))
  · cases e
def noStar : Expr → Bool
  | .Starred _ _ => false
  | _ => true
theorem assignEach_cons {e : Expr} {es : List Expr} {env : Env} (h : noStar e = true) : assignEach (e :: es) env = (false, assign e env) :: assignEach es env := by
  cases e <;> first | rfl | cases h
theorem assignEach_map {env : Env} : ∀ {es : List Expr}, es.all noStar = true → assignEach es env = es.map fun e => (false, assign e env)
  | [], _ => rfl
  | e :: es, h => by
    rw [List.all_cons, Bool.and_eq_true] at h
    rw [assignEach_cons h.1, assignEach_map h.2]; rfl
theorem sg_nil : PGs X [] (gTs X []) := by
  refine ⟨fun pins s σ H vs us Q I r h => ?_⟩
  obtain ⟨ρ, ex, ws, aσ, ah, xs, aσ', S, rs, e, q⟩ := h
  cases rs with
  | nil =>
    simp only [asgTs, Option.some.injEq] at e
    subst e
    exact pgs_nil.run pins s σ H [] us Q I r ⟨rfl, q σ S fun _ _ => rfl⟩
  | cons _ _ => simp [asgTs] at e
theorem sg_cons {e : Expr} {es : List Expr} {t : Tgt} {ts : List Tgt} (h1 : PG X e (gT X t)) (h2 : PGs X es (gTs X ts)) (hs : noStar e = true) : PGs X (e :: es) (gTs X (t :: ts)) := by
  refine ⟨fun pins s σ H vs us Q I r h => (pgs_cons h1 h2 (by rw [assignEach_cons hs]; rfl)).run pins s σ H vs us Q I r ?_⟩
  obtain ⟨ρ, ex, ws, aσ, ah, xs, aσ', S, rs, e, q⟩ := h
  cases rs with
  | nil => simp [asgTs] at e
  | cons r1 rs =>
    simp only [asgTs, Option.bind_eq_some_iff] at e
    obtain ⟨aσ1, e1, e2⟩ := e
    refine ⟨_, _, rfl, ρ, ex, ws, aσ, ah, _, aσ1, S, r1, e1, fun σ1 S1 w1 => ⟨ρ, ex, ws, aσ1, ah, _, aσ', S1, rs, e2, fun σ2 S2 w2 => q σ2 S2 fun vs hv => ?_⟩⟩
    rw [w2 vs (fun i hi => hv i (by simp [tgsSlots, hi])), w1 vs (fun i hi => hv i (by simp [tgsSlots, hi]))]
theorem asgTs_length : ∀ {ts : List Tgt} {xs : List AV} {aσ aσ' : ASt}, asgTs ts xs aσ = some aσ' → ts.length = xs.length
  | [], [], _, _, _ => rfl
  | [], _ :: _, _, _, e => by simp [asgTs] at e
  | _ :: _, [], _, _, e => by simp [asgTs] at e
  | t :: ts, x :: xs, _, _, e => by
    simp only [asgTs, Option.bind_eq_some_iff] at e
    obtain ⟨_, _, e2⟩ := e
    simp [asgTs_length e2]
theorem sg_tp {es : List Expr} {ts : List Tgt} {k : Nat} (hc : X.calm = true) (h : PGs X es (gTs X ts)) (hs : es.all noStar = true) (hl : es.length = ts.length) : PG X (.Tuple es k pos) (gT X (.tp ts)) := by
  refine ⟨fun pins s σ H v u Q I r hq => (pg_tup (n := es.length) hc h (by rw [assignEach_map hs, List.length_map]) (by
    rw [assignEach_map hs]
    generalize es = l
    induction l with
    | nil => rfl
    | cons a l ih => rw [List.map_cons, List.findIdx?_cons]; simpa using ih)).run pins s σ H v u Q I r ?_⟩
  obtain ⟨ρ, ex, ws, aσ, ah, x, aσ', S, rx, e, q⟩ := hq
  cases x <;> simp only [asgT, reduceCtorEq] at e
  cases rx with
  | tup sq rs => exact ⟨_, _, rfl, sq, by rw [← rs.length, ← asgTs_length e, hl], ρ, ex, ws, aσ, ah, _, aσ', S, rs, e, fun σ' S' w' => q σ' S' fun vs hv => w' vs (fun i hi => hv i (by simpa [tgSlots] using hi))⟩
end

/-! ### what is walked -/
def Sta (pk : Bool) (ρ : List Addr) (ex : Addr → Prop) (H : Hp) (ρ' : List Addr) (ex' : Addr → Prop) (H' : Hp) : Prop := Stp ρ ex H ρ' ex' H' ∧ (pk = true → Ext ρ H ρ' H')
structure WalkA (K : PySem.W.Frag) (mg : Str → Option Value) (pk : Bool) (ρ : List Addr) (ex : Addr → Prop) (H : Hp) (xs : List AV) (J : It) (G : Hp → Prop) (Y : Nat → Hp → V → Hp → Prop) : Prop where
  w : Walk J xs.length G Y
  g : ∀ ρ' ex' H', Sta pk ρ ex H ρ' ex' H' → G H'
  y : ∀ i x ρ' ex' ah' H' v H'', xs[i]? = some x → Sta pk ρ ex H ρ' ex' H' → HRel K mg ρ' ex' ah' H' → Y i H' v H'' → Ext ρ' H' ρ' H'' ∧ HRel K mg ρ' ex' ah' H'' ∧ Rep K mg ρ' ex' H'' x v
def KoI (X : Cx) (pk : Bool) (ρ : List Addr) (ex : Addr → Prop) (H : Hp) (R : It → Hp → Prop) (xs : List AV) (ah' : AH) : Prop :=
  ∀ ρ' H' J G Y, Ext ρ H ρ' H' → HRel X.K X.mg ρ' ex ah' H' → WalkA X.K X.mg pk ρ' ex H' xs J G Y → R J H'
def tI (X : Cx) (E : XK) (Φ : CallA) (pk : Bool) (it : Itr) : TI := fun σ H R => ∃ ρ ex ws aσ ah, StRel X.K X.mg ρ ex ws aσ ah σ H ∧ Post (evI Φ it pk aσ ah) (KoI X pk ρ ex H R) (ExC X E ρ ex H)
def tK (X : Cx) (E : XK) (Φ : CallA) (pk : Bool) (e : Exp) : TE := fun σ H Q => ∃ ρ ex ws aσ ah, StRel X.K X.mg ρ ex ws aσ ah σ H ∧ Post (if pk then peek e aσ ah (evE Φ e aσ ah) else evE Φ e aσ ah) (fun v ah' => ∀ ρ' H' v', Ext ρ H ρ' H' → HRel X.K X.mg ρ' ex ah' H' → (pk = false → Rep X.K X.mg ρ' ex H' v v') → RepW X.K X.mg ρ' ex H' v v' → Q v' H') (ExC X E ρ ex H)
section
variable {X : Cx} {E : XK} {Φ : CallA} {pos : Pos} {a b e : Expr} {a' b' e' : Exp} {pk : Bool} {tg : Expr}
theorem snd_pk (h1 : PE X e (tE X E Φ e')) (h2 : PE X e (tP X E Φ e')) : PE X e (tK X E Φ pk e') := by
  cases pk with
  | false =>
    refine ⟨fun pins s σ H Q I hq => h1.run pins s σ H Q I ?_⟩
    obtain ⟨ρ, ex, ws, aσ, ah, S, P⟩ := hq
    refine ⟨ρ, ex, ws, aσ, ah, S, ?_⟩
    simp only [Bool.false_eq_true, if_false] at P
    exact P.imp (fun v h k ρ' H' v' a hp r => k ρ' H' v' a hp (fun _ => r) (.inl r)) (fun _ _ k => k)
  | true =>
    refine ⟨fun pins s σ H Q I hq => h2.run pins s σ H Q I ?_⟩
    obtain ⟨ρ, ex, ws, aσ, ah, S, P⟩ := hq
    refine ⟨ρ, ex, ws, aσ, ah, S, ?_⟩
    simp only [if_true] at P
    exact P.imp (fun v h k ρ' H' v' a hp r => k ρ' H' v' a hp (fun q => by cases q) r) (fun _ _ k => k)
theorem vitems_items {h : AH} {x : AV} {xs : List AV} (e : vitems x = some xs) : items h x = some xs := by
  cases x <;> first | exact e | cases e
/-- a sequence that is walked -/
theorem walk_seq {ρ : List Addr} {ex : Addr → Prop} {H : Hp} {ah : AH} {x : AV} {v : V} {xs : List AV} (hp : HRel X.K X.mg ρ ex ah H) (h1 : pk = false → Rep X.K X.mg ρ ex H x v) (h2 : RepW X.K X.mg ρ ex H x v) (e : vitems x = some xs) :
    ∃ a vs, v = .ref a ∧ xs.length = vs.length ∧ ((SqL X.K H a vs ∧ WalkA X.K X.mg pk ρ ex H xs (Itl X.K a) (fun H => SqL X.K H a vs) (YAt vs)) ∨ (SqT X.K H a vs ∧ WalkA X.K X.mg pk ρ ex H xs (Itt X.K a) (fun H => SqT X.K H a vs) (YAt vs))) := by
  have yy : ∀ {vs : List V} (rs : Reps X.K X.mg ρ ex H xs vs), ∀ i x ρ' ex' ah' H' v H'', xs[i]? = some x → Sta pk ρ ex H ρ' ex' H' → HRel X.K X.mg ρ' ex' ah' H' → YAt vs i H' v H'' → Ext ρ' H' ρ' H'' ∧ HRel X.K X.mg ρ' ex' ah' H'' ∧ Rep X.K X.mg ρ' ex' H'' x v := fun {vs} rs i x ρ' ex' ah' H' v H'' ex st hp' ⟨e1, e2⟩ => by
    subst e1
    obtain ⟨v', e3, r⟩ := rs.get ex
    rw [e3] at e2; cases e2
    exact ⟨.refl, hp', r.step st.1⟩
  cases x with
  | tup ys =>
    cases e
    cases h2.rep (fun _ q => by cases q) with
    | @tup a _ vs q rs => exact ⟨a, vs, rfl, rs.length, .inr ⟨q, ⟨rs.length ▸ walk_tup, fun _ _ _ st => st.1.sqT q, yy rs⟩⟩⟩
  | lst ys =>
    cases e
    by_cases hr : Rep X.K X.mg ρ ex H (.lst xs) v
    · cases hr with
      | @lst a _ vs e1 n1 x1 rs => exact ⟨a, vs, rfl, rs.length, .inl ⟨.of e1, ⟨rs.length ▸ walk_list, fun _ _ _ st => .of (st.1.val _ _ e1 n1 x1).1, yy rs⟩⟩⟩
    · cases pk with
      | false => exact absurd (h1 rfl) hr
      | true =>
        obtain ⟨a, vs, e1, e2, n, rs⟩ := h2.lst
        exact ⟨a, vs, e1, rs.length, .inl ⟨.of e2, ⟨rs.length ▸ walk_list, fun _ _ _ st => .of ((st.2 rfl).keep _ _ e2 n), yy rs⟩⟩⟩
  | non => cases e
  | bl _ => cases e
  | int _ => cases e
  | str _ => cases e
  | dct _ _ => cases e
  | ref _ => cases e
  | fn _ => cases e
  | scr _ => cases e
theorem si_sq (h : PE X e (tK X E Φ pk e')) : PI X tg e (tI X E Φ pk (.sq e')) := by
  refine ⟨fun pins s σ H R I hq => ?_⟩
  have hr : tK X E Φ pk e' σ H fun v H1 => ∃ a, v = .ref a ∧ (((∃ vs, SqL X.K H1 a vs) ∧ R (Itl X.K a) H1) ∨ ((∃ vs, SqT X.K H1 a vs) ∧ R (Itt X.K a) H1)) := by
    obtain ⟨ρ, ex, ws, aσ, ah, S, P⟩ := hq
    simp only [evI, Post.bind] at P
    refine ⟨ρ, ex, ws, aσ, ah, S, P.imp (fun v h P ρ1 H1 v1 a1 hp1 r1 r2 => ?_) (fun _ _ k => k)⟩
    obtain ⟨xs, e1, P⟩ := P.lift
    obtain ⟨a, vs, rfl, _, q⟩ := walk_seq (pk := pk) hp1 r1 r2 e1
    refine ⟨a, rfl, ?_⟩
    rcases q with ⟨sq, w⟩ | ⟨sq, w⟩
    · exact .inl ⟨⟨vs, sq⟩, P ρ1 H1 _ _ _ a1 hp1 w⟩
    · exact .inr ⟨⟨vs, sq⟩, P ρ1 H1 _ _ _ a1 hp1 w⟩
  refine thn (h.run pins s σ H _ I hr) fun v s1 ⟨x, H1, I1, r1, q1⟩ => ?_
  obtain ⟨a, rfl, q⟩ := q1
  cases r1
  have fin : ∀ b ∈ [s1.heap.objs.size], FpOk X pins H1 b := fun b hb => by
    have e : b = s1.heap.objs.size := by simpa using hb
    subst e
    exact I1.fpOk (Nat.le_refl _) (I1.hok.fresh (Nat.le_refl _))
  rcases q with ⟨⟨vs, sq⟩, q⟩ | ⟨⟨vs, sq⟩, q⟩
  · obtain ⟨its, rv, p, hz⟩ := I1.list sq
    exact wpAny_pyIter_list p.isList ⟨s1.heap.objs.size, [s1.heap.objs.size], _, _, H1, rfl, I1.kept (t' := s1.toks) fun b o e => Heap.get?_push_of_some _ e, turn_list a _, ⟨_, Heap.get?_push_size _ rfl, rfl, rfl⟩, fin, q⟩
  · obtain ⟨its, rv, p, hz⟩ := I1.tuple sq
    exact wpAny_pyIter_tuple (show s1.heap.IsTuple a its.toArray from p) ⟨s1.heap.objs.size, [s1.heap.objs.size], _, _, H1, rfl, I1.kept (t' := s1.toks) fun b o e => Heap.get?_push_of_some _ e, turn_tuple a _, ⟨_, Heap.get?_push_size _ rfl, rfl, rfl⟩, fin, q⟩
theorem rangeA_length (a b : Int) : (rangeA a b).length = (b - a).toNat := by simp [rangeA]
theorem rangeA_get {a b : Int} {i : Nat} {x : AV} (e : (rangeA a b)[i]? = some x) : x = .int (a + (i : Int)) := by
  unfold rangeA at e
  rw [List.getElem?_map] at e
  obtain ⟨j, e1, e2⟩ := Option.map_eq_some_iff.mp e
  obtain ⟨h, e3⟩ := List.getElem?_eq_some_iff.mp e1
  simp at e3
  subst e3
  exact e2.symm
theorem walkA_range {K : PySem.W.Frag} {mg : Str → Option Value} {ρ : List Addr} {ex : Addr → Prop} {H : Hp} {lo hi : Int} : WalkA K mg pk ρ ex H (rangeA lo hi) (L2.Itr lo (hi - lo).toNat) (fun _ => True) (YFn fun i => .int (lo + i)) :=
  ⟨by rw [rangeA_length]; exact walk_range, fun _ _ _ _ => trivial, fun i x ρ' ex' ah' H' v H'' e st hp y => by
    obtain ⟨rfl, rfl⟩ := y
    rw [rangeA_get e]
    exact ⟨.refl, hp, .int _⟩⟩
theorem si_rg2 {p : Pos} (hg : Gl X "range") (hm : X.mg "range" = none) (ha : PE X a (tE X E Φ a')) (hb : PE X b (tE X E Φ b')) (hs : starEach [a, b] X.env = [(false, eval a X.env), (false, eval b X.env)]) (hs2 : starEach [b] X.env = [(false, eval b X.env)]) :
    PI X tg (.Call (.Name "range" p) [a, b] [] pos) (tI X E Φ pk (.rg a' b')) := by
  refine ⟨fun pins s σ H R I hq => (pi_range2 hg hm (snd_cons ha (snd_cons hb snd_nil (by rw [hs2]; rfl)) (by rw [hs, hs2])) hs hs2).run pins s σ H R I ?_⟩
  obtain ⟨ρ, ex, ws, aσ, ah, S, P⟩ := hq
  refine ⟨ρ, ex, ws, aσ, ah, S, ?_⟩
  simp only [evI, evEs, Post.bind] at P ⊢
  refine P.imp (fun x h1 P => P.imp (fun y h2 P => ?_) (fun _ _ k => k)) (fun _ _ k => k)
  cases x <;> (try simp only at P) <;> (try exact P.elim)
  cases y <;> (try simp only at P) <;> (try exact P.elim)
  obtain ⟨c, P⟩ := P.ite
  intro ρ1 H1 vs a1 hp1 r1
  cases r1 with
  | cons r1 r2 =>
    cases r2 with
    | cons r2 r3 =>
      cases r1; cases r2; cases r3
      exact ⟨_, _, rfl, c, (show KoI X pk ρ ex H R _ h2 from P) ρ1 H1 _ _ _ a1 hp1 walkA_range⟩
theorem si_rg1 {p : Pos} (hg : Gl X "range") (hm : X.mg "range" = none) (hb : PE X b (tE X E Φ b')) (hs2 : starEach [b] X.env = [(false, eval b X.env)]) :
    PI X tg (.Call (.Name "range" p) [b] [] pos) (tI X E Φ pk (.rg (.c (.int 0)) b')) := by
  refine ⟨fun pins s σ H R I hq => (pi_range1 hg hm (snd_cons hb snd_nil (by rw [hs2]; rfl)) hs2).run pins s σ H R I ?_⟩
  obtain ⟨ρ, ex, ws, aσ, ah, S, P⟩ := hq
  refine ⟨ρ, ex, ws, aσ, ah, S, ?_⟩
  simp only [evI, evE, evEs, Rs.bind_ok, Post.bind] at P ⊢
  refine P.imp (fun y h2 P => ?_) (fun _ _ k => k)
  cases y <;> (try simp only at P) <;> (try exact P.elim)
  rename_i j
  obtain ⟨c, P⟩ := P.ite
  intro ρ1 H1 vs a1 hp1 r1
  cases r1 with
  | cons r1 r2 =>
    cases r2
    cases r1
    have w := walkA_range (K := X.K) (mg := X.mg) (pk := pk) (ρ := ρ1) (ex := ex) (H := H1) (lo := 0) (hi := j)
    rw [Int.sub_zero] at w
    exact ⟨_, rfl, c.2.2.1, c.2.2.2, (show KoI X pk ρ ex H R _ h2 from P) ρ1 H1 _ _ _ a1 hp1 w⟩
end
end G

set_option Elab.async false
set_option linter.all false
set_option maxRecDepth 100000
set_option maxHeartbeats 4000000
/-! GH: lists that are made: displays, comprehensions, list(e); as values, as cells. -/
namespace G
open PySem PySem.Spec PyProof.Rows L2
def noE : XK := fun _ _ _ => False
theorem Rs.bind_inv {α β : Type} {r : Rs α} {f : α → AH → Rs β} {b : β} {h' : AH} (e : r.bind f = .ok b h') : ∃ a h, r = .ok a h ∧ f a h = .ok b h' := by
  cases r with
  | ok a h => exact ⟨a, h, rfl, e⟩
  | ex x h => cases e
  | no => cases e
theorem noEx_inv {α : Type} {r : Rs α} {b : α} {h' : AH} (e : noEx r = .ok b h') : r = .ok b h' := by
  cases r <;> first | exact e | cases e
theorem lift_inv {α : Type} {o : Option α} {h h' : AH} {b : α} (e : lift o h = .ok b h') : o = some b ∧ h = h' := by
  cases o with
  | none => cases e
  | some a => cases e; exact ⟨rfl, rfl⟩
theorem ite_inv {α : Type} {c : Prop} [Decidable c] {r : Rs α} {b : α} {h' : AH} (e : (if c then r else .no) = Rs.ok b h') : c ∧ r = .ok b h' := by
  by_cases h : c
  · rw [if_pos h] at e; exact ⟨h, e⟩
  · rw [if_neg h] at e; cases e
theorem Post.noEx {α : Type} {r : Rs α} {k : α → AH → Prop} {e : Exn → AH → Prop} (p : Post (noEx r) k e) : ∃ a h, r = .ok a h ∧ k a h := by
  cases r with
  | ok a h => exact ⟨a, h, rfl, p⟩
  | ex x h => exact p.elim
  | no => exact p.elim
theorem Post.ok {α : Type} {r : Rs α} {a : α} {h : AH} {k : α → AH → Prop} {e : Exn → AH → Prop} (p : r = .ok a h) (q : k a h) : Post r k e := by rw [p]; exact q

/-- the end of an expression that makes a list: it is one's own -/
def KoL (X : Cx) (ρ : List Addr) (ex : Addr → Prop) (H : Hp) (Q : VK) (v : AV) (ah' : AH) : Prop :=
  ∀ xs, v = .lst xs → ∀ ρ' H' p vs, Ext ρ H ρ' H' → H p = none → HRel X.K X.mg ρ' (exP ex p) ah' H' → H' p = some (.lst vs) → Reps X.K X.mg ρ' (exP ex p) H' xs vs → Q (.ref p) H'
def tL (X : Cx) (E : XK) (Φ : CallA) (e : Exp) : TE := fun σ H Q => ∃ ρ ex ws aσ ah, StRel X.K X.mg ρ ex ws aσ ah σ H ∧ Post (evE Φ e aσ ah) (KoL X ρ ex H Q) (ExC X E ρ ex H)

section
variable {K : PySem.W.Frag} {mg : Str → Option Value} {ρ ρ' : List Addr} {ex ex' : Addr → Prop} {H H' : Hp} {ah ah' : AH} {p : Addr}
theorem Stp.less (h : ∀ b, ex' b → ex b) : Stp ρ ex H ρ ex' H := ⟨fun _ _ e n x => ⟨e, n, fun y => x (h _ y)⟩, fun _ _ e _ => e, fun _ _ e => e⟩
theorem Stp.unP : Stp ρ (exP ex p) H ρ ex H := .less fun _ h => .inl h
theorem HRel.less (h : HRel K mg ρ ex ah H) (hl : ∀ b, ex' b → ex b) : HRel K mg ρ ex' ah H :=
  ⟨h.len, h.nd, fun a m x => h.out a m (hl a x), fun a x => h.exOk a (hl a x), fun n c a e1 e2 => (h.cell n c a e1 e2).step (.less hl) rfl⟩
theorem HRel.unP (h : HRel K mg ρ (exP ex p) ah H) : HRel K mg ρ ex ah H := h.less fun _ x => .inl x
theorem HRel.notP (h : HRel K mg ρ (exP ex p) ah H) : p ∉ ρ := fun m => h.out p m (.inr rfl)
/-- one's own list becomes a cell -/
theorem Stp.toCell : Stp ρ (exP ex p) H (ρ ++ [p]) ex H :=
  ⟨fun a u e n x => ⟨e, fun m => by
    rcases List.mem_append.mp m with m | m
    · exact n m
    · exact x (.inr (by simpa using m)), fun y => x (.inl y)⟩, fun _ _ e _ => e, fun n a e => by rw [List.getElem?_append_left (List.getElem?_eq_some_iff.mp e).1]; exact e⟩
theorem HRel.toCell (h : HRel K mg ρ (exP ex p) ah H) (np : ¬ ex p) {xs : List AV} {vs : List V} (e : H p = some (.lst vs)) (r : Reps K mg ρ (exP ex p) H xs vs) : HRel K mg (ρ ++ [p]) ex (ah ++ [.lst xs]) H := by
  refine ⟨by simp [h.len], ?_, fun a m x => ?_, fun a x => h.exOk a (.inl x), fun n c a e1 e2 => ?_⟩
  · rw [List.nodup_append]
    exact ⟨h.nd, by simp, fun a ha b hb => by
      have : b = p := by simpa using hb
      subst this
      rintro rfl
      exact h.notP ha⟩
  · rcases List.mem_append.mp m with m | m
    · exact h.out a m (.inl x)
    · have : a = p := by simpa using m
      subst this; exact np x
  · by_cases hn : n < ah.length
    · rw [List.getElem?_append_left hn] at e1
      rw [List.getElem?_append_left (by rw [h.len]; exact hn)] at e2
      exact (h.cell n c a e1 e2).step .toCell rfl
    · have h1 : n < (ah ++ [Cell.lst xs]).length := (List.getElem?_eq_some_iff.mp e1).1
      have : n = ah.length := by simp at h1; omega
      subst this
      have : c = .lst xs := by simpa using e1.symm
      subst this
      have : a = p := by
        rw [List.getElem?_append_right (by rw [h.len]; exact Nat.le_refl _)] at e2
        simpa [h.len] using e2.symm
      subst this
      exact ⟨vs, e, r.step .toCell⟩
theorem Ext.toCell (a : Ext ρ H ρ' H') (np : H p = none) : Ext ρ H (ρ' ++ [p]) H' := by
  refine ⟨?_, fun b m n => ?_, a.fix, a.keep⟩
  · obtain ⟨t, e⟩ := a.pre
    exact ⟨t ++ [p], by rw [e, List.append_assoc]⟩
  · rcases List.mem_append.mp m with m | m
    · exact a.new b m n
    · have : b = p := by simpa using m
      subst this; exact np
/-- an excluded thing is written -/
theorem Stp.atEx {o : HO} {vs : List V} (x : ex p) (e : H p = some (.lst vs)) : Stp ρ ex H ρ ex (upd H p o) :=
  ⟨fun a u e' n y => ⟨by rw [upd_ne (fun q => y (by rw [q]; exact x))]; exact e', n, y⟩, fun a u e' m => by
    rw [upd_ne (fun q => by subst q; rw [e] at e'; cases e'; exact m trivial)]; exact e', fun _ _ e => e⟩
theorem HRel.atEx {o : HO} {vs : List V} (h : HRel K mg ρ ex ah H) (x : ex p) (e : H p = some (.lst vs)) : HRel K mg ρ ex ah (upd H p o) :=
  ⟨h.len, h.nd, h.out, fun a y => by
    by_cases q : a = p
    · subst q; rw [upd_same]; simp
    · rw [upd_ne q]; exact h.exOk a y, fun n c a e1 e2 => (h.cell n c a e1 e2).step (.atEx x e) (upd_ne (fun q => h.out a (List.mem_of_getElem? e2) (by rw [q]; exact x)))⟩
end

section
variable {X : Cx} {E : XK} {Φ : CallA} {pos : Pos} {a b e : Expr} {a' b' e' : Exp} {es : List Expr} {es' : List Exp}
/-- made as a value -/
theorem snd_ofL (h : PE X e (tL X E Φ e')) : PE X e (tE X E Φ e') := by
  refine ⟨fun pins s σ H Q I hq => h.run pins s σ H Q I ?_⟩
  obtain ⟨ρ, ex, ws, aσ, ah, S, P⟩ := hq
  refine ⟨ρ, ex, ws, aσ, ah, S, P.imp (fun v h k xs ev ρ' H' p vs a np hp e r => ?_) (fun _ _ k => k)⟩
  subst ev
  exact k ρ' H' _ a hp.unP (.lst e hp.notP (fun x => S.hp.exOk p x np) (r.step .unP))
/-- made as a cell -/
theorem snd_cell (h : PE X e (tL X E Φ e')) : PE X e (tE X E Φ (.cell e')) := by
  refine ⟨fun pins s σ H Q I hq => h.run pins s σ H Q I ?_⟩
  obtain ⟨ρ, ex, ws, aσ, ah, S, P⟩ := hq
  simp only [evE, Post.bind] at P
  refine ⟨ρ, ex, ws, aσ, ah, S, P.imp (fun v h k xs ev ρ' H' p vs a np hp e r => ?_) (fun _ _ k => k)⟩
  subst ev
  have nx : ¬ ex p := fun x => S.hp.exOk p x np
  exact (show Kok X ρ ex H Q (.ref h.length) (h ++ [.lst xs]) from k) _ H' _ (a.toCell np) (hp.toCell nx e r) (.ref (by rw [List.getElem?_append_right (by rw [hp.len]; exact Nat.le_refl _)]; simp [hp.len]))
theorem hrel_newP {p : Addr} {o : HO} {ρ : List Addr} {ex : Addr → Prop} {H : Hp} {ah : AH} (hp : HRel X.K X.mg ρ ex ah H) (np : H p = none) : HRel X.K X.mg ρ (exP ex p) ah (upd H p o) :=
  ⟨hp.len, hp.nd, fun a m x => x.elim (hp.out a m) fun e => by subst e; exact hp.ne m np, fun a x => by
    by_cases e : a = p
    · subst e; rw [upd_same]; simp
    · rw [upd_ne e]; exact hp.exOk a (x.resolve_right e), fun n c a e1 e2 => by
    refine (hp.cell n c a e1 e2).step ((ext_new hp np).stp fun b h1 h2 h3 => h3.elim h2 fun e => by subst e; exact h1 np) ?_
    rw [upd_ne (fun e => by subst e; exact hp.ne (List.mem_of_getElem? e2) np)]⟩
theorem KoL.new {ρ ρ0 : List Addr} {ex : Addr → Prop} {H H0 : Hp} {ah : AH} {Q : VK} {xs : List AV} {vs : List V} (h : KoL X ρ0 ex H0 Q (.lst xs) ah) (a : Ext ρ0 H0 ρ H) (hp : HRel X.K X.mg ρ ex ah H) (hp0 : ∀ b ∈ ρ0, H0 b ≠ none) (r : Reps X.K X.mg ρ ex H xs vs) (p : Addr) (np : H p = none) : Q (.ref p) (upd H p (.lst vs)) := by
  have np0 : H0 p = none := by
    cases z : H0 p with
    | none => rfl
    | some u =>
      by_cases m : p ∈ ρ0
      · exact absurd np (hp.ne (a.sub m))
      · rw [a.keep p u z m] at np; cases np
  exact h xs rfl ρ _ p vs (a.trans (ext_new hp np)) np0 (hrel_newP hp np) upd_same (r.step ((ext_new hp np).stp fun b h1 h2 h3 => h3.elim h2 fun e => by subst e; exact h1 np))
theorem sl_lst (h : PA X es (tEs X E Φ es')) : PE X (.List es pos) (tL X E Φ (.lst es')) := by
  refine ⟨fun pins s σ H Q I hq => (pe_lst h).run pins s σ H Q I ?_⟩
  obtain ⟨ρ, ex, ws, aσ, ah, S, P⟩ := hq
  simp only [evE, Post.bind] at P
  refine ⟨ρ, ex, ws, aσ, ah, S, P.imp (fun xs h1 P ρ1 H1 vs a1 hp1 r1 => ?_) (fun _ _ k => k)⟩
  obtain ⟨c, P⟩ := P.ite
  exact ⟨by rw [← r1.length]; exact c, fun p np => (show KoL X ρ ex H Q (.lst xs) h1 from P).new a1 hp1 (fun b m => S.hp.ne m) r1 p np⟩

/-! ### comprehensions -/
/-- within the loop: what the new list at D holds -/
structure LcI (X : Cx) (ρ1 : List Addr) (ex : Addr → Prop) (H1 : Hp) (D : Addr) (ρ' : List Addr) (ah' : AH) (H' : Hp) (ys : List AV) (vs : List V) : Prop where
  ext : Ext ρ1 H1 ρ' H'
  hp : HRel X.K X.mg ρ' (exP ex D) ah' H'
  at_ : H' D = some (.lst vs)
  rs : Reps X.K X.mg ρ' (exP ex D) H' ys vs
theorem LcI.go {ρ1 ρ' ρ'' : List Addr} {ex : Addr → Prop} {H1 H' H'' : Hp} {D : Addr} {ah' ah'' : AH} {ys : List AV} {vs : List V} (L : LcI X ρ1 ex H1 D ρ' ah' H' ys vs) (a : Ext ρ' H' ρ'' H'') (hp : HRel X.K X.mg ρ'' (exP ex D) ah'' H'') : LcI X ρ1 ex H1 D ρ'' ah'' H'' ys vs :=
  ⟨L.ext.trans a, hp, a.keep _ _ L.at_ L.hp.notP, L.rs.step a.step⟩
theorem LcI.put {ρ1 ρ' : List Addr} {ex : Addr → Prop} {H1 H' : Hp} {D : Addr} {ah' : AH} {ys : List AV} {vs : List V} {y : AV} {v : V} (L : LcI X ρ1 ex H1 D ρ' ah' H' ys vs) (nD : H1 D = none) (r : Rep X.K X.mg ρ' (exP ex D) H' y v) :
    LcI X ρ1 ex H1 D ρ' ah' (upd H' D (.lst (vs ++ [v]))) (ys ++ [y]) (vs ++ [v]) :=
  ⟨⟨L.ext.pre, L.ext.new, fun a u e m => by
      rw [upd_ne (fun q => by subst q; rw [nD] at e; cases e)]; exact L.ext.fix a u e m, fun a u e n => by
      rw [upd_ne (fun q => by subst q; rw [nD] at e; cases e)]; exact L.ext.keep a u e n⟩, L.hp.atEx (.inr rfl) L.at_, upd_same, (L.rs.step (.atEx (.inr rfl) L.at_)).append (.cons (r.step (.atEx (.inr rfl) L.at_)) .nil)⟩
theorem walk_W {J : It} {n : Nat} {G : Hp → Prop} {Y : Nat → Hp → V → Hp → Prop} (w : Walk J n G Y) {Step : (Hp → Prop) → V → Hp → Prop} {H0 : Hp} {Qd : Hp → Prop} (Pv : Nat → Hp → Prop) (h0 : Pv 0 H0) (hG : ∀ i H, i ≤ n → Pv i H → G H)
    (hs : ∀ i x H H', i < n → Pv i H → Y i H x H' → Step (Pv (i + 1)) x H') (hd : ∀ H, Pv n H → Qd H) :
    ∃ W : Nat → Nat → Hp → Prop, (∃ m, W 0 m H0) ∧ ∀ i m H, W i m H → (J.stop i H ∧ Qd H) ∨ (J.go i H ∧ ∃ Nx : Hp → Prop, (∀ H', Nx H' → ∃ m', m' < m ∧ W (i + 1) m' H') ∧ ∀ x H', J.yld i H x H' → Step Nx x H') := by
  refine ⟨fun i m H => m = n - i ∧ i ≤ n ∧ Pv i H, ⟨n, by simp, Nat.zero_le _, h0⟩, ?_⟩
  rintro i m H ⟨rfl, hi, p⟩
  have q := hG i H hi p
  by_cases hlt : i < n
  · exact .inr ⟨w.goes i H hlt q, Pv (i + 1), fun H' p' => ⟨n - (i + 1), by omega, rfl, hlt, p'⟩, fun x H' y => hs i x H H' hlt p (w.yields i H x H' hlt q y)⟩
  · have e : i = n := by omega
    subst e
    exact .inl ⟨w.stops H q, hd H p⟩
theorem compL_cons {tg : Tgt} {body : ASt → AH → Rs (List AV)} {x : AV} {xs : List AV} {σ : ASt} {h hz : AH} {zs : List AV} (e : compL tg body (x :: xs) σ h = .ok zs hz) :
    ∃ σ' ys h1 zs', asgT tg x σ = some σ' ∧ body σ' h = .ok ys h1 ∧ compL tg body xs σ h1 = .ok zs' hz ∧ zs = ys ++ zs' := by
  unfold compL at e
  obtain ⟨σ', h1, e1, e⟩ := Rs.bind_inv e
  obtain ⟨e0, rfl⟩ := lift_inv e1
  obtain ⟨ys, h2, e2, e⟩ := Rs.bind_inv e
  obtain ⟨zs', h3, e3, e⟩ := Rs.bind_inv e
  cases e
  exact ⟨σ', ys, h2, zs', e0, e2, e3, rfl⟩
/-- between two moments of a comprehension's loop -/
structure LStp (D : Addr) (ρ : List Addr) (ex : Addr → Prop) (H : Hp) (ρ' : List Addr) (H' : Hp) : Prop where
  stp : Stp ρ ex H ρ' ex H'
  keep : ∀ a u, H a = some u → a ∉ ρ → a ≠ D → H' a = some u ∧ a ∉ ρ'
section
variable {D : Addr} {ρ ρ' ρ'' : List Addr} {ex : Addr → Prop} {H H' H'' : Hp}
theorem LStp.refl : LStp D ρ ex H ρ H := ⟨.refl, fun _ _ e n _ => ⟨e, n⟩⟩
theorem LStp.trans (a : LStp D ρ ex H ρ' H') (b : LStp D ρ' ex H' ρ'' H'') : LStp D ρ ex H ρ'' H'' :=
  ⟨a.stp.trans b.stp, fun c u e n d => let ⟨e1, n1⟩ := a.keep c u e n d; b.keep c u e1 n1 d⟩
theorem LStp.of (a : Ext ρ H ρ' H') : LStp D ρ ex H ρ' H' := ⟨a.step, fun b u e n _ => ⟨a.keep b u e n, fun q => (by rw [a.new b q n] at e; cases e)⟩⟩
theorem LStp.put {o : HO} {vs : List V} (x : ex D) (e : H D = some (.lst vs)) : LStp D ρ ex H ρ (upd H D o) := ⟨.atEx x e, fun b u e n d => ⟨by rw [upd_ne d]; exact e, n⟩⟩
theorem StRel.lstp {K : PySem.W.Frag} {mg : Str → Option Value} {ah ah' : AH} {ws : List (Option Addr)} {aσ : ASt} {σ : L2.St} (S : StRel K mg ρ ex ws aσ ah σ H) (a : LStp D ρ ex H ρ' H') (hD : ∀ (i : Nat) (b : Addr), ws[i]? = some (some b) → b ≠ D) (hp : HRel K mg ρ' ex ah' H') : StRel K mg ρ' ex ws aσ ah' σ H' :=
  ⟨hp, S.len, S.wlen, fun i s v w e1 e2 e3 => by
    have q := S.slot i s v w e1 e2 e3
    cases s with
    | un => trivial
    | vl x =>
      obtain ⟨u, e, r⟩ := q
      exact ⟨u, e, r.step a.stp⟩
    | ol xs =>
      obtain ⟨b, vs, f1, f2, f3, r⟩ := q
      subst f2
      exact ⟨b, vs, f1, rfl, (a.keep b _ f3 (fun m => S.hp.out b m (S.own i b e3)) (hD i b e3)).1, r.step a.stp⟩, S.own, S.inj⟩
end
theorem wipe_wipe {σ : L2.St} {vs : List Nat} : ∀ {us : List Nat}, (∀ i ∈ us, i ∈ vs) → L2.wipe (L2.wipe σ us) vs = L2.wipe σ vs
  | [], _ => rfl
  | u :: us, h => by
    show L2.wipe ((L2.wipe σ us).set u none) vs = _
    rw [wipe_set (h u List.mem_cons_self)]
    exact wipe_wipe fun i m => h i (List.mem_cons_of_mem _ m)
/-- one loop of a comprehension; what a turn adds is told by B -/
theorem lc_loop {pk : Bool} {ρ1 ρa ρs : List Addr} {ex exs : Addr → Prop} {H1 Ha Hs : Hp} {D : Addr} {aha hz : AH} {ys : List AV} {ws : List (Option Addr)} {aσ : ASt} {σ : L2.St} {xs zs : List AV} {J : It} {G : Hp → Prop} {Y : Nat → Hp → V → Hp → Prop} {tg' : Tgt} {body : ASt → AH → Rs (List AV)} {vs : List Nat} {Nx : Hp → Prop}
    (B : (Hp → Prop) → L2.St → Hp → Prop) {ua : List V}
    (L0 : LcI X ρ1 ex H1 D ρa aha Ha ys ua) (hD : ∀ (i : Nat) (b : Addr), ws[i]? = some (some b) → b ≠ D) (S : StRel X.K X.mg ρa (exP ex D) ws aσ aha σ Ha) (WA : WalkA X.K X.mg pk ρs exs Hs xs J G Y)
    (hst : ∀ ρ' H' ys uv ah', LcI X ρ1 ex H1 D ρ' ah' H' ys uv → LStp D ρa (exP ex D) Ha ρ' H' → Sta pk ρs exs Hs ρ' (exP ex D) H')
    (hc : compL tg' body xs (wipeA aσ vs) aha = .ok zs hz) (hvs : ∀ i ∈ tgSlots tg', i ∈ vs) (hlen : (ys ++ zs).length ≤ sizeLine)
    (hB : ∀ (N : Hp → Prop) (ρ' : List Addr) (ah' : AH) (H' : Hp) (ys' us' : List AV) (uv : List V) (aσ' : ASt) (σ' : L2.St) (h2 : AH), LcI X ρ1 ex H1 D ρ' ah' H' ys' uv → StRel X.K X.mg ρ' (exP ex D) ws aσ' ah' σ' H' → body aσ' ah' = .ok us' h2 → (ys' ++ us').length ≤ sizeLine →
      (∀ ρ'' H'' uv', LStp D ρ' (exP ex D) H' ρ'' H'' → LcI X ρ1 ex H1 D ρ'' h2 H'' (ys' ++ us') uv' → N H'') → B N σ' H')
    (hfin : ∀ ρ' H' uv, LcI X ρ1 ex H1 D ρ' hz H' (ys ++ zs) uv → LStp D ρa (exP ex D) Ha ρ' H' → Nx H') :
    ∃ W : Nat → Nat → Hp → Prop, (∃ m, W 0 m Ha) ∧ ∀ i m H, W i m H → (J.stop i H ∧ Nx H) ∨ (J.go i H ∧ ∃ N : Hp → Prop, (∀ H', N H' → ∃ m', m' < m ∧ W (i + 1) m' H') ∧ ∀ x H', J.yld i H x H' →
      gT X tg' x (L2.wipe σ vs) H' fun σ2 H2 => L2.wipe σ2 vs = L2.wipe σ vs ∧ B N σ2 H2) := by
  refine walk_W WA.w (Step := fun N x H' => gT X tg' x (L2.wipe σ vs) H' fun σ2 H2 => L2.wipe σ2 vs = L2.wipe σ vs ∧ B N σ2 H2)
    (fun i H => ∃ ρ' ah' ys' zs' uv, LcI X ρ1 ex H1 D ρ' ah' H ys' uv ∧ LStp D ρa (exP ex D) Ha ρ' H ∧ compL tg' body (xs.drop i) (wipeA aσ vs) ah' = .ok zs' hz ∧ ys' ++ zs' = ys ++ zs)
    ⟨ρa, aha, ys, zs, ua, L0, .refl, by rw [List.drop_zero]; exact hc, rfl⟩ ?_ ?_ ?_
  · rintro i H hi ⟨ρ', ah', ys', zs', uv, L, st, _, _⟩
    exact WA.g ρ' _ H (hst ρ' H ys' uv ah' L st)
  · rintro i x H H' hi ⟨ρ', ah', ys', zs', uv, L, st, hcc, hyz⟩ hy
    have hx : xs[i]? = some xs[i] := List.getElem?_eq_getElem hi
    rw [List.drop_eq_getElem_cons hi] at hcc
    obtain ⟨aσ2, us, h1, zs2, e1, e2, e3, rfl⟩ := compL_cons hcc
    obtain ⟨a1, hp1, r1⟩ := WA.y i _ ρ' _ ah' H x H' hx (hst ρ' H ys' uv ah' L st) L.hp hy
    have L1 := L.go a1 hp1
    have st1 := st.trans (LStp.of a1)
    have S1 := (S.lstp st1 hD hp1).wipe vs
    refine ⟨ρ', exP ex D, ws, _, ah', _, aσ2, S1, r1, e1, fun σ2 S2 hw => ⟨(hw vs hvs).trans (wipe_wipe fun _ m => m), ?_⟩⟩
    have hl2 : (ys' ++ us).length ≤ sizeLine := by
      have := congrArg List.length hyz
      simp only [List.length_append] at this hlen ⊢
      omega
    refine hB _ ρ' ah' H' ys' us uv aσ2 σ2 h1 L1 S2 e2 hl2 fun ρ'' H'' uv' st2 L2 => ⟨ρ'', h1, _, zs2, uv', L2, st1.trans st2, e3, ?_⟩
    rw [← hyz, List.append_assoc]
  · rintro H ⟨ρ', ah', ys', zs', uv, L, st, hcc, hyz⟩
    rw [List.drop_length] at hcc
    cases hcc
    rw [List.append_nil] at hyz
    subst hyz
    exact hfin ρ' H uv L st
theorem tT_of {E : XK} {t : Tst} {ρ : List Addr} {ex : Addr → Prop} {ws : List (Option Addr)} {aσ : ASt} {ah : AH} {σ : L2.St} {H : Hp} {Q : Bool → Hp → Prop} (S : StRel X.K X.mg ρ ex ws aσ ah σ H) (P : Post (evT Φ t aσ ah) (KoB X ρ ex H Q) (ExC X E ρ ex H)) : tT X E Φ t σ H Q := ⟨ρ, ex, ws, aσ, ah, S, P⟩
/-- the tests, the element: what a turn of the last clause does -/
theorem lc_elt {ifs' : List Tst} {elt' : Exp} {ρ1 ρ' : List Addr} {ex : Addr → Prop} {H1 H' : Hp} {D : Addr} {ah' h2 : AH} {ys' us' : List AV} {uv : List V} {ws : List (Option Addr)} {aσ' : ASt} {σ' : L2.St} {N : Hp → Prop} (nD : H1 D = none)
    (L : LcI X ρ1 ex H1 D ρ' ah' H' ys' uv) (S : StRel X.K X.mg ρ' (exP ex D) ws aσ' ah' σ' H')
    (hb : ((evF Φ ifs' aσ' ah').bind fun k h => match k with | true => (evE Φ elt' aσ' h).bind fun x h => .ok [x] h | false => .ok [] h) = Rs.ok us' h2) (hlen : (ys' ++ us').length ≤ sizeLine)
    (hN : ∀ ρ'' H'' uv', LStp D ρ' (exP ex D) H' ρ'' H'' → LcI X ρ1 ex H1 D ρ'' h2 H'' (ys' ++ us') uv' → N H'') :
    tF X noE Φ ifs' σ' H' fun b H3 => if b = true then tE X noE Φ elt' σ' H3 fun y H4 => ∃ acc, H4 D = some (.lst acc) ∧ acc.length < sizeLine ∧ N (upd H4 D (.lst (acc ++ [y]))) else N H3 := by
  obtain ⟨k, h3, e1, e2⟩ := Rs.bind_inv hb
  refine ⟨ρ', exP ex D, ws, aσ', ah', S, Post.ok e1 fun ρ3 H3 a3 hp3 => ?_⟩
  have L3 := L.go a3 hp3
  cases k with
  | false =>
    cases e2
    show N H3
    exact hN ρ3 H3 uv (.of a3) (by rw [List.append_nil]; exact L3)
  | true =>
    dsimp only [if_true]; rw [if_pos rfl]
    obtain ⟨x, h4, e3, e4⟩ := Rs.bind_inv e2
    cases e4
    refine ⟨ρ3, exP ex D, ws, aσ', h3, S.ext a3 hp3, Post.ok e3 fun ρ4 H4 y a4 hp4 r4 => ?_⟩
    have L4 := L3.go a4 hp4
    refine ⟨uv, L4.at_, ?_, hN ρ4 _ _ (((LStp.of a3).trans (LStp.of a4)).trans (.put (.inr rfl) L4.at_)) (L4.put nD r4)⟩
    rw [← L4.rs.length]
    simp only [List.length_append, List.length_singleton] at hlen
    omega
theorem LcI.start {ρ1 : List Addr} {ex : Addr → Prop} {H1 : Hp} {D : Addr} {ah : AH} (hp : HRel X.K X.mg ρ1 ex ah H1) (nD : H1 D = none) : LcI X ρ1 ex H1 D ρ1 ah (upd H1 D (.lst [])) [] [] :=
  ⟨ext_new hp nD, hrel_newP hp nD, upd_same, .nil⟩
theorem LcI.done {ρ0 ρ1 ρ' : List Addr} {ex : Addr → Prop} {H0 H1 H' : Hp} {D : Addr} {ah hz : AH} {zs : List AV} {uv : List V} {Q : VK} (k : KoL X ρ0 ex H0 Q (.lst zs) hz) (a : Ext ρ0 H0 ρ1 H1) (hp0 : HRel X.K X.mg ρ0 ex ah H0) (nD : H1 D = none) (n1 : D ∉ ρ1) (L : LcI X ρ1 ex H1 D ρ' hz H' zs uv) : Q (.ref D) H' := by
  have np0 : H0 D = none := by
    cases z : H0 D with
    | none => rfl
    | some u =>
      by_cases m : D ∈ ρ0
      · exact absurd (a.sub m) n1
      · rw [a.keep D u z m] at nD; cases nD
  exact k zs rfl ρ' H' D uv (a.trans L.ext) np0 L.hp L.at_ L.rs
section
variable {elt tg iter tg1 iter1 : Expr} {ifs ifs1 : List Expr} {scope : Scope} {own : List (Str × Nat)} {tg' tg1' : Tgt} {it' it1' : Itr} {ifs' ifs1' : List Tst} {elt' : Exp}
theorem lc_read (hown : own.map (·.2) = tgSlots tg') {σ : L2.St} {H : Hp} {Q : VK} (hq : tL X E Φ (.comp (.cl tg' it' ifs' (.elt elt'))) σ H Q) : tLc (tI X E Φ true it') (gT X tg') (tF X noE Φ ifs') (tE X noE Φ elt') (own.map (·.2)) σ H Q := by
  obtain ⟨ρ, ex, ws, aσ, ah, S, P⟩ := hq
  simp only [evE, Post.bind] at P
  obtain ⟨zs, hz, e0, P⟩ := P.noEx
  obtain ⟨hl, P⟩ := P.ite
  unfold evC at e0
  obtain ⟨xs, h1, e1, e2⟩ := Rs.bind_inv e0
  refine ⟨ρ, ex, ws, aσ, ah, S, Post.ok e1 fun ρ1 H1 J G Y a1 hp1 WA D nD => ?_⟩
  have L0 := LcI.start hp1 nD
  have hex : ∀ b, H1 b ≠ none → ¬ ex b → ¬ exP ex D b := fun b h1 h2 h3 => h3.elim h2 fun e => by subst e; exact h1 nD
  have S1 := S.ext a1 hp1
  have S0 : StRel X.K X.mg ρ1 (exP ex D) ws aσ h1 σ (upd H1 D (.lst [])) := S1.stp L0.ext (L0.ext.stp hex) (fun b x => .inl x) L0.hp
  have hD : ∀ (i : Nat) (b : Addr), ws[i]? = some (some b) → b ≠ D := fun i b e q => by
    subst q
    exact S1.hp.exOk b (S1.own i b e) nD
  rw [hown]
  rw [show tgSlots tg' ++ cmpSlots (.elt elt') = tgSlots tg' by simp [cmpSlots]] at e2
  exact lc_loop (fun N σ2 H2 => tF X noE Φ ifs' σ2 H2 fun b H3 => if b = true then tE X noE Φ elt' σ2 H3 fun y H4 => ∃ acc, H4 D = some (.lst acc) ∧ acc.length < sizeLine ∧ N (upd H4 D (.lst (acc ++ [y]))) else N H3)
    L0 hD S0 WA (fun ρ' H' ys uv ah' L _ => ⟨L.ext.stp hex, fun _ => L.ext⟩) e2 (fun i hi => hi) (by simpa using hl)
    (fun N ρ' ah' H' ys' us' uv aσ' σ' h2 L S hb hlen hN => lc_elt nD L S (by unfold evC at hb; exact hb) hlen hN)
    (fun ρ' H' uv L st => LcI.done (show KoL X ρ ex H Q (.lst zs) hz from P) a1 S.hp nD (fun m => hp1.ne m nD) (by simpa using L))
theorem sl_lc (hk : Ok X) (hi : PI X tg iter (tI X E Φ true it')) (ok : BlkOk X.N X.env.scope scope own) (hown : own.map (·.2) = tgSlots tg')
    (hg : ∀ (s : Shared) (H : Hp) (C : Addr) (cl : List (Str × Addr)) (fp : List Addr), PG (X.blk s H scope (compEnvC scope cl C X.env) fp) tg (gT X tg')) (ht : ∀ (s : Shared) (H : Hp) (C : Addr) (cl : List (Str × Addr)) (fp : List Addr), PTs (X.blk s H scope (compEnvC scope cl C X.env) fp) ifs (tF X noE Φ ifs'))
    (he : ∀ (s : Shared) (H : Hp) (C : Addr) (cl : List (Str × Addr)) (fp : List Addr), PE (X.blk s H scope (compEnvC scope cl C X.env) fp) elt (tE X noE Φ elt')) (hs : ∀ x, foldedSetIterable iter X.env x = pure x) :
    PE X (.ListComp elt [⟨tg, iter, ifs, 0⟩] scope pos) (tL X E Φ (.comp (.cl tg' it' ifs' (.elt elt')))) :=
  ⟨fun pins s σ H Q I hq => (pe_lc hk.calm hk.nd hi ok hg ht he hs).run pins s σ H Q I (lc_read hown hq)⟩
theorem lc2_read (hown : own.map (·.2) = tgSlots tg' ++ tgSlots tg1') {σ : L2.St} {H : Hp} {Q : VK} (hq : tL X E Φ (.comp (.cl tg' it' ifs' (.cl tg1' it1' ifs1' (.elt elt')))) σ H Q) :
    tLc2 (tI X E Φ true it') (gT X tg') (tF X noE Φ ifs') (tI X noE Φ false it1') (gT X tg1') (tF X noE Φ ifs1') (tE X noE Φ elt') (own.map (·.2)) (tgSlots tg1') σ H Q := by
  obtain ⟨ρ, ex, ws, aσ, ah, S, P⟩ := hq
  simp only [evE, Post.bind] at P
  obtain ⟨zs, hz, e0, P⟩ := P.noEx
  obtain ⟨hl, P⟩ := P.ite
  unfold evC at e0
  obtain ⟨xs, h1, e1, e2⟩ := Rs.bind_inv e0
  refine ⟨ρ, ex, ws, aσ, ah, S, Post.ok e1 fun ρ1 H1 J G Y a1 hp1 WA D nD => ?_⟩
  have L0 := LcI.start hp1 nD
  have hex : ∀ b, H1 b ≠ none → ¬ ex b → ¬ exP ex D b := fun b h1 h2 h3 => h3.elim h2 fun e => by subst e; exact h1 nD
  have S1 := S.ext a1 hp1
  have S0 : StRel X.K X.mg ρ1 (exP ex D) ws aσ h1 σ (upd H1 D (.lst [])) := S1.stp L0.ext (L0.ext.stp hex) (fun b x => .inl x) L0.hp
  have hD : ∀ (i : Nat) (b : Addr), ws[i]? = some (some b) → b ≠ D := fun i b e q => by
    subst q
    exact S1.hp.exOk b (S1.own i b e) nD
  rw [hown]
  rw [show tgSlots tg' ++ cmpSlots (.cl tg1' it1' ifs1' (.elt elt')) = tgSlots tg' ++ tgSlots tg1' by simp [cmpSlots]] at e2
  refine lc_loop (fun N σ2 H2 => tF X noE Φ ifs' σ2 H2 fun b H3 => if b = true then tI X noE Φ false it1' σ2 H3 fun J1 H4 => ∃ W1 : Nat → Nat → Hp → Prop, (∃ m, W1 0 m H4) ∧ ∀ j k H, W1 j k H →
      (J1.stop j H ∧ N H) ∨ (J1.go j H ∧ ∃ Nx1 : Hp → Prop, (∀ H', Nx1 H' → ∃ k', k' < k ∧ W1 (j + 1) k' H') ∧ ∀ x H', J1.yld j H x H' → gT X tg1' x (L2.wipe σ2 (tgSlots tg1')) H' fun σ3 H5 => L2.wipe σ3 (tgSlots tg1') = L2.wipe σ2 (tgSlots tg1') ∧ tF X noE Φ ifs1' σ3 H5 fun b H6 =>
        if b = true then tE X noE Φ elt' σ3 H6 fun y H7 => ∃ acc, H7 D = some (.lst acc) ∧ acc.length < sizeLine ∧ Nx1 (upd H7 D (.lst (acc ++ [y]))) else Nx1 H6)
    else N H3)
    L0 hD S0 WA (fun ρ' H' ys uv ah' L _ => ⟨L.ext.stp hex, fun _ => L.ext⟩) e2 (fun i hi => List.mem_append_left _ hi) (by simpa using hl)
    (fun N ρ' ah' H' ys' us' uv aσ' σ' h2 L S hb hlen hN => ?_)
    (fun ρ' H' uv L st => LcI.done (show KoL X ρ ex H Q (.lst zs) hz from P) a1 S.hp nD (fun m => hp1.ne m nD) (by simpa using L))
  obtain ⟨k, h3, e3, e4⟩ := Rs.bind_inv hb
  refine ⟨ρ', exP ex D, ws, aσ', ah', S, Post.ok e3 fun ρ3 H3 a3 hp3 => ?_⟩
  have L3 := L.go a3 hp3
  have S3 := S.ext a3 hp3
  cases k with
  | false =>
    cases e4
    show N H3
    exact hN ρ3 H3 uv (.of a3) (by rw [List.append_nil]; exact L3)
  | true =>
    dsimp only [if_true]; rw [if_pos rfl]
    simp only at e4
    unfold evC at e4
    obtain ⟨xs1, h4, e5, e6⟩ := Rs.bind_inv e4
    refine ⟨ρ3, exP ex D, ws, aσ', h3, S3, Post.ok e5 fun ρ4 H4 J1 G1 Y1 a4 hp4 WA1 => ?_⟩
    have L4 := L3.go a4 hp4
    have S4 := S3.ext a4 hp4
    rw [show tgSlots tg1' ++ cmpSlots (.elt elt') = tgSlots tg1' by simp [cmpSlots]] at e6
    exact lc_loop (fun N σ2 H2 => tF X noE Φ ifs1' σ2 H2 fun b H3 => if b = true then tE X noE Φ elt' σ2 H3 fun y H4 => ∃ acc, H4 D = some (.lst acc) ∧ acc.length < sizeLine ∧ N (upd H4 D (.lst (acc ++ [y]))) else N H3)
      L4 hD S4 WA1 (fun ρ' H' ys uv ah' L st => ⟨st.stp, fun q => by cases q⟩) e6 (fun i hi => hi) hlen
      (fun N ρ' ah' H' ys' us' uv aσ' σ' h2 L S hb hlen hN => lc_elt nD L S (by unfold evC at hb; exact hb) hlen hN)
      (fun ρ' H' uv L st => hN ρ' H' uv (((LStp.of a3).trans (LStp.of a4)).trans st) L)
theorem sl_lc2 (hk : Ok X) (hi : PI X tg iter (tI X E Φ true it')) (ok : BlkOk X.N X.env.scope scope own) (hown : own.map (·.2) = tgSlots tg' ++ tgSlots tg1')
    (hg : ∀ (s : Shared) (H : Hp) (C : Addr) (cl : List (Str × Addr)) (fp : List Addr), PG (X.blk s H scope (compEnvC scope cl C X.env) fp) tg (gT X tg')) (ht : ∀ (s : Shared) (H : Hp) (C : Addr) (cl : List (Str × Addr)) (fp : List Addr), PTs (X.blk s H scope (compEnvC scope cl C X.env) fp) ifs (tF X noE Φ ifs'))
    (hi1 : ∀ (s : Shared) (H : Hp) (C : Addr) (cl : List (Str × Addr)) (fp : List Addr), PI (X.blk s H scope (compEnvC scope cl C X.env) fp) tg1 iter1 (tI X noE Φ false it1'))
    (hg1 : ∀ (s : Shared) (H : Hp) (C : Addr) (cl : List (Str × Addr)) (fp : List Addr), PG (X.blk s H scope (compEnvC scope cl C X.env) fp) tg1 (gT X tg1')) (ht1 : ∀ (s : Shared) (H : Hp) (C : Addr) (cl : List (Str × Addr)) (fp : List Addr), PTs (X.blk s H scope (compEnvC scope cl C X.env) fp) ifs1 (tF X noE Φ ifs1'))
    (he : ∀ (s : Shared) (H : Hp) (C : Addr) (cl : List (Str × Addr)) (fp : List Addr), PE (X.blk s H scope (compEnvC scope cl C X.env) fp) elt (tE X noE Φ elt')) (hs : ∀ x, foldedSetIterable iter X.env x = pure x) (hs1 : ∀ env x, foldedSetIterable iter1 env x = pure x) :
    PE X (.ListComp elt [⟨tg, iter, ifs, 0⟩, ⟨tg1, iter1, ifs1, 0⟩] scope pos) (tL X E Φ (.comp (.cl tg' it' ifs' (.cl tg1' it1' ifs1' (.elt elt'))))) :=
  ⟨fun pins s σ H Q I hq => (pe_lc2 (vs1 := tgSlots tg1') hk.calm hk.nd hi ok (fun i hi => by rw [hown]; exact List.mem_append_right _ hi) hg ht hi1 hg1 ht1 he hs hs1).run pins s σ H Q I (lc2_read hown hq)⟩
end
end
end G

set_option autoImplicit false
set_option Elab.async false
set_option linter.all false
set_option maxRecDepth 100000
set_option maxHeartbeats 4000000
/-! GFn: a def's promise where no repr is under way (so that repr may be told), its calls, a law's end over it. -/
namespace G
open PySem PySem.Spec PyProof.Rows L2
/-- a def's promise, no repr under way -/
structure FnG (P : Program) (w : World) (K : PySem.W.Frag) (mg : Str → Option Value) (base : Heap) (CX : CXT) (k : Nat) (f : Addr) (fd : FuncData) (ps : List Str) (sp : Sp) : Prop where
  len : ∀ vs H Q E, sp vs H Q E → vs.length = ps.length
  run : ∀ (A : Around) (outer : List Env) (s : Shared) (H : Hp) (args : Args) (us : List Value) (vs : List V) (Q : VK) (E : XK), Room k A → A.guards = some [] → Env0 P w K mg base A outer s H → BindsTo s fd args (ps.zip us) → Vals vs us → sp vs H Q E →
    codeAny (model P w) A (.call (.ref f) args) (CR CX outer P w H s Q E) s
section
variable {P : Program} {w : World} {K : PySem.W.Frag} {mg : Str → Option Value} {base : Heap} {CX : CXT} {k : Nat} {f : Addr} {fd : FuncData} {ps : List Str} {sp : Sp}
theorem FnG.mono {j : Nat} (F : FnG P w K mg base CX j f fd ps sp) (h : j ≤ k) : FnG P w K mg base CX k f fd ps sp := ⟨F.len, fun A outer s H args us vs Q E hr => F.run A outer s H args us vs Q E (hr.mono h)⟩
/-- from its body -/
theorem FnG.of {x qual : Str} {params : Arguments} {body : List Stmt} {scope : Scope} {dvs : List V} {kws : List (Str × V)} {N : List Str} (F : FunD K x qual params body scope dvs kws f fd) (S : FnScope N ps scope) (len : ∀ vs H Q E, sp vs H Q E → vs.length = ps.length)
    (hbody : ∀ (cdv : Value) (A : Around) (outer : List Env) (s : Shared) (H : Hp) (vs : List V) (Q : VK) (E : XK), Room k (A.deeper (envOfC qual scope s.heap.objs.size f cdv)) → A.guards = some [] → sp vs H Q E →
      ∃ t, PSs (cxOf CX P w K mg base N qual scope f cdv A outer s H E) body t ∧ t { nx := fun _ H' => Q .non H', rt := Q } (L2.start N vs) H) : FnG P w K mg base CX (k + 1) f fd ps sp := by
  obtain ⟨oc, od, dV, kV, doc, pm, an, cdv, ct, osl, rfl, lk, hcd, _, _⟩ := F.ex
  constructor
  · exact len
  intro A outer s H args us vs Q E room gd en bi rv hsp
  have kin : K.In s.heap := e_kin en
  have nolim : s.heap.NoLimit := en.mod.nolimit.keeps fun b o e => (en.bs b o e).1
  refine codeAny_call_function room.depth (kin _ _ lk) rfl S.co S.gen rfl (PySem.W.codeRec_of kin hcd) (bi _ _ _ _ ?_)
  refine wpAny_newFunctionEnv_cells S.kind (fun y hy => ?_) fun env he s1 x => ?_
  · obtain ⟨n, v⟩ := y
    rcases S.par n (List.of_mem_zip hy).1 with q | q
    · exact .inl q
    · exact .inr ⟨q, PySem.W.cellsFrom_some _ _ _ (.inl q)⟩
  · subst he
    refine ⟨nolim.keeps x.toInCall.keep, codeAny_func ?_⟩
    obtain ⟨t, pt, q⟩ := hbody cdv A outer s H vs Q E (room.deeper _) gd hsp
    have J := inv_start (CX := CX) (E := E) S room.hd en (len _ _ _ _ hsp) rv x
    refine wpAny_mono (pt.run [] s1 (L2.start N vs) H _ J q) (fun fl s' r => ?_) fun _ _ r => r
    cases fl with
    | ret u => obtain ⟨v, _, H', I, r1, r2⟩ := r; exact ⟨v, H', I.os, I.bare, I.base, I.hok, r1, r2⟩
    | next => obtain ⟨_, H', I, r2⟩ := r; exact ⟨.non, H', I.os, I.bare, I.base, I.hok, rfl, r2⟩
    | brk => obtain ⟨_, _, _, r2⟩ := r; exact r2.elim
    | cont => obtain ⟨_, _, _, r2⟩ := r; exact r2.elim
where e_kin {A : Around} {outer : List Env} {s : Shared} {H : Hp} (en : Env0 P w K mg base A outer s H) : K.In s.heap := en.mod.kin.keeps fun b o e => (en.bs b o e).1
end
section
variable {X : Cx} {CX : CXT} {k : Nat} {f : Addr} {fd : FuncData} {ps ks : List Str} {sp : Sp} {dvs : List V} {ds : List Value} {E : XK} {x : Str} {p pos : Pos} {e : Expr} {es : List Expr} {t tk : TA} {kws : List Keyword}
/-- the callee runs: args binds us -/
theorem run_fnG {pins : List (Addr × Obj)} {σ : L2.St} {H : Hp} {s : Shared} {Q : VK} {pa us : List Value} {kw : List (Str × Value)} {vs : List V} (F : FnG X.prog X.w X.K X.mg X.base CX k f fd ps sp) (hr : Room k X.A) (gd : X.A.guards = some []) (hb : BindsTo s fd ⟨pa, kw⟩ (ps.zip us)) (hx : Passes CX X E)
    (I : Inv X pins σ H s) (r : Vals vs us) (h : sp vs H Q E) : wpAny (model X.prog X.w) X.A (call (.ref f) pa kw) (EP X pins σ Q) X.xe s := by
  refine wpAny_call (codeAny_mono (F.run X.A X.stack s H ⟨pa, kw⟩ us vs Q E hr gd I.env0 hb r h) fun res s' hq => ?_)
  match res, hq with
  | .error e, hq => exact hx pins σ H s e s' I hq
  | .ok (.ret u), hq => exact I.after hq
theorem pe_callG (F : FnG X.prog X.w X.K X.mg X.base CX k f fd ps sp) (hr : Room k X.A) (gd : X.A.guards = some []) (hg : Gl X x) (hm : X.mg x = some (.ref f)) (hk : PySem.W.keepIn X.K (.ref f) = true) (hb : Binds X.K fd ps ds) (hd : Vals dvs ds) (hx : Passes CX X E)
    (ha : PA X (e :: es) t) (hdb : (x == ("__debug__" : Str)) = false) (he : starEach (e :: es) X.env = (false, eval e X.env) :: starEach es X.env) (hpl : (backTo pos (starEach es X.env)).any (·.1) = false) :
    PE X (.Call (.Name x p) (e :: es) [] pos) (tCall sp dvs E t) := by
  refine ⟨fun pins s σ H Q I h => wpAny_Call_Name_kw (ld_glob I hg hm ?_ hdb)⟩
  refine PySem.W.callWith_K (h₀ := X.base) I.ok.mod.kin hk (thn (ha.run pos pins s σ H _ I h) fun us s1 ⟨vs, H1, I1, r, q⟩ => ⟨I1.kIn, ?_⟩) he hpl
  have r2 := r.append hd
  exact run_fnG F hr gd (hb s1 us I1.kIn (r2.length.symm.trans (F.len _ _ _ _ q))) hx I1 r2 q
/-- without arguments by place, with or without keywords -/
theorem pe_callG0 (F : FnG X.prog X.w X.K X.mg X.base CX k f fd ps sp) (hr : Room k X.A) (gd : X.A.guards = some []) (hg : Gl X x) (hm : X.mg x = some (.ref f)) (hk : PySem.W.keepIn X.K (.ref f) = true) (hb : Binds X.K fd ps ds) (hd : Vals dvs ds) (hx : Passes CX X E)
    (hdb : (x == ("__debug__" : Str)) = false) : PE X (.Call (.Name x p) [] [] pos) (tCall sp dvs E tNil) := by
  refine ⟨fun pins s σ H Q I h => wpAny_Call_Name_kw (ld_glob I hg hm ?_ hdb)⟩
  have q : sp ([] ++ dvs) H Q E := h
  exact PySem.W.callWith_K0 I.kIn hk (run_fnG F hr gd (hb s [] I.kIn ((Vals.append .nil hd).length.symm.trans (F.len _ _ _ _ q))) hx I (Vals.append .nil hd) q)
variable {n : Nat} {g : List Value → List Value → List Value} {gV : List V → List V → List V}
theorem pe_callGK (F : FnG X.prog X.w X.K X.mg X.base CX k f fd ps sp) (hr : Room k X.A) (gd : X.A.guards = some []) (hg : Gl X x) (hm : X.mg x = some (.ref f)) (hk : PySem.W.keepIn X.K (.ref f) = true) (hb : KBn X.K fd ps n ks g gV) (hx : Passes CX X E)
    (ha : PA X (e :: es) t) (hkw : PK X kws tk) (hall : (backToKw pos (keywordEach kws X.env)).all (·.1.isSome) = true) (hks : (backToKw pos (keywordEach kws X.env)).filterMap (·.1) = ks)
    (hdb : (x == ("__debug__" : Str)) = false) (he : starEach (e :: es) X.env = (false, eval e X.env) :: starEach es X.env)
    (hpl : ((backTo pos (starEach (e :: es) X.env)).any (·.1) || (backToKw pos (keywordEach kws X.env)).any (·.1.isNone)) = false) :
    PE X (.Call (.Name x p) (e :: es) kws pos) (tCallN n ks.length sp gV E t tk) := by
  refine ⟨fun pins s σ H Q I h => wpAny_Call_Name_kw (ld_glob I hg hm ?_ hdb)⟩
  refine PySem.W.callWith_KW (h₀ := X.base) I.ok.mod.kin hk hall (thn (ha.run pos pins s σ H _ I h) fun us s1 ⟨vs, H1, I1, r, q⟩ => ?_) hpl he
  refine thn (hkw.run pos pins s1 σ H1 _ I1 q) fun ws s2 ⟨zs, H2, I2, rz, l1, l2, q2⟩ => ⟨I2.kIn, ?_⟩
  rw [hks]
  exact run_fnG F hr gd (hb.to s2 us ws I2.kIn (r.length.symm.trans l1) (rz.length.symm.trans l2)) hx I2 (hb.rel r rz) q2
theorem pe_callGK0 (F : FnG X.prog X.w X.K X.mg X.base CX k f fd ps sp) (hr : Room k X.A) (gd : X.A.guards = some []) (hg : Gl X x) (hm : X.mg x = some (.ref f)) (hk : PySem.W.keepIn X.K (.ref f) = true) (hb : KBn X.K fd ps 0 ks g gV) (hx : Passes CX X E)
    (hkw : PK X kws tk) (hne : kws ≠ []) (hall : (backToKw pos (keywordEach kws X.env)).all (·.1.isSome) = true) (hks : (backToKw pos (keywordEach kws X.env)).filterMap (·.1) = ks)
    (hdb : (x == ("__debug__" : Str)) = false) (hpl : (backToKw pos (keywordEach kws X.env)).any (·.1.isNone) = false) :
    PE X (.Call (.Name x p) [] kws pos) (tCallN 0 ks.length sp gV E tNil tk) := by
  refine ⟨fun pins s σ H Q I h => wpAny_Call_Name_kw (ld_glob I hg hm ?_ hdb)⟩
  have h' : tk σ H fun zs H2 => ([] : List V).length = 0 ∧ zs.length = ks.length ∧ sp (gV [] zs) H2 Q E := h
  refine PySem.W.callWith_KW0 (h₀ := X.base) I.ok.mod.kin hk hall (thn (hkw.run pos pins s σ H _ I h') fun ws s2 ⟨zs, H2, I2, rz, l1, l2, q2⟩ => ⟨I2.kIn, ?_⟩) (by rw [hpl]; rfl)
  rw [hks]
  exact run_fnG F hr gd (hb.to s2 [] ws I2.kIn rfl (rz.length.symm.trans l2)) hx I2 (hb.rel .nil rz) q2
end
/-- a law's promise at the heap behind the top -/
theorem law_callG {P : Program} {w : World} {K : PySem.W.Frag} {mg mb : Str → Option Value} {k : Nat} {fa a : Addr} {fd : FuncData} {x : Str} {sp : Sp} {s₁ : Shared} {vs : List Value} {ns : List Int}
    (KX : K.In s₁.heap) (hns : s₁.heap.Ns mainGlobals mg) (hb : s₁.heap.Ns builtinsNs mb) (hbb : ∀ x : Str, x ≠ "__name__" → mb x = bootBuiltins x) (hlim : s₁.heap.NoLimit) (hg : s₁.gens = #[])
    (ha : s₁.heap.get? a = some { cls := .type "list", data := .seq vs.toArray }) (hi : IntsAre vs ns) (hl : ns.length ≤ sizeLine) (hr : Room k callerA)
    (F : ∀ base : Heap, K.In base → base.Ns mainGlobals mg → FnG P w K mg base CX0 k fa fd [x] sp) (hbind : ∀ (s : Shared) (u : Value), BindsTo s fd ⟨[u], []⟩ [(x, u)])
    (hsp : ∀ H : Hp, Only H → SqL K H a (ns.map V.int) → sp [.ref a] H (fun v _ => v = .bl true) fun _ _ _ => False) :
    codeAny (model P w) callerA (.call (.ref fa) ⟨[.ref a], []⟩) (fun r s' => r = .ok (.ret (.bool true)) ∧ OldK s₁.heap s'.heap ∧ s'.os = s₁.os ∧ AllBare s'.gens) s₁ := by
  have rv := vals_ints hi
  have main : ∀ H : Hp, Only H → SqL K H a (ns.map V.int) → HOk P w H s₁.heap → (∀ b, H b ≠ none → b = a ∧ K.lookup a = none) →
      codeAny (model P w) callerA (.call (.ref fa) ⟨[.ref a], []⟩) (fun r s' => r = .ok (.ret (.bool true)) ∧ OldK s₁.heap s'.heap ∧ s'.os = s₁.os ∧ AllBare s'.gens) s₁ := by
    intro H only sq hok one
    have untr : ∀ {b : Addr} {o : Obj}, s₁.heap.get? b = some o → (∀ c, o.data ≠ .seq vs.toArray c) ∨ K.lookup b = some o → H b = none := fun {b o} e why => by
      cases q : H b with
      | none => rfl
      | some u =>
        obtain ⟨rfl, no⟩ := one b (by rw [q]; simp)
        rcases why with why | why
        · rw [ha] at e; cases e; exact absurd rfl (why _)
        · rw [no] at why; cases why
    have nsH : ∀ {b : Addr} {m : Str → Option Value}, s₁.heap.Ns b m → (hidT s₁.heap H).Ns b m := fun {b m} ⟨o, es, ep, e, d, r⟩ => ⟨o, es, ep, hidT_get e (untr e (.inl fun c z => by rw [d] at z; cases z)), d, r⟩
    have kinH : K.In (hidT s₁.heap H) := fun b o e => hidT_get (KX b o e) (untr (KX b o e) (.inr e))
    have md : Mod K mg (hidT s₁.heap H) := ⟨kinH, nsH hns, ⟨mb, nsH hb, hbb⟩, let ⟨mc, h1, h2⟩ := hlim; ⟨mc, nsH h1, h2⟩⟩
    have en : Env0 P w K mg (hidT s₁.heap H) callerA [] s₁ H := ⟨rfl, md, fun b o e => of_hidT e, Nat.le_of_eq (hidT_size _ _), trivial, fun b hb => absurd (show b ∈ ([] : List Addr) from hb) (by simp), hok, .of_eq hg⟩
    refine codeAny_mono ((F _ kinH (nsH hns)).run callerA [] s₁ H ⟨[.ref a], []⟩ [.ref a] [.ref a] _ _ hr rfl en (hbind s₁ (.ref a)) (.cons rfl .nil) (hsp H only sq)) fun r s' h => ?_
    match r, h with
    | .error e, h => exact False.elim h
    | .ok (.ret u), ⟨v, H', os, bare, un, hok', r1, q⟩ =>
      obtain rfl : v = .bl true := q
      obtain rfl : u = Value.bool true := r1
      refine ⟨rfl, OldK.of_keep fun b o e => ?_, os, bare⟩
      cases q : H b with
      | none => exact un.keep b o e q (by intro z; exact absurd (show b ∈ ([] : List Addr) from z) (by simp)) (by simp)
      | some u =>
        rcases only b with z | ⟨ob, xs, z⟩
        · rw [q] at z; cases z
        · obtain ⟨e2, _⟩ := hok' b _ (un.frzs b ob _ z)
          obtain ⟨e1, _⟩ := hok b _ z
          rw [e] at e1; cases e1
          exact e2
  cases hk : K.lookup a with
  | some o =>
    have e := KX a o hk
    rw [ha] at e
    cases e
    exact main (fun _ => none) (fun _ => .inl rfl) (.inr ⟨_, vs.toArray, _, hk, rfl, rfl, rfl, by rw [List.size_toArray, hi.length]; exact hl, by simpa using rv⟩) (fun b u z => nomatch z) fun b z => absurd rfl z
  | none =>
    have hH : ∀ b u, (if b = a then some (HO.frz { cls := .type "list", data := .seq vs.toArray } (.lst (ns.map V.int))) else none) = some u → b = a ∧ u = .frz { cls := .type "list", data := .seq vs.toArray } (.lst (ns.map V.int)) := fun b u z => by
      split at z
      · cases z; exact ⟨‹_›, rfl⟩
      · cases z
    refine main (fun b => if b = a then some (.frz { cls := .type "list", data := .seq vs.toArray } (.lst (ns.map V.int))) else none) (fun b => ?_) (.inl (.inr ⟨{ cls := .type "list", data := .seq vs.toArray }, if_pos rfl⟩)) (fun b u z => ?_) fun b z => ?_
    · by_cases q : b = a
      · exact .inr ⟨_, _, if_pos q⟩
      · exact .inl (if_neg q)
    · obtain ⟨rfl, rfl⟩ := hH b u z
      exact ⟨ha, by rw [List.length_map]; exact hl, vs, _, rv, ha⟩
    · refine ⟨?_, hk⟩
      by_cases q : b = a
      · exact q
      · exact absurd (if_neg q) z
/-- a law's end -/
theorem walk_G {l : PySem.W.OpenLaw} {n k : Nat} {q : Program} {loose : List Str} {XP : (Str → Option Value) → Heap → Prop} {YP : World → Heap → Prop} {d : DefRec} {x : Str}
    (hn : l.most = some n) (hn2 : n ≤ sizeLine) (hdf : d.params.defaults = []) (hr : Room k callerA)
    (F : ∀ (w : World) (mg : Str → Option Value) (fa : Addr) (h : Heap), YP w h → h.Ns mainGlobals mg → mg d.name = some (.ref fa) →
      ∃ (K : PySem.W.Frag) (fd : FuncData) (sp : Sp), K.In h ∧ (∀ (s : Shared) (u : Value), BindsTo s fd ⟨[u], []⟩ [(x, u)]) ∧
        (∀ (H : Hp) (a : Addr) (ns : List Int), ns.length ≤ n → Only H → SqL K H a (ns.map V.int) → sp [.ref a] H (fun v _ => v = .bl true) fun _ _ _ => False) ∧
        ∀ base : Heap, K.In base → base.Ns mainGlobals mg → FnG l.prog w K mg base CX0 k fa fd [x] sp) :
    PySem.W.WalkO q loose XP YP l.row.toRowW d [] (fun f vs => PySem.call f vs) := by
  refine Att.attach_call hn hdf fun w s₀ s₁ mg mb fa o pm cd doc a vs ns G Y ho hd hcd hmg hobj hints hlen hg => ?_
  obtain ⟨K, fd, sp, KX, hb, hsp, hF⟩ := F w mg fa _ Y G.T.g hmg
  exact law_callG KX G.T.g G.T.b G.T.builtins G.T.nolimit hg hobj hints (Nat.le_trans hlen hn2) hr hF hb fun H hO hS => hsp H a ns hlen hO hS
end G

set_option Elab.async false
set_option linter.all false
set_option maxRecDepth 100000
set_option maxHeartbeats 4000000
/-! GI: tests, calls. -/
namespace G
open PySem PySem.Spec PyProof.Rows L2
section
variable {X : Cx} {E : XK} {Φ : CallA} {pos : Pos} {a b c e : Expr} {a' b' c' e' : Exp} {es : List Expr} {es' : List Exp} {t t1 t2 : Tst}
/-! ### tests -/
theorem st_val (h : PE X a (tP X E Φ a')) (he : ∀ whole, isTrue a X.env whole = (do let v ← whole; standAt a.pos; holding [v] (truthy v))) : PT X a (tT X E Φ (.e a')) := by
  refine ⟨fun pins s σ H Q I hq => ?_⟩
  have hr : tP X E Φ a' σ H fun x H1 => rTru X x H1 Q := by
    obtain ⟨ρ, ex, ws, aσ, ah, S, P⟩ := hq
    simp only [evT, Post.bind] at P
    refine ⟨ρ, ex, ws, aσ, ah, S, P.imp (fun v h1 P ρ1 H1 v1 a1 hp1 r1 => ?_) (fun _ _ k => k)⟩
    obtain ⟨k, e1, P⟩ := P.lift
    exact ⟨ρ1, ex, h1, v, k, hp1, r1, e1, P ρ1 H1 a1 hp1⟩
  exact isTrue_plain (thn (h.run pins s σ H _ I hr) fun v s1 ⟨x, H1, I1, r1, q1⟩ => op_T X pins s1 σ H1 x v Q I1 r1 q1) (he _)
theorem st_cmp {o : COp} (hk : Ok X) (ha : PE X a (tP X E Φ a')) (hb : PE X b (tP X E Φ b')) (hm : behindInMarks (pyC o) b = false) : PT X (.Compare a [pyC o] [b] pos) (tT X E Φ (.e (.cmp o a' b'))) := by
  refine ⟨fun pins s σ H Q I hq => (pt_cmpR (op_C X o hk.un) ha hb hm).run pins s σ H Q I ?_⟩
  refine cmp_read ?_
  obtain ⟨ρ, ex, ws, aσ, ah, S, P⟩ := hq
  simp only [evT, peek, evE, Post.bind] at P
  refine ⟨ρ, ex, ws, aσ, ah, S, ?_⟩
  simp only [evE, Post.bind]
  refine P.imp (fun x h1 P => P.imp (fun y h2 P => ?_) (fun _ _ k => k)) (fun _ _ k => k)
  obtain ⟨v, e, P⟩ := P.lift
  obtain ⟨k, e', rfl⟩ := Option.map_eq_some_iff.mp e
  rw [e]
  obtain ⟨k', e', P⟩ := P.lift
  cases e'
  intro ρ1 H1 v1 a1 hp1 r1
  cases r1
  exact ⟨k, rfl, P ρ1 H1 a1 hp1⟩
/-- a op b op c: the reading -/
theorem chain_read {o p : COp} {σ : L2.St} {H : Hp} {Q : VK} (hq : tE X E Φ (.chain o p a' b' c') σ H Q) : tChain (rC X o) (rC X p) (tE X E Φ a') (tE X E Φ b') (tE X E Φ c') σ H Q := by
  obtain ⟨ρ, ex, ws, aσ, ah, S, P⟩ := hq
  simp only [evE, Post.bind] at P
  refine ⟨ρ, ex, ws, aσ, ah, S, P.imp (fun x h1 P ρ1 H1 v1 a1 hp1 r1 => ?_) (fun _ _ k => k)⟩
  refine ⟨ρ1, ex, ws, aσ, h1, S.ext a1 hp1, P.imp (fun y h2 P ρ2 H2 v2 a2 hp2 r2 => ?_) (fun _ _ k => k.ext a1)⟩
  obtain ⟨k, e, P⟩ := P.lift
  have S2 := (S.ext a1 hp1).ext a2 hp2
  refine ⟨ρ2, ex, h2, x, y, k, hp2, .inl (r1.step a2.step), .inl r2, e, k, rfl, ?_⟩
  cases k with
  | false =>
    rw [if_neg (by decide)]
    exact ((show Kok X ρ ex H Q _ h2 from P).ext (a1.trans a2)).here hp2 (.bl _)
  | true =>
    rw [if_pos rfl]
    simp only [Post.bind] at P
    refine ⟨ρ2, ex, ws, aσ, h2, S2, P.imp (fun z h3 P ρ3 H3 v3 a3 hp3 r3 => ?_) (fun _ _ k => k.ext (a1.trans a2))⟩
    obtain ⟨v, e, P⟩ := P.lift
    obtain ⟨k, e', rfl⟩ := Option.map_eq_some_iff.mp e
    exact ⟨ρ3, ex, h3, y, z, k, hp3, .inl (r2.step a3.step), .inl r3, e', ((show Kok X ρ ex H Q _ h3 from P).ext ((a1.trans a2).trans a3)).here hp3 (.bl _)⟩
theorem snd_chain {o p : COp} (hk : Ok X) (ha : PE X a (tE X E Φ a')) (hb : PE X b (tE X E Φ b')) (hc : PE X c (tE X E Φ c')) (hm : lastMarks [pyC o, pyC p] [b, c] = false) : PE X (.Compare a [pyC o, pyC p] [b, c] pos) (tE X E Φ (.chain o p a' b' c')) :=
  ⟨fun pins s σ H Q I hq => (pe_chain (op_C X o hk.un) (op_C X p hk.un) ha hb hc hm).run pins s σ H Q I (chain_read hq)⟩
theorem opC_bl {o : COp} {x y v : AV} {h : AH} (e : (opC o x y h).map AV.bl = some v) : ∃ k, v = .bl k := by
  obtain ⟨k, _, rfl⟩ := Option.map_eq_some_iff.mp e
  exact ⟨k, rfl⟩
theorem st_chain {o p : COp} (hk : Ok X) (ha : PE X a (tE X E Φ a')) (hb : PE X b (tE X E Φ b')) (hc : PE X c (tE X E Φ c')) (hm : lastMarks [pyC o, pyC p] [b, c] = false) : PT X (.Compare a [pyC o, pyC p] [b, c] pos) (tT X E Φ (.e (.chain o p a' b' c'))) := by
  refine ⟨fun pins s σ H Q I hq => (pt_chain (op_C X o hk.un) (op_C X p hk.un) ha hb hc hm).run pins s σ H Q I ?_⟩
  refine chain_read ?_
  obtain ⟨ρ, ex, ws, aσ, ah, S, P⟩ := hq
  simp only [evT, peek, evE, Post.bind] at P
  refine ⟨ρ, ex, ws, aσ, ah, S, ?_⟩
  simp only [evE, Post.bind]
  have key : ∀ {k : Bool} {h' : AH}, Post (lift (truth h' (.bl k)) h') (KoB X ρ ex H Q) (ExC X E ρ ex H) → Kok X ρ ex H (fun z H' => ∃ k, z = .bl k ∧ Q k H') (.bl k) h' := fun {k h'} P ρ1 H1 v1 a1 hp1 r1 => by
    cases r1
    exact ⟨k, rfl, P ρ1 H1 a1 hp1⟩
  refine P.imp (fun x h1 P => P.imp (fun y h2 P => P.imp (fun k h3 P => ?_) (fun _ _ k => k)) (fun _ _ k => k)) (fun _ _ k => k)
  cases k with
  | false => exact key P
  | true =>
    simp only [Post.bind] at P ⊢
    refine P.imp (fun z h4 P => ?_) (fun _ _ k => k)
    obtain ⟨v, e, P⟩ := P.lift
    obtain ⟨k, rfl⟩ := opC_bl e
    rw [e]
    exact key P
theorem st_not (h : PT X a (tT X E Φ t)) : PT X (.UnaryOp .Not a pos) (tT X E Φ (.not t)) := by
  refine ⟨fun pins s σ H Q I hq => (pt_not h).run pins s σ H Q I ?_⟩
  obtain ⟨ρ, ex, ws, aσ, ah, S, P⟩ := hq
  simp only [evT, Post.bind] at P
  exact ⟨ρ, ex, ws, aσ, ah, S, P.imp (fun k h1 P ρ1 H1 a1 hp1 => (show KoB X ρ ex H Q (!k) h1 from P) ρ1 H1 a1 hp1) (fun _ _ k => k)⟩
theorem sw_and {rest : List Expr} (ha : PT X a (tT X E Φ t1)) (hb : PW X (.BoolOp .And (b :: rest) pos) (tT X E Φ t2)) : PW X (.BoolOp .And (a :: b :: rest) pos) (tT X E Φ (.and t1 t2)) := by
  refine ⟨fun wh pins s σ H Q I hq => (pw_and ha hb).run wh pins s σ H Q I ?_⟩
  obtain ⟨ρ, ex, ws, aσ, ah, S, P⟩ := hq
  simp only [evT, Post.bind] at P
  refine ⟨ρ, ex, ws, aσ, ah, S, P.imp (fun k h1 P ρ1 H1 a1 hp1 => ?_) (fun _ _ k => k)⟩
  cases k with
  | true => rw [if_pos rfl]; exact ⟨ρ1, ex, ws, aσ, h1, S.ext a1 hp1, P.imp (fun _ _ k ρ2 H2 a2 hp2 => k ρ2 H2 (a1.trans a2) hp2) (fun _ _ k => k.ext a1)⟩
  | false => rw [if_neg (by decide)]; exact (show KoB X ρ ex H Q false h1 from P) ρ1 H1 a1 hp1
theorem sw_or {rest : List Expr} (ha : PT X a (tT X E Φ t1)) (hb : PW X (.BoolOp .Or (b :: rest) pos) (tT X E Φ t2)) : PW X (.BoolOp .Or (a :: b :: rest) pos) (tT X E Φ (.or t1 t2)) := by
  refine ⟨fun wh pins s σ H Q I hq => (pw_or ha hb).run wh pins s σ H Q I ?_⟩
  obtain ⟨ρ, ex, ws, aσ, ah, S, P⟩ := hq
  simp only [evT, Post.bind] at P
  refine ⟨ρ, ex, ws, aσ, ah, S, P.imp (fun k h1 P ρ1 H1 a1 hp1 => ?_) (fun _ _ k => k)⟩
  cases k with
  | false => rw [if_neg (by decide)]; exact ⟨ρ1, ex, ws, aσ, h1, S.ext a1 hp1, P.imp (fun _ _ k ρ2 H2 a2 hp2 => k ρ2 H2 (a1.trans a2) hp2) (fun _ _ k => k.ext a1)⟩
  | true => rw [if_pos rfl]; exact (show KoB X ρ ex H Q true h1 from P) ρ1 H1 a1 hp1
/-- a clause's tests -/
theorem sts_nil : PTs X [] (tF X E Φ []) := by
  refine ⟨fun pins s σ H Q I hq => pts_nil.run pins s σ H Q I ?_⟩
  obtain ⟨ρ, ex, ws, aσ, ah, S, P⟩ := hq
  exact (show KoB X ρ ex H Q true ah from P) ρ H .refl S.hp
theorem sts_one (h : PT X a (tT X E Φ t)) : PTs X [a] (tF X E Φ [t]) := by
  refine ⟨fun pins s σ H Q I hq => (pts_one h).run pins s σ H Q I ?_⟩
  obtain ⟨ρ, ex, ws, aσ, ah, S, P⟩ := hq
  simp only [evF, Post.bind] at P
  refine ⟨ρ, ex, ws, aσ, ah, S, P.imp (fun k h1 P => ?_) (fun _ _ k => k)⟩
  cases k <;> exact P

/-! ### isinstance -/
theorem kitAny_one {K : PySem.W.Frag} {t u : Value} {b : Bool} (h : PySem.W.kitAny K t [u] = some b) : PySem.W.kitOne K t u = some b := by
  unfold PySem.W.kitAny at h
  cases e : PySem.W.kitOne K t u with
  | none => rw [e] at h; cases h
  | some k =>
    rw [e] at h
    cases k with
    | true => exact h
    | false => exact h
theorem pe_tyn {t : Ty} {x : Str} {p : Pos} (hg : Gl X x) (hm : X.mg x = none) (hv : bootBuiltins x = some (.type (tyN t))) (hn : x ≠ "__name__") (hd : (x == ("__debug__" : Str)) = false) : PE X (.Name x p) (tC (.ty (tyN t))) := pe_bltn hg hm hv rfl hn hd
theorem isi_read {ts : List Ty} {σ : L2.St} {H : Hp} {Q : VK} (hn : ts ≠ []) (hq : tE X E Φ (.isi a' ts) σ H Q) {R : V → Hp → Prop} (hR : ∀ x H1 n b, TyX X.K H1 x (.type n) → PySem.W.kitAny X.K (.type n) (ts.map fun t => Value.type (tyN t)) = some b → Q (.bl b) H1 → R x H1) : tE X E Φ a' σ H R := by
  obtain ⟨ρ, ex, ws, aσ, ah, S, P⟩ := hq
  simp only [evE, Post.bind] at P
  refine ⟨ρ, ex, ws, aσ, ah, S, P.imp (fun x h1 P ρ1 H1 v1 a1 hp1 r1 => ?_) (fun _ _ k => k)⟩
  obtain ⟨v, e, P⟩ := P.lift
  obtain ⟨k, e', rfl⟩ := Option.map_eq_some_iff.mp e
  obtain ⟨n, en⟩ := hasTys_avN hn e'
  exact hR v1 H1 n k (r1.ty en) (hasTys_kit en e') (((show Kok X ρ ex H Q _ h1 from P).ext a1).here hp1 (.bl _))
theorem snd_isi1 {t : Ty} {x : Str} {p p2 : Pos} (hgi : Gl X "isinstance") (hmi : X.mg "isinstance" = none) (ht : PE X (.Name x p2) (tC (.ty (tyN t)))) (ha : PE X a (tE X E Φ a')) (hst : starEach [a, .Name x p2] X.env = (false, eval a X.env) :: starEach [.Name x p2] X.env) :
    PE X (.Call (.Name "isinstance" p) [a, .Name x p2] [] pos) (tE X E Φ (.isi a' [t])) := by
  refine ⟨fun pins s σ H Q I hq => (pe_callB call_isi hgi hmi PyProof.Rows.boot_isinstance (pa_cons ha (pa_cons ht pa_nil) hst) (by decide) (by decide) hst).run pins s σ H Q I ?_⟩
  exact isi_read (by simp) hq fun x H1 n b ty k q => ⟨x, _, _, _, b, rfl, .ty _, ty, kitAny_one k, q⟩
theorem paired_tys : ∀ ts : List Ty, Paired ClsV (ts.map fun t => V.ty (tyN t)) (ts.map fun t => Value.type (tyN t))
  | [] => .nil
  | _ :: ts => .cons (.ty _) (paired_tys ts)
theorem snd_isiT {ts : List Ty} {p p2 : Pos} {k : Nat} (hgi : Gl X "isinstance") (hmi : X.mg "isinstance" = none) (hz : ts.length ≤ sizeLine) (hn : ts ≠ []) (ht : PA X es (fun _ H Q => Q (ts.map fun t => V.ty (tyN t)) H)) (ha : PE X a (tE X E Φ a')) (hst : starEach [a, .Tuple es k p2] X.env = (false, eval a X.env) :: starEach [.Tuple es k p2] X.env) :
    PE X (.Call (.Name "isinstance" p) [a, .Tuple es k p2] [] pos) (tE X E Φ (.isi a' ts)) := by
  refine ⟨fun pins s σ H Q I hq => (pe_callB call_isiT hgi hmi PyProof.Rows.boot_isinstance (pa_cons ha (pa_cons (pe_tup ht) pa_nil) hst) (by decide) (by decide) hst).run pins s σ H Q I ?_⟩
  obtain ⟨ρ, ex, ws, aσ, ah, S, P⟩ := hq
  simp only [evE, Post.bind] at P
  refine ⟨ρ, ex, ws, aσ, ah, S, P.imp (fun x h1 P ρ1 H1 v1 a1 hp1 r1 => ?_) (fun _ _ k => k)⟩
  obtain ⟨v, e, P⟩ := P.lift
  obtain ⟨k, e', rfl⟩ := Option.map_eq_some_iff.mp e
  obtain ⟨n, en⟩ := hasTys_avN hn e'
  refine ⟨by rw [List.length_map]; exact hz, fun p np => ?_⟩
  have a2 := ext_new (X := X) (o := .tup (ts.map fun t => V.ty (tyN t))) hp1 np
  exact ⟨v1, p, _, _, _, k, rfl, upd_same, paired_tys ts, (r1.step a2.step).ty en, hasTys_kit en e', ((show Kok X ρ ex H Q _ h1 from P).ext (a1.trans a2)).here (hrel_new hp1 np) (.bl _)⟩
end
section
variable {X : Cx} {E : XK} {Φ : CallA} {pos : Pos} {a b c e : Expr} {a' b' c' e' : Exp} {es : List Expr} {es' : List Exp} {t t1 t2 : Tst}
/-! ### built-ins -/
theorem opBi_noex {f : Bi} {vs : List AV} {h h' : AH} {x : Exn} : opBi f vs h ≠ .ex x h' := by
  intro e
  unfold opBi at e
  split at e
  all_goals first
    | cases e
    | (split at e <;> cases e)
    | (simp only [lift] at e; split at e <;> first | cases e | (simp at e; done) | skip)
theorem bi_post {f : Bi} {vs : List AV} {h : AH} {ρ ρ' : List Addr} {ex : Addr → Prop} {H H' : Hp} {Q : VK} (P : Post (opBi f vs h) (Kok X ρ ex H Q) (ExC X E ρ ex H)) (a : Ext ρ H ρ' H') : Post (opBi f vs h) (Kok X ρ' ex H' Q) noX := by
  cases e : opBi f vs h with
  | ok v h1 => rw [e] at P; exact Kok.ext P a
  | ex x h1 => exact absurd e opBi_noex
  | no => rw [e] at P; exact P
theorem snd_biB {f : Bi} {id : String} {x : Str} {p : Pos} (hk : Ok X) (hf : biId f = .builtin id) (hg : Gl X x) (hm : X.mg x = none) (hv : bootBuiltins x = some (.builtin id)) (hn : x ≠ "__name__") (hdb : (x == ("__debug__" : Str)) = false) (ha : PA X (a :: es) (tPs X E Φ es'))
    (he : starEach (a :: es) X.env = (false, eval a X.env) :: starEach es X.env) (hpl : (backTo pos (starEach es X.env)).any (·.1) = false) : PE X (.Call (.Name x p) (a :: es) [] pos) (tE X E Φ (.bi f es')) := by
  have hc := op_Bi X f hk.calm hk.un hk.gd hk.sm
  rw [hf] at hc
  refine ⟨fun pins s σ H Q I hq => (pe_callB hc hg hm hv ha hn hdb he hpl).run pins s σ H Q I ?_⟩
  obtain ⟨ρ, ex, ws, aσ, ah, S, P⟩ := hq
  simp only [evE, Post.bind] at P
  refine ⟨ρ, ex, ws, aσ, ah, S, P.imp (fun xs h1 P ρ1 H1 vs a1 hp1 r1 => ?_) (fun _ _ k => k)⟩
  refine ⟨ρ1, ex, h1, xs, hp1, r1, ?_⟩
  exact bi_post P a1
theorem snd_biT {f : Bi} {id : String} {x : Str} {p : Pos} (hk : Ok X) (hf : biId f = .type id) (hg : Gl X x) (hm : X.mg x = none) (hv : bootBuiltins x = some (.type id)) (hn : x ≠ "__name__") (hdb : (x == ("__debug__" : Str)) = false) (ha : PA X (a :: es) (tPs X E Φ es'))
    (he : starEach (a :: es) X.env = (false, eval a X.env) :: starEach es X.env) (hpl : (backTo pos (starEach es X.env)).any (·.1) = false) : PE X (.Call (.Name x p) (a :: es) [] pos) (tE X E Φ (.bi f es')) := by
  have hc := op_Bi X f hk.calm hk.un hk.gd hk.sm
  rw [hf] at hc
  refine ⟨fun pins s σ H Q I hq => (pe_callTy hc hg hm hv ha hn hdb he hpl).run pins s σ H Q I ?_⟩
  obtain ⟨ρ, ex, ws, aσ, ah, S, P⟩ := hq
  simp only [evE, Post.bind] at P
  refine ⟨ρ, ex, ws, aσ, ah, S, P.imp (fun xs h1 P ρ1 H1 vs a1 hp1 r1 => ?_) (fun _ _ k => k)⟩
  refine ⟨ρ1, ex, h1, xs, hp1, r1, ?_⟩
  exact bi_post P a1

theorem evEs_len' {σ : ASt} : ∀ {es : List Exp} {h h' : AH} {xs : List AV}, evEs Φ es σ h = .ok xs h' → xs.length = es.length
  | [], _, _, _, e => by simp only [evEs] at e; cases e; rfl
  | e0 :: es, _, _, _, e => by
    simp only [evEs] at e
    obtain ⟨x, h1, e1, e⟩ := Rs.bind_inv e
    obtain ⟨ys, h2, e2, e⟩ := Rs.bind_inv e
    cases e
    simp [evEs_len' e2]
theorem evEs_len {σ : ASt} {es : List Exp} {h : AH} {k : List AV → AH → Prop} {x : Exn → AH → Prop} (P : Post (evEs Φ es σ h) k x) : Post (evEs Φ es σ h) (fun xs h => xs.length = es.length ∧ k xs h) x := by
  cases e : evEs Φ es σ h with
  | ok xs h1 => rw [e] at P; exact ⟨evEs_len' e, P⟩
  | ex _ _ => rw [e] at P; exact P
  | no => rw [e] at P; exact P
theorem opBi_list {v : AV} {h : AH} : opBi .list [v] h = lift ((items h v).map .lst) h := by cases v <;> rfl
theorem opBi_listP : ∀ {xs : List AV} {h : AH} {k : AV → AH → Prop} {x : Exn → AH → Prop}, Post (opBi .list xs h) k x → ∃ v ys, xs = [v] ∧ items h v = some ys ∧ k (.lst ys) h
  | [], _, _, _, P => P.elim
  | [v], h, _, _, P => by
    rw [opBi_list] at P
    obtain ⟨w, e, P⟩ := P.lift
    obtain ⟨ys, e0, rfl⟩ := Option.map_eq_some_iff.mp e
    exact ⟨v, ys, rfl, e0, P⟩
  | _ :: _ :: _, _, _, _, P => by
    unfold opBi at P
    split at P <;> first | exact P.elim | (rename_i h; cases h; done) | (exfalso; simp_all; done)
/-! ### list(e): a list of one's own -/
theorem sl_list {x : Str} {p : Pos} (hx : x = "list") (hk : Ok X) (hg : Gl X x) (hm : X.mg x = none) (hv : bootBuiltins x = some (.type "list")) (hn : x ≠ "__name__") (hdb : (x == ("__debug__" : Str)) = false) (ha : PA X [a] (tPs X E Φ [a']))
    (he : starEach [a] X.env = (false, eval a X.env) :: starEach [] X.env) : PE X (.Call (.Name x p) [a] [] pos) (tL X E Φ (.bi .list [a'])) := by
  refine ⟨fun pins s σ H Q I hq => (pe_callTy call_list_of hg hm hv ha hn hdb he rfl).run pins s σ H Q I ?_⟩
  obtain ⟨ρ, ex, ws, aσ, ah, S, P⟩ := hq
  simp only [evE, Post.bind] at P
  refine ⟨ρ, ex, ws, aσ, ah, S, P.imp (fun xs h1 P ρ1 H1 vs a1 hp1 r1 => ?_) (fun _ _ k => k)⟩
  obtain ⟨v, ys, rfl, e0, P⟩ := opBi_listP P
  cases r1 with
  | cons r1 rs =>
    cases rs
    obtain ⟨q, ws', rfl, sq, rr⟩ := items_sq hp1 r1 e0
    exact ⟨q, ws', rfl, sq, fun p np => (show KoL X ρ ex H Q (.lst ys) _ from P).new a1 hp1 (fun b m => S.hp.ne m) rr p np⟩

/-! ### calls of the module's own defs -/
/-- the promise of a def: what the small language's def comes to -/
def spG (K : PySem.W.Frag) (mg : Str → Option Value) (Wr : XK → Prop) (Φ : CallA) (f : Str) (n : Nat) : Sp := fun vs H Q E => vs.length = n ∧ Wr E ∧ ∃ ρ ex ah avs, HRel K mg ρ ex ah H ∧ Reps K mg ρ ex H avs vs ∧
  Post (Φ f avs ah) (fun v ah' => ∀ ρ' H' v', Ext ρ H ρ' H' → HRel K mg ρ' ex ah' H' → Rep K mg ρ' ex H' v v' → Q v' H') (fun x ah' => ∀ ρ' H' c d, Ext ρ H ρ' H' → HRel K mg ρ' ex ah' H' → XRel K mg ρ' ex H' x c d → E c d H')
theorem snd_call {CX : CXT} {k : Nat} {f : Addr} {fd : FuncData} {ps : List Str} {x key : Str} {p : Pos} {n : Nat} {Wr : XK → Prop} (ok : Ok X) (F : FnG X.prog X.w X.K X.mg X.base CX k f fd ps (spG X.K X.mg Wr Φ key n)) (hw : Wr E) (hr : Room k X.A) (hg : Gl X x) (hm : X.mg x = some (.ref f)) (hk : PySem.W.keepIn X.K (.ref f) = true) (hb : Binds X.K fd ps []) (hx : Passes CX X E)
    (ha : PA X (a :: es) (tEs X E Φ es')) (hl : (a :: es).length = n) (hl' : es'.length = n) (hdb : (x == ("__debug__" : Str)) = false) (he : starEach (a :: es) X.env = (false, eval a X.env) :: starEach es X.env) (hpl : (backTo pos (starEach es X.env)).any (·.1) = false) :
    PE X (.Call (.Name x p) (a :: es) [] pos) (tE X E Φ (.call key es')) := by
  refine ⟨fun pins s σ H Q I hq => (pe_callG F hr ok.gd hg hm hk hb .nil hx ha hdb he hpl).run pins s σ H Q I ?_⟩
  obtain ⟨ρ, ex, ws, aσ, ah, S, P⟩ := hq
  simp only [evE, Post.bind] at P
  refine ⟨ρ, ex, ws, aσ, ah, S, (evEs_len P).imp (fun xs h1 ⟨el, P⟩ ρ1 H1 vs a1 hp1 r1 => ?_) (fun _ _ k => k)⟩
  refine ⟨by rw [List.append_nil, ← r1.length, el, hl'], hw, ρ1, ex, h1, xs, hp1, by rw [List.append_nil]; exact r1, P.imp (fun v h2 k ρ2 H2 v2 a2 hp2 r2 => k ρ2 H2 v2 (a1.trans a2) hp2 r2) (fun x h2 k ρ2 H2 c d a2 hp2 r2 => k ρ2 H2 c d (a1.trans a2) hp2 r2)⟩
theorem snd_call0 {CX : CXT} {k : Nat} {f : Addr} {fd : FuncData} {ps : List Str} {x key : Str} {p : Pos} {Wr : XK → Prop} (ok : Ok X) (F : FnG X.prog X.w X.K X.mg X.base CX k f fd ps (spG X.K X.mg Wr Φ key 0)) (hw : Wr E) (hr : Room k X.A) (hg : Gl X x) (hm : X.mg x = some (.ref f)) (hk : PySem.W.keepIn X.K (.ref f) = true) (hb : Binds X.K fd ps []) (hx : Passes CX X E)
    (hdb : (x == ("__debug__" : Str)) = false) : PE X (.Call (.Name x p) [] [] pos) (tE X E Φ (.call key [])) := by
  refine ⟨fun pins s σ H Q I hq => (pe_callG0 F hr ok.gd hg hm hk hb .nil hx hdb).run pins s σ H Q I ?_⟩
  obtain ⟨ρ, ex, ws, aσ, ah, S, P⟩ := hq
  simp only [evE, evEs, Rs.bind_ok] at P
  exact ⟨rfl, hw, ρ, ex, ah, [], S.hp, .nil, P.imp (fun v h2 k ρ2 H2 v2 a2 hp2 r2 => k ρ2 H2 v2 a2 hp2 r2) (fun x h2 k ρ2 H2 c d a2 hp2 r2 => k ρ2 H2 c d a2 hp2 r2)⟩
/-! ### by keywords -/
structure Sh where
  n : Nat
  ks : List Str
  ix : List Nat
def shG (sh : Sh) (us ws : List Value) : List Value := sh.ix.map fun i => (us ++ ws).getD i .none
def shV (sh : Sh) (vs zs : List V) : List V := sh.ix.map fun i => (vs ++ zs).getD i .non
theorem Vals.getD : ∀ {vs : List V} {us : List Value} (i : Nat), Vals vs us → RelV (vs.getD i .non) (us.getD i .none)
  | _, _, _, .nil => by simp only [List.getD_nil]; rfl
  | _, _, 0, .cons r _ => by simpa using r
  | _, _, i + 1, .cons _ rs => by simpa using Vals.getD i rs
theorem shV_rel (sh : Sh) {vs : List V} {us : List Value} {zs : List V} {ws : List Value} (r : Vals vs us) (r' : Vals zs ws) : Vals (shV sh vs zs) (shG sh us ws) := by
  unfold shV shG
  induction sh.ix with
  | nil => exact .nil
  | cons i is ih => exact .cons (Vals.getD i (r.append r')) ih
theorem Reps.getD {K : PySem.W.Frag} {mg : Str → Option Value} {ρ : List Addr} {ex : Addr → Prop} {H : Hp} : ∀ {xs : List AV} {vs : List V} (i : Nat), Reps K mg ρ ex H xs vs → Rep K mg ρ ex H (xs.getD i .non) (vs.getD i .non)
  | _, _, _, .nil => by simp only [List.getD_nil]; exact .non
  | _, _, 0, .cons r _ => by simpa using r
  | _, _, i + 1, .cons _ rs => by simpa using Reps.getD i rs
theorem Reps.pick {K : PySem.W.Frag} {mg : Str → Option Value} {ρ : List Addr} {ex : Addr → Prop} {H : Hp} {xs : List AV} {vs : List V} (r : Reps K mg ρ ex H xs vs) : ∀ ix : List Nat, Reps K mg ρ ex H (ix.map fun i => xs.getD i .non) (ix.map fun i => vs.getD i .non)
  | [] => .nil
  | i :: ix => .cons (r.getD i) (Reps.pick r ix)
/-- the keywords' values, one by one -/
inductive KwsOk (X : Cx) (E : XK) (Φ : CallA) : List Exp → List Keyword → Prop
  | nil : KwsOk X E Φ [] []
  | cons {a' : Exp} {as : List Exp} {nm : Option Str} {e : Expr} {p : Pos} {kws : List Keyword} : PE X e (tE X E Φ a') → KwsOk X E Φ as kws → KwsOk X E Φ (a' :: as) (⟨nm, e, p⟩ :: kws)
theorem pk_kws {as : List Exp} {kws : List Keyword} (h : KwsOk X E Φ as kws) : PK X kws (tEs X E Φ as) := by
  induction h with
  | nil =>
    refine ⟨fun pos pins s σ H Q I hq => pk_nil.run pos pins s σ H Q I ?_⟩
    obtain ⟨ρ, ex, ws, aσ, ah, S, P⟩ := hq
    exact (show KoAs X ρ ex H Q [] ah from P) ρ H [] .refl S.hp .nil
  | cons ha _ ih =>
    refine ⟨fun pos pins s σ H Q I hq => (pk_cons ha ih).run pos pins s σ H Q I ?_⟩
    obtain ⟨ρ, ex, ws, aσ, ah, S, P⟩ := hq
    simp only [evEs, Post.bind] at P
    refine ⟨ρ, ex, ws, aσ, ah, S, P.imp (fun x h1 P ρ1 H1 v1 a1 hp1 r1 => ?_) (fun _ _ k => k)⟩
    refine ⟨ρ1, ex, ws, aσ, h1, S.ext a1 hp1, P.imp (fun ys h2 P ρ2 H2 v2 a2 hp2 r2 => ?_) (fun _ _ k => k.ext a1)⟩
    exact (show KoAs X ρ ex H Q (x :: ys) h2 from P) ρ2 H2 _ (a1.trans a2) hp2 (.cons (r1.step a2.step) r2)
theorem evEs_append {σ : ASt} : ∀ {as bs : List Exp} {h : AH}, evEs Φ (as ++ bs) σ h = (evEs Φ as σ h).bind fun xs h => (evEs Φ bs σ h).bind fun ys h => .ok (xs ++ ys) h
  | [], bs, h => by
    simp only [evEs, List.nil_append, Rs.bind_ok]
    cases evEs Φ bs σ h <;> rfl
  | a :: as, bs, h => by
    simp only [evEs, List.cons_append]
    cases evE Φ a σ h with
    | ok x h1 =>
      simp only [Rs.bind_ok]
      rw [evEs_append]
      cases evEs Φ as σ h1 with
      | ok xs h2 =>
        simp only [Rs.bind_ok]
        cases evEs Φ bs σ h2 <;> rfl
      | ex _ _ => rfl
      | no => rfl
    | ex _ _ => rfl
    | no => rfl
theorem kws_all {pos : Pos} {env : Env} : ∀ {kws : List Keyword}, kws.all (fun k => k.arg.isSome) = true → (backToKw pos (keywordEach kws env)).all (·.1.isSome) = true ∧ (backToKw pos (keywordEach kws env)).any (·.1.isNone) = false
  | [], _ => ⟨rfl, rfl⟩
  | ⟨nm, e, p⟩ :: kws, h => by
    rw [List.all_cons, Bool.and_eq_true] at h
    obtain ⟨h1, h2⟩ := kws_all (pos := pos) (env := env) h.2
    have h3 : nm.isSome = true := h.1
    constructor
    · show (nm.isSome && (backToKw pos (keywordEach kws env)).all (·.1.isSome)) = true
      rw [h3, h1]; rfl
    · show (nm.isNone || (backToKw pos (keywordEach kws env)).any (·.1.isNone)) = false
      rw [h2]
      cases nm with
      | none => cases h3
      | some _ => rfl
theorem kws_names {pos : Pos} {env : Env} : ∀ {kws : List Keyword}, (backToKw pos (keywordEach kws env)).filterMap (·.1) = kws.filterMap (·.arg)
  | [] => rfl
  | ⟨nm, e, p⟩ :: kws => by
    have ih := kws_names (pos := pos) (env := env) (kws := kws)
    cases nm with
    | none => exact ih
    | some n =>
      show n :: (backToKw pos (keywordEach kws env)).filterMap (·.1) = n :: kws.filterMap (·.arg)
      rw [ih]
variable {kws : List Keyword} {as bs : List Exp}
theorem callK_read {CX : CXT} {key : Str} {n : Nat} {Wr : XK → Prop} {sh : Sh} (hw : Wr E) (hn : as.length = sh.n) (hb : bs.length = sh.ks.length) (hix : sh.ix.length = n) {σ : L2.St} {H : Hp} {Q : VK} (hq : tE X E Φ (.callK key (as ++ bs) sh.ix) σ H Q) :
    tCallN sh.n sh.ks.length (spG X.K X.mg Wr Φ key n) (shV sh) E (tEs X E Φ as) (tEs X E Φ bs) σ H Q := by
  obtain ⟨ρ, ex, ws, aσ, ah, S, P⟩ := hq
  simp only [evE, Post.bind, evEs_append] at P
  refine ⟨ρ, ex, ws, aσ, ah, S, (evEs_len P).imp (fun xs h1 ⟨el, P⟩ ρ1 H1 vs a1 hp1 r1 => ?_) (fun _ _ k => k)⟩
  refine ⟨ρ1, ex, ws, aσ, h1, S.ext a1 hp1, (evEs_len P).imp (fun ys h2 ⟨el2, P⟩ ρ2 H2 zs a2 hp2 r2 => ?_) (fun _ _ k => k.ext a1)⟩
  have rr := (r1.step a2.step).append r2
  refine ⟨by rw [← r1.length, el, hn], by rw [← r2.length, el2, hb], by unfold shV; rw [List.length_map, hix], hw, ρ2, ex, h2, _, hp2, rr.pick sh.ix, ?_⟩
  have P' : Post (Φ key (sh.ix.map fun i => (xs ++ ys).getD i .non) h2) (Kok X ρ ex H Q) (ExC X E ρ ex H) := P
  exact P'.imp (fun v h3 k ρ3 H3 v3 a3 hp3 r3 => k ρ3 H3 v3 ((a1.trans a2).trans a3) hp3 r3) (fun x h3 k ρ3 H3 c d a3 hp3 r3 => k ρ3 H3 c d ((a1.trans a2).trans a3) hp3 r3)
theorem snd_callK {CX : CXT} {k : Nat} {f : Addr} {fd : FuncData} {ps : List Str} {x key : Str} {p : Pos} {n : Nat} {Wr : XK → Prop} {sh : Sh} (ok : Ok X) (F : FnG X.prog X.w X.K X.mg X.base CX k f fd ps (spG X.K X.mg Wr Φ key n)) (hw : Wr E) (hr : Room k X.A) (hg : Gl X x) (hm : X.mg x = some (.ref f)) (hk : PySem.W.keepIn X.K (.ref f) = true)
    (hb : KBn X.K fd ps sh.n sh.ks (shG sh) (shV sh)) (hx : Passes CX X E) (ha : PA X (a :: es) (tEs X E Φ as)) (hkw : KwsOk X E Φ bs kws) (hall : kws.all (fun k => k.arg.isSome) = true) (hks : kws.filterMap (·.arg) = sh.ks) (hn : as.length = sh.n) (hbl : bs.length = sh.ks.length) (hix : sh.ix.length = n)
    (hdb : (x == ("__debug__" : Str)) = false) (he : starEach (a :: es) X.env = (false, eval a X.env) :: starEach es X.env) (hpl : (backTo pos (starEach (a :: es) X.env)).any (·.1) = false) :
    PE X (.Call (.Name x p) (a :: es) kws pos) (tE X E Φ (.callK key (as ++ bs) sh.ix)) :=
  ⟨fun pins s σ H Q I hq => (pe_callGK F hr ok.gd hg hm hk hb hx ha (pk_kws hkw) (kws_all hall).1 (kws_names.trans hks) hdb he (by rw [hpl, (kws_all hall).2]; rfl)).run pins s σ H Q I (callK_read (CX := CX) hw hn hbl hix hq)⟩
theorem snd_callK0 {CX : CXT} {k : Nat} {f : Addr} {fd : FuncData} {ps : List Str} {x key : Str} {p : Pos} {n : Nat} {Wr : XK → Prop} {sh : Sh} (ok : Ok X) (F : FnG X.prog X.w X.K X.mg X.base CX k f fd ps (spG X.K X.mg Wr Φ key n)) (hw : Wr E) (hr : Room k X.A) (hg : Gl X x) (hm : X.mg x = some (.ref f)) (hk : PySem.W.keepIn X.K (.ref f) = true)
    (hb : KBn X.K fd ps sh.n sh.ks (shG sh) (shV sh)) (h0 : sh.n = 0) (hx : Passes CX X E) (hkw : KwsOk X E Φ bs kws) (hne : kws ≠ []) (hall : kws.all (fun k => k.arg.isSome) = true) (hks : kws.filterMap (·.arg) = sh.ks) (hbl : bs.length = sh.ks.length) (hix : sh.ix.length = n) (hdb : (x == ("__debug__" : Str)) = false) :
    PE X (.Call (.Name x p) [] kws pos) (tE X E Φ (.callK key bs sh.ix)) := by
  refine ⟨fun pins s σ H Q I hq => ?_⟩
  have hb' := hb
  rw [h0] at hb'
  refine (pe_callGK0 F hr ok.gd hg hm hk hb' hx (pk_kws hkw) hne (kws_all hall).1 (kws_names.trans hks) hdb (kws_all hall).2).run pins s σ H Q I ?_
  have hq' : tE X E Φ (.callK key ([] ++ bs) sh.ix) σ H Q := hq
  obtain ⟨ρ, ex, ws, aσ, ah, S, P⟩ := hq'
  simp only [evE, Post.bind, List.nil_append] at P
  refine ⟨ρ, ex, ws, aσ, ah, S, (evEs_len P).imp (fun ys h2 ⟨el2, P⟩ ρ2 H2 zs a2 hp2 r2 => ?_) (fun _ _ k => k)⟩
  refine ⟨rfl, by rw [← r2.length, el2, hbl], by unfold shV; rw [List.length_map, hix], hw, ρ2, ex, h2, _, hp2, r2.pick sh.ix, ?_⟩
  have P' : Post (Φ key (sh.ix.map fun i => ys.getD i .non) h2) (Kok X ρ ex H Q) (ExC X E ρ ex H) := P
  exact P'.imp (fun v h3 k ρ3 H3 v3 a3 hp3 r3 => k ρ3 H3 v3 (a2.trans a3) hp3 r3) (fun x h3 k ρ3 H3 c d a3 hp3 r3 => k ρ3 H3 c d (a2.trans a3) hp3 r3)
end
end G

set_option Elab.async false
set_option linter.all false
set_option maxRecDepth 100000
set_option maxHeartbeats 4000000
/-! GJ: statements. -/
namespace G
open PySem PySem.Spec PyProof.Rows L2

/-- within a def's body, against its entry -/
structure SR (X : Cx) (ρ0 : List Addr) (ex0 : Addr → Prop) (H0 : Hp) (ρ : List Addr) (ex : Addr → Prop) (ws : List (Option Addr)) (aσ : ASt) (ah : AH) (σ : L2.St) (H : Hp) : Prop where
  st : StRel X.K X.mg ρ ex ws aσ ah σ H
  ext : Ext ρ0 H0 ρ H
  exL : ∀ a, ex0 a → ex a
  own0 : ∀ (i : Nat) (a : Addr), ws[i]? = some (some a) → H0 a = none
  in0 : ∀ a ∈ ρ0, H0 a ≠ none
  ex00 : ∀ a, ex0 a → H0 a ≠ none
def FlC (X : Cx) (ρ0 : List Addr) (ex0 : Addr → Prop) (H0 : Hp) (ρ : List Addr) (ex : Addr → Prop) (H : Hp) (D : Ends) (f : Fl) (ah' : AH) : Prop := match f with
  | .nx aσ' => ∀ ρ' ex' ws' σ' H', SR X ρ0 ex0 H0 ρ' ex' ws' aσ' ah' σ' H' → Stp ρ ex H ρ' ex' H' → D.nx σ' H'
  | .bk aσ' => ∀ ρ' ex' ws' σ' H', SR X ρ0 ex0 H0 ρ' ex' ws' aσ' ah' σ' H' → Stp ρ ex H ρ' ex' H' → D.bk σ' H'
  | .ct aσ' => ∀ ρ' ex' ws' σ' H', SR X ρ0 ex0 H0 ρ' ex' ws' aσ' ah' σ' H' → Stp ρ ex H ρ' ex' H' → D.ct σ' H'
  | .rt v => ∀ ρ' H' v', Ext ρ0 H0 ρ' H' → HRel X.K X.mg ρ' ex0 ah' H' → Rep X.K X.mg ρ' ex0 H' v v' → D.rt v' H'
def tS (X : Cx) (E : XK) (Φ : CallA) (s : Stm) : TS := fun D σ H => ∃ ρ0 ex0 H0 ρ ex ws aσ ah, SR X ρ0 ex0 H0 ρ ex ws aσ ah σ H ∧ Post (evS Φ s aσ ah) (FlC X ρ0 ex0 H0 ρ ex H D) (ExC X E ρ0 ex0 H0)
def tSs (X : Cx) (E : XK) (Φ : CallA) (s : List Stm) : TS := fun D σ H => ∃ ρ0 ex0 H0 ρ ex ws aσ ah, SR X ρ0 ex0 H0 ρ ex ws aσ ah σ H ∧ Post (evSs Φ s aσ ah) (FlC X ρ0 ex0 H0 ρ ex H D) (ExC X E ρ0 ex0 H0)

section
variable {X : Cx} {E : XK} {Φ : CallA} {ρ0 ρ ρ' : List Addr} {ex0 ex ex' : Addr → Prop} {H0 H H' : Hp} {ws : List (Option Addr)} {aσ : ASt} {ah ah' : AH} {σ : L2.St} {pos : Pos} {st : Stmt} {rest : List Stmt} {e : Expr} {e' : Exp} {i : Nat}
theorem SR.go (R : SR X ρ0 ex0 H0 ρ ex ws aσ ah σ H) (a : Ext ρ H ρ' H') (hp : HRel X.K X.mg ρ' ex ah' H') : SR X ρ0 ex0 H0 ρ' ex ws aσ ah' σ H' :=
  ⟨R.st.ext a hp, R.ext.trans a, R.exL, R.own0, R.in0, R.ex00⟩
theorem XRel.less {x : Exn} {c : Value} {d : Option Addr} (h : XRel X.K X.mg ρ ex H x c d) (hl : ∀ b, ex' b → ex b) : XRel X.K X.mg ρ ex' H x c d := by
  obtain ⟨C, h1, h2, h3⟩ := h
  refine ⟨C, h1, h2, ?_⟩
  rcases h3 with h3 | ⟨dx, gs, h3, h4, h5, h6⟩
  · exact .inl h3
  · exact .inr ⟨dx, gs, h3, h4, h5, h6.step (.less hl)⟩
theorem SR.exc (R : SR X ρ0 ex0 H0 ρ ex ws aσ ah σ H) {x : Exn} (k : ExC X E ρ0 ex0 H0 x ah') : ExC X E ρ ex H x ah' := fun ρ' H' c d a hp r => k ρ' H' c d (R.ext.trans a) (hp.less R.exL) (r.less R.exL)
theorem SR.none0 (R : SR X ρ0 ex0 H0 ρ ex ws aσ ah σ H) {p : Addr} (np : H p = none) : H0 p = none := by
  cases z : H0 p with
  | none => rfl
  | some u =>
    by_cases m : p ∈ ρ0
    · exact absurd np (R.st.hp.ne (R.ext.sub m))
    · rw [R.ext.keep p u z m] at np; cases np
theorem SR.set (R : SR X ρ0 ex0 H0 ρ ex ws aσ ah σ H) {x : AV} {v : V} (r : Rep X.K X.mg ρ ex H x v) : SR X ρ0 ex0 H0 ρ ex ws (aσ.set i (.vl x)) ah (σ.set i (some v)) H :=
  ⟨R.st.set r, R.ext, R.exL, R.own0, R.in0, R.ex00⟩

/-! ### suites -/
theorem ss_nil : PSs X [] (tSs X E Φ []) := by
  refine ⟨fun pins s σ H D I hq => pss_nil.run pins s σ H D I ?_⟩
  obtain ⟨ρ0, ex0, H0, ρ, ex, ws, aσ, ah, R, P⟩ := hq
  exact (show FlC X ρ0 ex0 H0 ρ ex H D (.nx aσ) ah from P) ρ ex ws σ H R .refl
theorem FlC.start {f : Fl} {D : Ends} (h : FlC X ρ0 ex0 H0 ρ ex H D f ah') (a : Stp ρ ex H ρ' ex' H') : FlC X ρ0 ex0 H0 ρ' ex' H' D f ah' := by
  cases f with
  | nx σ => exact fun ρ2 ex2 ws2 σ2 H2 R b => h ρ2 ex2 ws2 σ2 H2 R (a.trans b)
  | bk σ => exact fun ρ2 ex2 ws2 σ2 H2 R b => h ρ2 ex2 ws2 σ2 H2 R (a.trans b)
  | ct σ => exact fun ρ2 ex2 ws2 σ2 H2 R b => h ρ2 ex2 ws2 σ2 H2 R (a.trans b)
  | rt v => exact h
theorem ss_cons {s' : Stm} {ss' : List Stm} (h1 : PS X st (tS X E Φ s')) (h2 : PSs X rest (tSs X E Φ ss')) : PSs X (st :: rest) (tSs X E Φ (s' :: ss')) := by
  refine ⟨fun pins s σ H D I hq => (pss_cons h1 h2).run pins s σ H D I ?_⟩
  obtain ⟨ρ0, ex0, H0, ρ, ex, ws, aσ, ah, R, P⟩ := hq
  simp only [evSs, Post.bind] at P
  refine ⟨ρ0, ex0, H0, ρ, ex, ws, aσ, ah, R, P.imp (fun f h1 P => ?_) (fun _ _ k => k)⟩
  cases f with
  | nx aσ1 => exact fun ρ1 ex1 ws1 σ1 H1 R1 a1 => ⟨ρ0, ex0, H0, ρ1, ex1, ws1, aσ1, h1, R1, P.imp (fun f h2 k => k.start a1) (fun _ _ k => k)⟩
  | bk aσ1 => exact P
  | ct aσ1 => exact P
  | rt v => exact P

/-! ### small ones -/
theorem s_pass (h : PS X st tNext) : PS X st (tS X E Φ .pass) := by
  refine ⟨fun pins s σ H D I hq => h.run pins s σ H D I ?_⟩
  obtain ⟨ρ0, ex0, H0, ρ, ex, ws, aσ, ah, R, P⟩ := hq
  exact (show FlC X ρ0 ex0 H0 ρ ex H D (.nx aσ) ah from P) ρ ex ws σ H R .refl
theorem s_brk : PS X (.Break pos) (tS X E Φ .brk) := by
  refine ⟨fun pins s σ H D I hq => ps_break.run pins s σ H D I ?_⟩
  obtain ⟨ρ0, ex0, H0, ρ, ex, ws, aσ, ah, R, P⟩ := hq
  exact (show FlC X ρ0 ex0 H0 ρ ex H D (.bk aσ) ah from P) ρ ex ws σ H R .refl
theorem s_cnt : PS X (.Continue pos) (tS X E Φ .cnt) := by
  refine ⟨fun pins s σ H D I hq => ps_continue.run pins s σ H D I ?_⟩
  obtain ⟨ρ0, ex0, H0, ρ, ex, ws, aσ, ah, R, P⟩ := hq
  exact (show FlC X ρ0 ex0 H0 ρ ex H D (.ct aσ) ah from P) ρ ex ws σ H R .refl
theorem s_never : PS X st (tS X E Φ .never) := by
  refine ⟨fun pins s σ H D I hq => ?_⟩
  obtain ⟨ρ0, ex0, H0, ρ, ex, ws, aσ, ah, R, P⟩ := hq
  exact P.elim
theorem s_expr (he : PE X e (tE X E Φ e')) (hs : swapsWith e none pos.line X.env = pure false) : PS X (.Expr e pos) (tS X E Φ (.expr e')) := by
  refine ⟨fun pins s σ H D I hq => (ps_expr he hs).run pins s σ H D I ?_⟩
  obtain ⟨ρ0, ex0, H0, ρ, ex, ws, aσ, ah, R, P⟩ := hq
  simp only [evS, Post.bind] at P
  exact ⟨ρ, ex, ws, aσ, ah, R.st, P.imp (fun v h1 P ρ1 H1 v1 a1 hp1 r1 => (show FlC X ρ0 ex0 H0 ρ ex H D (.nx aσ) h1 from P) ρ1 ex ws σ H1 (R.go a1 hp1) a1.step) (fun _ _ k => R.exc k)⟩
theorem tL_of_tE {σ : L2.St} {H : Hp} {Q : VK} (hq : tE X E Φ e' σ H Q) : tL X E Φ e' σ H Q := by
  obtain ⟨ρ, ex, ws, aσ, ah, S, P⟩ := hq
  refine ⟨ρ, ex, ws, aσ, ah, S, P.imp (fun v h k xs ev ρ' H' p vs a np hp e r => ?_) (fun _ _ k => k)⟩
  subst ev
  exact k ρ' H' _ a hp.unP (.lst e hp.notP (fun x => S.hp.exOk p x np) (r.step .unP))
theorem tL_of_cell {σ : L2.St} {H : Hp} {Q : VK} (hq : tE X E Φ (.cell e') σ H Q) : tL X E Φ e' σ H Q := by
  obtain ⟨ρ, ex, ws, aσ, ah, S, P⟩ := hq
  simp only [evE, Post.bind] at P
  refine ⟨ρ, ex, ws, aσ, ah, S, P.imp (fun v h k xs ev ρ' H' p vs a np hp e r => ?_) (fun _ _ k => k)⟩
  subst ev
  have nx : ¬ ex p := fun x => S.hp.exOk p x np
  exact (show Kok X ρ ex H Q (.ref h.length) (h ++ [.lst xs]) from k) _ H' _ (a.toCell np) (hp.toCell nx e r) (.ref (by rw [List.getElem?_append_right (by rw [hp.len]; exact Nat.le_refl _)]; simp [hp.len]))
theorem asg_ofL {g : TG} (h : PS X st (tAsg (tL X E Φ e') g)) : PS X st (tAsg (tE X E Φ e') g) := ⟨fun pins s σ H D I hq => h.run pins s σ H D I (tL_of_tE (show tE X E Φ e' σ H _ from hq))⟩
theorem asg_cell {g : TG} (h : PS X st (tAsg (tL X E Φ e') g)) : PS X st (tAsg (tE X E Φ (.cell e')) g) := ⟨fun pins s σ H D I hq => h.run pins s σ H D I (tL_of_cell (show tE X E Φ (.cell e') σ H _ from hq))⟩
theorem s_set (h : PS X st (tAsg (tE X E Φ e') (gName i))) : PS X st (tS X E Φ (.set i e')) := by
  refine ⟨fun pins s σ H D I hq => h.run pins s σ H D I ?_⟩
  obtain ⟨ρ0, ex0, H0, ρ, ex, ws, aσ, ah, R, P⟩ := hq
  simp only [evS, Post.bind] at P
  refine ⟨ρ, ex, ws, aσ, ah, R.st, P.imp (fun v h1 P ρ1 H1 v1 a1 hp1 r1 => ?_) (fun _ _ k => R.exc k)⟩
  obtain ⟨aσ1, e1, P⟩ := P.lift
  unfold setSlot at e1
  split at e1
  · cases e1
    exact (show FlC X ρ0 ex0 H0 ρ ex H D (.nx _) h1 from P) ρ1 ex ws _ H1 ((R.go a1 hp1).set r1) a1.step
  · cases e1
theorem StRel.setOwn (h : StRel X.K X.mg ρ ex ws aσ ah σ H) {p : Addr} {xs : List AV} {vs : List V} (xp : ex p) (np : ∀ (j : Nat), ws[j]? ≠ some (some p)) (e : H p = some (.lst vs)) (r : Reps X.K X.mg ρ ex H xs vs) : StRel X.K X.mg ρ ex (ws.set i (some p)) (aσ.set i (.ol xs)) ah (σ.set i (some (.ref p))) H := by
  have key : ∀ (j : Nat) (a : Addr), (ws.set i (some p))[j]? = some (some a) → (j = i ∧ a = p) ∨ (j ≠ i ∧ ws[j]? = some (some a)) := fun j a ej => by
    by_cases hj : i = j
    · subst hj
      by_cases hi : i < ws.length
      · rw [List.getElem?_set_self hi] at ej; cases ej; exact .inl ⟨rfl, rfl⟩
      · rw [List.getElem?_eq_none (by simpa using hi)] at ej; cases ej
    · rw [List.getElem?_set_ne hj] at ej; exact .inr ⟨fun q => hj q.symm, ej⟩
  refine ⟨h.hp, by simp [h.len], by simp [h.wlen], fun j s u w e1 e2 e3 => ?_, fun j a ej => ?_, fun j k a ej ek => ?_⟩
  · by_cases hj : i = j
    · subst hj
      have h1 : i < aσ.length := by have := (List.getElem?_eq_some_iff.mp e1).1; simpa using this
      have h2 : i < σ.length := by rw [← h.len]; exact h1
      have h3 : i < ws.length := by rw [h.wlen]; exact h2
      rw [List.getElem?_set_self h1] at e1
      rw [List.getElem?_set_self h2] at e2
      rw [List.getElem?_set_self h3] at e3
      cases e1; cases e2; cases e3
      exact ⟨p, vs, rfl, rfl, e, r⟩
    · rw [List.getElem?_set_ne hj] at e1 e2 e3
      exact h.slot j s u w e1 e2 e3
  · rcases key j a ej with ⟨_, rfl⟩ | ⟨_, q⟩
    · exact xp
    · exact h.own j a q
  · rcases key j a ej with ⟨rfl, rfl⟩ | ⟨n1, q⟩ <;> rcases key k _ ek with ⟨rfl, q'⟩ | ⟨n2, q'⟩
    · rfl
    · exact absurd q' (np k)
    · subst q'; exact absurd q (np j)
    · exact h.inj j k a q q'
theorem s_own (h : PS X st (tAsg (tL X E Φ e') (gName i))) : PS X st (tS X E Φ (.own i e')) := by
  refine ⟨fun pins s σ H D I hq => h.run pins s σ H D I ?_⟩
  obtain ⟨ρ0, ex0, H0, ρ, ex, ws, aσ, ah, R, P⟩ := hq
  simp only [evS, Post.bind] at P
  refine ⟨ρ, ex, ws, aσ, ah, R.st, P.imp (fun v h1 P xs ev ρ1 H1 p vs a1 np hp1 e1 r1 => ?_) (fun _ _ k => R.exc k)⟩
  subst ev
  simp only [Post.bind] at P
  obtain ⟨aσ1, e2, P⟩ := P.lift
  unfold setSlot at e2
  split at e2
  · cases e2
    have hex : ∀ b, H b ≠ none → ¬ ex b → ¬ exP ex p b := fun b h1 h2 h3 => h3.elim h2 fun e => by subst e; exact h1 np
    have st1 := a1.stp hex
    have S1 := R.st.stp a1 st1 (fun b x => .inl x) hp1
    have nw : ∀ (j : Nat), ws[j]? ≠ some (some p) := fun j q => R.st.hp.exOk p (R.st.own j p q) np
    refine (show FlC X ρ0 ex0 H0 ρ ex H D (.nx _) h1 from P) ρ1 (exP ex p) (ws.set i (some p)) _ H1 ⟨S1.setOwn (.inr rfl) nw e1 r1, R.ext.trans a1, fun a x => .inl (R.exL a x), fun j a ej => ?_, R.in0, R.ex00⟩ st1
    by_cases hj : i = j
    · subst hj
      by_cases hi : i < ws.length
      · rw [List.getElem?_set_self hi] at ej; cases ej; exact R.none0 np
      · rw [List.getElem?_eq_none (by simpa using hi)] at ej; cases ej
    · rw [List.getElem?_set_ne hj] at ej; exact R.own0 j a ej
  · cases e2
theorem s_asg {t : Tgt} (h : PS X st (tAsg (tE X E Φ e') (gT X t))) : PS X st (tS X E Φ (.asg t e')) := by
  refine ⟨fun pins s σ H D I hq => h.run pins s σ H D I ?_⟩
  obtain ⟨ρ0, ex0, H0, ρ, ex, ws, aσ, ah, R, P⟩ := hq
  simp only [evS, Post.bind] at P
  refine ⟨ρ, ex, ws, aσ, ah, R.st, P.imp (fun v h1 P ρ1 H1 v1 a1 hp1 r1 => ?_) (fun _ _ k => R.exc k)⟩
  obtain ⟨aσ1, e1, P⟩ := P.lift
  have R1 := R.go a1 hp1
  exact ⟨ρ1, ex, ws, aσ, h1, v, aσ1, R1.st, r1, e1, fun σ' S' _ => (show FlC X ρ0 ex0 H0 ρ ex H D (.nx _) h1 from P) ρ1 ex ws σ' H1 ⟨S', R1.ext, R1.exL, R1.own0, R1.in0, R1.ex00⟩ a1.step⟩
theorem setSlot_some {σ σ' : ASt} {i : Nat} {s : Sv} (e : setSlot σ i s = some σ') : σ' = σ.set i s := by
  unfold setSlot at e
  split at e
  · cases e; rfl
  · cases e
theorem s_par {i j : Nat} {a' b' : Exp} (h : PS X st (tPar i j (tEs X E Φ [a', b']))) : PS X st (tS X E Φ (.par i j a' b')) := by
  refine ⟨fun pins s σ H D I hq => h.run pins s σ H D I ?_⟩
  obtain ⟨ρ0, ex0, H0, ρ, ex, ws, aσ, ah, R, P⟩ := hq
  simp only [evS, Post.bind] at P
  refine ⟨ρ, ex, ws, aσ, ah, R.st, ?_⟩
  simp only [evEs, Post.bind]
  refine P.imp (fun x h1 P => P.imp (fun y h2 P ρ1 H1 vs a1 hp1 r1 => ?_) (fun _ _ k => R.exc k)) (fun _ _ k => R.exc k)
  obtain ⟨aσ1, e1, P⟩ := P.lift
  obtain ⟨aσ2, e2, e3⟩ := Option.bind_eq_some_iff.mp e1
  cases setSlot_some e2
  cases setSlot_some e3
  cases r1 with
  | cons r1 r2 =>
    cases r2 with
    | cons r2 r3 =>
      cases r3
      exact ⟨_, _, rfl, (show FlC X ρ0 ex0 H0 ρ ex H D (.nx _) h2 from P) ρ1 ex ws _ H1 (((R.go a1 hp1).set r1).set r2) a1.step⟩
theorem s_aug {o : BOp} {f : Int → Int → Int} (h : PS X st (tAug i (tE X E Φ e') (ipI f))) (hf : (o = .add ∧ f = fun i j => i + j) ∨ (o = .sub ∧ f = fun i j => i - j)) : PS X st (tS X E Φ (.aug i o e')) := by
  refine ⟨fun pins s σ H D I hq => h.run pins s σ H D I ?_⟩
  obtain ⟨ρ0, ex0, H0, ρ, ex, ws, aσ, ah, R, P⟩ := hq
  simp only [evS] at P
  split at P
  · rename_i x ex1
    obtain ⟨v, w, hv1, hv2, u, rfl, ru⟩ := R.st.slotAt ex1
    refine ⟨u, hv1, ρ, ex, ws, aσ, ah, R.st, ?_⟩
    rw [Post.bind] at P
    refine P.imp (fun y h1 P ρ1 H1 v1 a1 hp1 r1 => ?_) (fun _ _ k => R.exc k)
    rcases hf with ⟨rfl, rfl⟩ | ⟨rfl, rfl⟩
    · cases x <;> (try exact P.elim)
      cases y <;> (try exact P.elim)
      cases ru; cases r1
      exact ⟨_, _, rfl, rfl, (show FlC X ρ0 ex0 H0 ρ ex H D (.nx _) h1 from P) ρ1 ex ws _ H1 ((R.go a1 hp1).set (.int _)) a1.step⟩
    · cases x <;> (try exact P.elim)
      cases y <;> (try exact P.elim)
      cases ru; cases r1
      exact ⟨_, _, rfl, rfl, (show FlC X ρ0 ex0 H0 ρ ex H D (.nx _) h1 from P) ρ1 ex ws _ H1 ((R.go a1 hp1).set (.int _)) a1.step⟩
  · exact P.elim
theorem s_if {c : Expr} {a b : List Stmt} {t : Tst} {a' b' : List Stm} (hc : PT X c (tT X E Φ t)) (ha : PSs X a (tSs X E Φ a')) (hb : PSs X b (tSs X E Φ b')) : PS X (.If c a b pos) (tS X E Φ (.ife t a' b')) := by
  refine ⟨fun pins s σ H D I hq => (ps_if hc ha hb).run pins s σ H D I ?_⟩
  obtain ⟨ρ0, ex0, H0, ρ, ex, ws, aσ, ah, R, P⟩ := hq
  simp only [evS, Post.bind] at P
  refine ⟨ρ, ex, ws, aσ, ah, R.st, P.imp (fun k h1 P ρ1 H1 a1 hp1 => ?_) (fun _ _ k => R.exc k)⟩
  cases k with
  | true => rw [if_pos rfl]; exact ⟨ρ0, ex0, H0, ρ1, ex, ws, aσ, h1, R.go a1 hp1, P.imp (fun _ _ k => k.start a1.step) (fun _ _ k => k)⟩
  | false => rw [if_neg (by decide)]; exact ⟨ρ0, ex0, H0, ρ1, ex, ws, aσ, h1, R.go a1 hp1, P.imp (fun _ _ k => k.start a1.step) (fun _ _ k => k)⟩

/-! ### loops -/
theorem s_for {iter tg : Expr} {body : List Stmt} {it : Itr} {tg' : Tgt} {b' : List Stm} (hpo : PassesOwn (model X.prog X.w) X.A X.env X.xe) (hc : X.calm = true) (hi : PI X tg iter (tI X E Φ false it)) (hg : PG X tg (gT X tg')) (hb : PSs X body (tSs X E Φ b')) (hs : ∀ x, foldedSetIterable iter X.env x = pure x) :
    PS X (.For tg iter body [] pos) (tS X E Φ (.for tg' it b')) := by
  refine ⟨fun pins s σ H D I hq => (ps_for hpo hc hi hg hb hs).run pins s σ H D I ?_⟩
  obtain ⟨ρ0, ex0, H0, ρ, ex, ws, aσ, ah, R, P⟩ := hq
  simp only [evS, Post.bind] at P
  refine ⟨ρ, ex, ws, aσ, ah, R.st, P.imp (fun xs h1 P ρ1 H1 J G Y a1 hp1 WA => ?_) (fun _ _ k => R.exc k)⟩
  refine for_it WA.w (fun i σ H' => ∃ ρ' ex' ws' aσ' ah', SR X ρ0 ex0 H0 ρ' ex' ws' aσ' ah' σ H' ∧ Stp ρ1 ex H1 ρ' ex' H' ∧ Post (forL tg' (evSs Φ b') (xs.drop i) aσ' ah') (FlC X ρ0 ex0 H0 ρ ex H D) (ExC X E ρ0 ex0 H0))
    ⟨ρ1, ex, ws, aσ, h1, R.go a1 hp1, .refl, by rw [List.drop_zero]; exact P⟩ ?_ ?_ ?_
  · rintro i σ' H' hi ⟨ρ', ex', ws', aσ', ah', R', st', _⟩
    exact WA.g ρ' ex' H' ⟨st', fun q => by cases q⟩
  · rintro i x σ' H' H'' hi ⟨ρ', ex', ws', aσ', ah', R', st', P⟩ hy
    have hx : xs[i]? = some xs[i] := List.getElem?_eq_getElem hi
    rw [List.drop_eq_getElem_cons hi] at P
    simp only [forL, Post.bind] at P
    obtain ⟨aσ2, e1, P⟩ := P.lift
    obtain ⟨a2, hp2, r2⟩ := WA.y i _ ρ' ex' ah' H' x H'' hx ⟨st', fun q => by cases q⟩ R'.st.hp hy
    have R2 := R'.go a2 hp2
    refine ⟨ρ', ex', ws', aσ', ah', _, aσ2, R2.st, r2, e1, fun σ3 S3 _ => ⟨ρ0, ex0, H0, ρ', ex', ws', aσ2, ah', ⟨S3, R2.ext, R2.exL, R2.own0, R2.in0, R2.ex00⟩, P.imp (fun f h3 P => ?_) (fun _ _ k => k)⟩⟩
    have st2 : Stp ρ1 ex H1 ρ' ex' H'' := st'.trans a2.step
    cases f with
    | nx aσ4 => exact fun ρ4 ex4 ws4 σ4 H4 R4 st4 => ⟨ρ4, ex4, ws4, aσ4, h3, R4, st2.trans st4, P⟩
    | ct aσ4 => exact fun ρ4 ex4 ws4 σ4 H4 R4 st4 => ⟨ρ4, ex4, ws4, aσ4, h3, R4, st2.trans st4, P⟩
    | bk aσ4 => exact fun ρ4 ex4 ws4 σ4 H4 R4 st4 => (show FlC X ρ0 ex0 H0 ρ ex H D (.nx _) h3 from P) ρ4 ex4 ws4 σ4 H4 R4 (a1.step.trans (st2.trans st4))
    | rt v => exact P
  · rintro σ' H' ⟨ρ', ex', ws', aσ', ah', R', st', P⟩
    rw [List.drop_length] at P
    exact (show FlC X ρ0 ex0 H0 ρ ex H D (.nx _) ah' from P) ρ' ex' ws' σ' H' R' (a1.step.trans st')
theorem s_while {c : Expr} {body : List Stmt} {t : Tst} {b' : List Stm} (hpo : PassesOwn (model X.prog X.w) X.A X.env X.xe) (hc : PT X c (tT X E Φ t)) (hb : PSs X body (tSs X E Φ b')) : PS X (.While c body [] pos) (tS X E Φ (.while t b')) := by
  refine ⟨fun pins s σ H D I hq => (ps_while hpo hc hb).run pins s σ H D I ?_⟩
  obtain ⟨ρ0, ex0, H0, ρ, ex, ws, aσ, ah, R, P⟩ := hq
  simp only [evS] at P
  refine ⟨fun m σ H' => ∃ ρ' ex' ws' aσ' ah', SR X ρ0 ex0 H0 ρ' ex' ws' aσ' ah' σ H' ∧ Stp ρ ex H ρ' ex' H' ∧ Post (whileN (evT Φ t) (evSs Φ b') m aσ' ah') (FlC X ρ0 ex0 H0 ρ ex H D) (ExC X E ρ0 ex0 H0), ⟨turns, ρ, ex, ws, aσ, ah, R, .refl, P⟩, ?_⟩
  rintro m σ' H' ⟨ρ', ex', ws', aσ', ah', R', st', P⟩
  cases m with
  | zero => exact P.elim
  | succ m =>
    simp only [whileN, Post.bind] at P
    refine ⟨ρ', ex', ws', aσ', ah', R'.st, P.imp (fun k h1 P ρ1 H1 a1 hp1 => ?_) (fun _ _ k => R'.exc k)⟩
    have R1 := R'.go a1 hp1
    have st1 : Stp ρ ex H ρ1 ex' H1 := st'.trans a1.step
    cases k with
    | false => exact (show FlC X ρ0 ex0 H0 ρ ex H D (.nx _) h1 from P) ρ1 ex' ws' σ' H1 R1 st1
    | true =>
      simp only [Post.bind] at P
      refine ⟨fun σ2 H2 => ∃ ρ2 ex2 ws2 aσ2 ah2, SR X ρ0 ex0 H0 ρ2 ex2 ws2 aσ2 ah2 σ2 H2 ∧ Stp ρ ex H ρ2 ex2 H2 ∧ Post (whileN (evT Φ t) (evSs Φ b') m aσ2 ah2) (FlC X ρ0 ex0 H0 ρ ex H D) (ExC X E ρ0 ex0 H0), fun σ2 H2 q => ⟨m, Nat.lt_succ_self m, q⟩,
        ρ0, ex0, H0, ρ1, ex', ws', aσ', h1, R1, P.imp (fun f h3 P => ?_) (fun _ _ k => k)⟩
      cases f with
      | nx aσ4 => exact fun ρ4 ex4 ws4 σ4 H4 R4 st4 => ⟨ρ4, ex4, ws4, aσ4, h3, R4, st1.trans st4, P⟩
      | ct aσ4 => exact fun ρ4 ex4 ws4 σ4 H4 R4 st4 => ⟨ρ4, ex4, ws4, aσ4, h3, R4, st1.trans st4, P⟩
      | bk aσ4 => exact fun ρ4 ex4 ws4 σ4 H4 R4 st4 => (show FlC X ρ0 ex0 H0 ρ ex H D (.nx _) h3 from P) ρ4 ex4 ws4 σ4 H4 R4 (st1.trans st4)
      | rt v => exact P

/-! ### freezing, ends -/
theorem SR.frzAll (R : SR X ρ0 ex0 H0 ρ ex ws aσ ah σ H) : StRel X.K X.mg ρ ex0 (ws.map fun _ => none) (aσ.map frz) ah σ H := by
  refine ⟨R.st.hp.less R.exL, by simp [R.st.len], by simp [R.st.wlen], fun j s u w e1 e2 e3 => ?_, fun j a ej => ?_, fun j k a ej ek => ?_⟩
  · rw [List.getElem?_map] at e1
    obtain ⟨s0, f1, rfl⟩ := Option.map_eq_some_iff.mp e1
    obtain ⟨v, w0, g1, g2, q⟩ := R.st.slotAt f1
    rw [e2] at g1; cases g1
    cases s0 with
    | un => trivial
    | vl x =>
      obtain ⟨u', e, r⟩ := q
      exact ⟨u', e, r.step (.less R.exL)⟩
    | ol xs =>
      obtain ⟨p, vs, q1, q2, q3, r⟩ := q
      subst q2
      exact ⟨.ref p, q1, .lst q3 (fun m => R.st.hp.out p m (R.st.own j p g2)) (fun x => R.ex00 p x (R.own0 j p g2)) (r.step (.less R.exL))⟩
  · rw [List.getElem?_map] at ej
    obtain ⟨_, _, q⟩ := Option.map_eq_some_iff.mp ej
    cases q
  · rw [List.getElem?_map] at ej
    obtain ⟨_, _, q⟩ := Option.map_eq_some_iff.mp ej
    cases q
theorem s_ret (h : PE X e (tE X E Φ e')) : PS X (.Return (some e) pos) (tS X E Φ (.ret e')) := by
  refine ⟨fun pins s σ H D I hq => (ps_ret h).run pins s σ H D I ?_⟩
  obtain ⟨ρ0, ex0, H0, ρ, ex, ws, aσ, ah, R, P⟩ := hq
  simp only [evS, Post.bind] at P
  exact ⟨ρ, ex0, _, _, ah, R.frzAll, P.imp (fun v h1 P ρ1 H1 v1 a1 hp1 r1 => (show FlC X ρ0 ex0 H0 ρ ex H D (.rt v) h1 from P) ρ1 H1 v1 (R.ext.trans a1) hp1 r1) (fun x h k ρ1 H1 c d a hp r => k ρ1 H1 c d (R.ext.trans a) hp r)⟩
theorem s_retN : PS X (.Return none pos) (tS X E Φ .retN) := by
  refine ⟨fun pins s σ H D I hq => ps_retN.run pins s σ H D I ?_⟩
  obtain ⟨ρ0, ex0, H0, ρ, ex, ws, aσ, ah, R, P⟩ := hq
  exact (show FlC X ρ0 ex0 H0 ρ ex H D (.rt .non) ah from P) ρ H .non R.ext (R.st.hp.less R.exL) .non
theorem set_same {α : Type} {l : List α} {i : Nat} {s : α} (h : l[i]? = some s) : l.set i s = l := by
  apply List.ext_getElem?
  intro j
  by_cases hj : i = j
  · subst hj
    rw [List.getElem?_set_self (List.getElem?_eq_some_iff.mp h).1, h]
  · rw [List.getElem?_set_ne hj]
theorem SR.frz1 (R : SR X ρ0 ex0 H0 ρ ex ws aσ ah σ H) (i : Nat) : ∃ ex' ws', (∀ a, ex' a → ex a) ∧ SR X ρ0 ex0 H0 ρ ex' ws' (match aσ[i]? with | some s => aσ.set i (frz s) | none => aσ) ah σ H := by
  cases hs : aσ[i]? with
  | none => exact ⟨ex, ws, fun _ x => x, R⟩
  | some s =>
    cases s with
    | un =>
      refine ⟨ex, ws, fun _ x => x, ?_⟩
      have : aσ.set i (frz .un) = aσ := set_same hs
      show SR X ρ0 ex0 H0 ρ ex ws (aσ.set i (frz .un)) ah σ H
      rw [this]; exact R
    | vl x =>
      refine ⟨ex, ws, fun _ x => x, ?_⟩
      have : aσ.set i (frz (.vl x)) = aσ := set_same hs
      show SR X ρ0 ex0 H0 ρ ex ws (aσ.set i (frz (.vl x))) ah σ H
      rw [this]; exact R
    | ol xs =>
      obtain ⟨v, w0, g1, g2, p, vs, q1, q2, q3, r⟩ := R.st.slotAt hs
      subst q1 q2
      have hl : ∀ a, (ex a ∧ a ≠ p) → ex a := fun a x => x.1
      have np0 : H0 p = none := R.own0 i p g2
      have key : ∀ (j : Nat) (a : Addr), (ws.set i none)[j]? = some (some a) → j ≠ i ∧ ws[j]? = some (some a) := fun j a ej => by
        by_cases hj : i = j
        · subst hj
          by_cases hi : i < ws.length
          · rw [List.getElem?_set_self hi] at ej; cases ej
          · rw [List.getElem?_eq_none (by simpa using hi)] at ej; cases ej
        · rw [List.getElem?_set_ne hj] at ej; exact ⟨fun q => hj q.symm, ej⟩
      refine ⟨fun a => ex a ∧ a ≠ p, ws.set i none, hl, ⟨R.st.hp.less hl, by simp [R.st.len], by simp [R.st.wlen], fun j s u w e1 e2 e3 => ?_, fun j a ej => ?_, fun j k a ej ek => ?_⟩, R.ext, fun a x => ⟨R.exL a x, fun q => by subst q; exact R.ex00 a x np0⟩, fun j a ej => R.own0 j a (key j a ej).2, R.in0, R.ex00⟩
      · by_cases hj : i = j
        · subst hj
          have h1 : i < aσ.length := (List.getElem?_eq_some_iff.mp hs).1
          have e1' : (aσ.set i (frz (.ol xs)))[i]? = some s := e1
          rw [List.getElem?_set_self h1] at e1'
          cases e1'
          rw [g1] at e2; cases e2
          exact ⟨.ref p, rfl, .lst q3 (fun m => R.st.hp.out p m (R.st.own i p g2)) (fun x => x.2 rfl) (r.step (.less hl))⟩
        · have e1' : (aσ.set i (frz (.ol xs)))[j]? = some s := e1
          rw [List.getElem?_set_ne hj] at e1' e3
          have q := R.st.slot j s u w e1' e2 e3
          cases s with
          | un => trivial
          | vl x =>
            obtain ⟨u', e, r⟩ := q
            exact ⟨u', e, r.step (.less hl)⟩
          | ol ys =>
            obtain ⟨b, us, f1, f2, f3, r⟩ := q
            exact ⟨b, us, f1, f2, f3, r.step (.less hl)⟩
      · obtain ⟨n, q⟩ := key j a ej
        exact ⟨R.st.own j a q, fun e => by subst e; exact n (R.st.inj j i a q g2)⟩
      · exact R.st.inj j k a (key j a ej).2 (key k a ek).2
theorem SR.frzs : ∀ (is : List Nat) {ex : Addr → Prop} {ws : List (Option Addr)} {aσ : ASt}, SR X ρ0 ex0 H0 ρ ex ws aσ ah σ H → ∃ ex' ws', (∀ a, ex' a → ex a) ∧ SR X ρ0 ex0 H0 ρ ex' ws' (frzAt aσ is) ah σ H
  | [], ex, ws, _, R => ⟨ex, ws, fun _ x => x, R⟩
  | i :: is, ex, ws, aσ, R => by
    obtain ⟨ex1, ws1, l1, R1⟩ := R.frz1 i
    obtain ⟨ex2, ws2, l2, R2⟩ := SR.frzs is R1
    exact ⟨ex2, ws2, fun a x => l1 a (l2 a x), R2⟩
theorem s_frzd {is : List Nat} {s' : Stm} (h : PS X st (tS X E Φ s')) : PS X st (tS X E Φ (.frzd is s')) := by
  refine ⟨fun pins s σ H D I hq => h.run pins s σ H D I ?_⟩
  obtain ⟨ρ0, ex0, H0, ρ, ex, ws, aσ, ah, R, P⟩ := hq
  simp only [evS] at P
  obtain ⟨ex1, ws1, l1, R1⟩ := R.frzs is
  exact ⟨ρ0, ex0, H0, ρ, ex1, ws1, _, ah, R1, P.imp (fun f h k => k.start (.less l1)) (fun _ _ k => k)⟩

/-! ### writes -/
theorem Stp.atCell {p : Addr} {o : HO} (hm : Mut (H p)) (m : p ∈ ρ) : Stp ρ ex H ρ ex (upd H p o) :=
  ⟨fun a u e n x => ⟨by rw [upd_ne (fun q => n (by rw [q]; exact m))]; exact e, n, x⟩, fun a u e q => by
    rw [upd_ne (fun z => by subst z; rw [e] at hm; exact q hm)]; exact e, fun _ _ e => e⟩
theorem HRel.atCell (h : HRel X.K X.mg ρ ex ah H) {n : Nat} {p : Addr} {o : HO} {c : Cell} (e : ρ[n]? = some p) (hn : n < ah.length) (hc : CellRel X.K X.mg ρ ex (upd H p o) p c) : HRel X.K X.mg ρ ex (ah.set n c) (upd H p o) := by
  have m : p ∈ ρ := List.mem_of_getElem? e
  refine ⟨by simp [h.len], h.nd, h.out, fun a x => ?_, fun k c' a e1 e2 => ?_⟩
  · by_cases q : a = p
    · subst q; rw [upd_same]; simp
    · rw [upd_ne q]; exact h.exOk a x
  · by_cases hk : n = k
    · subst hk
      rw [List.getElem?_set_self hn] at e1
      cases e1
      rw [e] at e2; cases e2
      exact hc
    · rw [List.getElem?_set_ne hk] at e1
      refine (h.cell k c' a e1 e2).step (.atCell (h.mut m) m) (upd_ne fun q => ?_)
      subst q
      obtain ⟨h1, f1⟩ := List.getElem?_eq_some_iff.mp e
      obtain ⟨h2, f2⟩ := List.getElem?_eq_some_iff.mp e2
      exact hk ((List.getElem_inj h.nd).mp (f1.trans f2.symm))
theorem Ext.atCell (a : Ext ρ0 H0 ρ H) (h : HRel X.K X.mg ρ ex ah H) {p : Addr} {o : HO} (m : p ∈ ρ) : Ext ρ0 H0 ρ (upd H p o) :=
  ⟨a.pre, a.new, fun b u e q => by
    rw [upd_ne (fun z => by subst z; have := h.mut m; rw [a.fix b u e q] at this; exact q this)]; exact a.fix b u e q, fun b u e n => by
    rw [upd_ne (fun z => by subst z; rw [a.new b m n] at e; cases e)]; exact a.keep b u e n⟩
theorem Ext.at0 (a : Ext ρ0 H0 ρ H) {p : Addr} {o : HO} (np : H0 p = none) : Ext ρ0 H0 ρ (upd H p o) :=
  ⟨a.pre, a.new, fun b u e q => by
    rw [upd_ne (fun z => by subst z; rw [np] at e; cases e)]; exact a.fix b u e q, fun b u e n => by
    rw [upd_ne (fun z => by subst z; rw [np] at e; cases e)]; exact a.keep b u e n⟩
theorem s_sset {o' k' v' : Exp} (h : PS X st (tAsg (tE X E Φ v') (gSub (tE X E Φ o') (tE X E Φ k') rSetL))) : PS X st (tS X E Φ (.sset o' k' v')) := by
  refine ⟨fun pins s σ H D I hq => h.run pins s σ H D I ?_⟩
  obtain ⟨ρ0, ex0, H0, ρ, ex, ws, aσ, ah, R, P⟩ := hq
  simp only [evS, Post.bind] at P
  refine ⟨ρ, ex, ws, aσ, ah, R.st, P.imp (fun v h1 P ρ1 H1 v1 a1 hp1 r1 => ?_) (fun _ _ k => R.exc k)⟩
  have R1 := R.go a1 hp1
  refine ⟨ρ1, ex, ws, aσ, h1, R1.st, P.imp (fun x h2 P ρ2 H2 v2 a2 hp2 r2 => ?_) (fun _ _ k => R1.exc k)⟩
  have R2 := R1.go a2 hp2
  refine ⟨ρ2, ex, ws, aσ, h2, R2.st, P.imp (fun k h3 P ρ3 H3 v3 a3 hp3 r3 => ?_) (fun _ _ k => R2.exc k)⟩
  have R3 := R2.go a3 hp3
  cases x <;> (try exact P.elim)
  rename_i n _
  cases k <;> (try exact P.elim)
  rename_i z
  simp only at P
  split at P
  · rename_i xs hc
    split at P
    · rename_i j hj
      cases (r2.step (a3.step (ex := ex))) with
      | @ref _ p hn =>
        cases r3
        obtain ⟨vs, e3, rs⟩ := hp3.cell n _ p hc hn
        have m : p ∈ ρ3 := List.mem_of_getElem? hn
        have hn' : n < h3.length := (List.getElem?_eq_some_iff.mp hc).1
        have s3 : Stp ρ3 ex H3 ρ3 ex (upd H3 p (.lst (vs.set j v1))) := .atCell (hp3.mut m) m
        have hp4 : HRel X.K X.mg ρ3 ex (h3.set n (.lst (xs.set j v))) (upd H3 p (.lst (vs.set j v1))) := hp3.atCell hn hn' ⟨_, upd_same, (rs.set j (r1.step (a2.trans a3).step)).step s3⟩
        refine ⟨p, vs, z, j, rfl, rfl, e3, by rw [← rs.length]; exact hj, ?_⟩
        have S4 : StRel X.K X.mg ρ3 ex ws aσ (h3.set n (.lst (xs.set j v))) σ (upd H3 p (.lst (vs.set j v1))) :=
          ⟨hp4, R3.st.len, R3.st.wlen, fun i s v w e1 e2 e4 => by
            have q := R3.st.slot i s v w e1 e2 e4
            cases s with
            | un => trivial
            | vl x =>
              obtain ⟨u', e, r⟩ := q
              exact ⟨u', e, r.step s3⟩
            | ol ys =>
              obtain ⟨b, us, f1, f2, f5, r⟩ := q
              subst f2
              exact ⟨b, us, f1, rfl, by rw [upd_ne (fun q => by subst q; exact hp3.out b m (R3.st.own i b e4))]; exact f5, r.step s3⟩, R3.st.own, R3.st.inj⟩
        exact (show FlC X ρ0 ex0 H0 ρ ex H D (.nx _) _ from P) ρ3 ex ws σ _ ⟨S4, R3.ext.atCell hp3 m, R3.exL, R3.own0, R3.in0, R3.ex00⟩ (((a1.trans a2).trans a3).step.trans s3)
    · exact P.elim
  · exact P.elim
theorem s_app (h : PS X st (tDrop (tBM X.K "list" rAppend (tVar i) (tCons (tE X E Φ e') tNil)))) : PS X st (tS X E Φ (.app i e')) := by
  refine ⟨fun pins s σ H D I hq => h.run pins s σ H D I ?_⟩
  obtain ⟨ρ0, ex0, H0, ρ, ex, ws, aσ, ah, R, P⟩ := hq
  simp only [evS] at P
  split at P
  · rename_i xs hs
    obtain ⟨v, w0, g1, g2, p, vs, q1, q2, q3, r⟩ := R.st.slotAt hs
    subst q1 q2
    rw [Post.bind] at P
    refine ⟨.ref p, g1, .inl ⟨rfl, vs, .of q3⟩, ρ, ex, ws, aσ, ah, R.st, P.imp (fun x h1 P ρ1 H1 v1 a1 hp1 r1 => ?_) (fun _ _ k => R.exc k)⟩
    obtain ⟨hl, P⟩ := P.ite
    have R1 := R.go a1 hp1
    have xp : ex p := R.st.own i p g2
    have e1 : H1 p = some (.lst vs) := a1.keep p _ q3 (fun m => R.st.hp.out p m xp)
    have s1 : Stp ρ1 ex H1 ρ1 ex (upd H1 p (.lst (vs ++ [v1]))) := .atEx xp e1
    have r' := r.step (a1.step (ex := ex))
    refine ⟨p, vs, v1, rfl, rfl, e1, by rw [← r.length]; exact hl, ?_⟩
    have hi : i < aσ.length := (List.getElem?_eq_some_iff.mp hs).1
    have S2 : StRel X.K X.mg ρ1 ex ws (aσ.set i (.ol (xs ++ [x]))) h1 σ (upd H1 p (.lst (vs ++ [v1]))) :=
      ⟨hp1.atEx xp e1, by simp [R1.st.len], R1.st.wlen, fun j s u w e1' e2 e3 => by
        by_cases hj : i = j
        · subst hj
          rw [List.getElem?_set_self hi] at e1'
          cases e1'
          rw [g1] at e2; cases e2
          rw [g2] at e3; cases e3
          exact ⟨p, _, rfl, rfl, upd_same, (r'.append (.cons r1 .nil)).step s1⟩
        · rw [List.getElem?_set_ne hj] at e1'
          have q := R1.st.slot j s u w e1' e2 e3
          cases s with
          | un => trivial
          | vl x =>
            obtain ⟨u', e, r⟩ := q
            exact ⟨u', e, r.step s1⟩
          | ol ys =>
            obtain ⟨b, us, f1, f2, f3, r⟩ := q
            subst f2
            exact ⟨b, us, f1, rfl, by rw [upd_ne (fun q => by subst q; exact hj (R1.st.inj i j b g2 e3))]; exact f3, r.step s1⟩, R1.st.own, R1.st.inj⟩
    exact (show FlC X ρ0 ex0 H0 ρ ex H D (.nx _) h1 from P) ρ1 ex ws σ _ ⟨S2, R1.ext.at0 (R.own0 i p g2), R1.exL, R1.own0, R1.in0, R1.ex00⟩ (a1.step.trans s1)
  · exact P.elim
end
end G

set_option Elab.async false
set_option linter.all false
set_option maxRecDepth 100000
set_option maxHeartbeats 4000000
/-! GO: further operations. -/
namespace G
open PySem PySem.Spec PyProof.Rows L2
section
variable {X : Cx} {E : XK} {Φ : CallA} {pos : Pos} {a b e : Expr} {a' b' e' : Exp} {pk : Bool}
/-! ### dicts of one key at most -/
theorem snd_dis0 : PE X (.Dict [] [] pos) (tE X E Φ (.dis [] [])) := by
  refine ⟨fun pins s σ H Q I hq => pe_dnewK.run pins s σ H Q I ?_⟩
  obtain ⟨ρ, ex, ws, aσ, ah, S, P⟩ := hq
  simp only [evE] at P
  obtain ⟨_, P⟩ := P.ite
  intro p np
  exact (show Kok X ρ ex H Q (.dct [] []) ah from P) ρ _ _ (ext_new S.hp np) (hrel_new S.hp np) (.dct (kvs := []) upd_same (fun m => S.hp.ne m np) (fun x => S.hp.exOk p x np) .nil)
theorem snd_dis1 {k : Key} {v : AV} {v' : V} {ek ev : Expr} (hk : PE X ek (tC (kV k))) (hv : PE X ev (tC v')) (r : ∀ ρ ex H, Rep X.K X.mg ρ ex H v v') : PE X (.Dict [some ek] [ev] pos) (tE X E Φ (.dis [k] [v])) := by
  refine ⟨fun pins s σ H Q I hq => (pe_disp (pps_cons hk hv pps_nil) rfl rfl (by simp) (by simp)).run pins s σ H Q I ?_⟩
  obtain ⟨ρ, ex, ws, aσ, ah, S, P⟩ := hq
  simp only [evE] at P
  obtain ⟨_, P⟩ := P.ite
  intro p np
  refine ⟨upd_same, [(k, v')], rfl, by simp, ?_⟩
  have e : upd (upd H p (.dK [])) p (.dK (mergeK [] [(k, v')])) = upd H p (.dK [(k, v')]) := by
    funext b
    by_cases hb : b = p
    · subst hb; rw [upd_same, upd_same]; rfl
    · rw [upd_ne hb, upd_ne hb, upd_ne hb]
  rw [e]
  exact (show Kok X ρ ex H Q (.dct [keyA k] [v]) ah from P) ρ _ _ (ext_new S.hp np) (hrel_new S.hp np) (.dct (kvs := [(k, v')]) upd_same (fun m => S.hp.ne m np) (fun x => S.hp.exOk p x np) (.cons (r _ _ _) .nil))
/-! ### upper -/
theorem mt_upper : MtR X "str.upper" (fun x vs H Q => ∃ z, x = .str z ∧ vs = [] ∧ z.length ≤ 5592405 ∧ Q (.str (Txt.upper z)) H) := by
  intro pins s σ H x xs v us Q I rx rs h
  obtain ⟨z, rfl, rfl, hz, q⟩ := h
  obtain ⟨t, rfl⟩ := rx
  cases rs
  exact PySem.SC.upper (PyProof.Rows.fit_upper hz) ⟨.str _, H, I.tok _, ⟨_, rfl⟩, q⟩
theorem snd_upper {apos : Pos} {o : Expr} (ho : PE X o (tE X E Φ a')) (hbase : attributeBase o "upper" X.env (eval o X.env) = eval o X.env) (hline : (apos.endLine == pos.line) = true) : PE X (.Call (.Attribute o "upper" apos) [] [] pos) (tE X E Φ (.upper a')) := by
  refine ⟨fun pins s σ H Q I hq => (pe_bm0 PySem.F.plainAttrs_str PySem.F.slot_str_upper PySem.F.type_str_upper mt_upper ho hbase hline).run pins s σ H Q I ?_⟩
  obtain ⟨ρ, ex, ws, aσ, ah, S, P⟩ := hq
  simp only [evE, Post.bind] at P
  refine ⟨ρ, ex, ws, aσ, ah, S, P.imp (fun x h1 P ρ1 H1 v1 a1 hp1 r1 => ?_) (fun _ _ k => k)⟩
  cases x <;> (try exact P.elim)
  obtain ⟨c, P⟩ := P.ite
  cases r1
  exact ⟨rfl, _, rfl, rfl, c, ((show Kok X ρ ex H Q _ h1 from P).ext a1).here hp1 (.str _)⟩
/-! ### sorted(set(t)) -/
theorem mem_insS {k j : Int} : ∀ {l : List Int}, j ∈ insS k l ↔ j = k ∨ j ∈ l
  | [] => by simp [insS]
  | x :: xs => by
    unfold insS
    split
    · simp
    · split
      · rename_i e; subst e; simp
      · simp only [List.mem_cons, mem_insS (l := xs)]
        constructor
        · rintro (h | h | h) <;> simp [h]
        · rintro (h | h | h) <;> simp [h]
theorem mem_sortSet {j : Int} : ∀ {l : List Int}, j ∈ sortSet l ↔ j ∈ l
  | [] => by simp [sortSet]
  | x :: xs => by
    show j ∈ insS x (sortSet xs) ↔ _
    rw [mem_insS, mem_sortSet, List.mem_cons]
theorem insS_lt {k : Int} : ∀ {l : List Int}, l.Pairwise (· < ·) → (insS k l).Pairwise (· < ·)
  | [], _ => by simp [insS]
  | x :: xs, h => by
    rw [List.pairwise_cons] at h
    unfold insS
    split
    · rename_i c
      rw [List.pairwise_cons]
      refine ⟨fun y hy => ?_, List.pairwise_cons.mpr h⟩
      rcases List.mem_cons.mp hy with e | e
      · rw [e]; exact c
      · exact Int.lt_trans c (h.1 y e)
    · split
      · exact List.pairwise_cons.mpr h
      · rw [List.pairwise_cons]
        refine ⟨fun y hy => ?_, insS_lt h.2⟩
        rcases mem_insS.mp hy with e | e
        · subst e; omega
        · exact h.1 y e
theorem sortSet_lt : ∀ l : List Int, (sortSet l).Pairwise (· < ·)
  | [] => by simp [sortSet]
  | x :: xs => insS_lt (sortSet_lt xs)
theorem rising_eq : ∀ {l m : List Int}, l.Pairwise (· < ·) → m.Pairwise (· < ·) → (∀ k, k ∈ l ↔ k ∈ m) → l = m
  | [], [], _, _, _ => rfl
  | [], y :: ys, _, _, h => by have := (h y).mpr (by simp); simp at this
  | x :: xs, [], _, _, h => by have := (h x).mp (by simp); simp at this
  | x :: xs, y :: ys, hl, hm, h => by
    rw [List.pairwise_cons] at hl hm
    have e : x = y := by
      have h1 := (h x).mp (by simp)
      have h2 := (h y).mpr (by simp)
      rcases List.mem_cons.mp h1 with e | e
      · exact e
      · rcases List.mem_cons.mp h2 with e' | e'
        · exact e'.symm
        · exact absurd (Int.lt_trans (hl.1 y e') (hm.1 x e)) (Int.lt_irrefl _)
    subst e
    rw [rising_eq hl.2 hm.2 fun k => ?_]
    constructor
    · intro hk
      rcases List.mem_cons.mp ((h k).mp (List.mem_cons_of_mem _ hk)) with e | e
      · subst e; exact absurd (hl.1 k hk) (Int.lt_irrefl _)
      · exact e
    · intro hk
      rcases List.mem_cons.mp ((h k).mpr (List.mem_cons_of_mem _ hk)) with e | e
      · subst e; exact absurd (hm.1 k hk) (Int.lt_irrefl _)
      · exact e
theorem intsOf_map : ∀ {xs : List AV} {bs : List Int}, intsOf xs = some bs → xs = bs.map AV.int
  | [], _, e => by cases e; rfl
  | x :: xs, bs, e => by
    cases x <;> simp only [intsOf, Option.map_eq_some_iff, reduceCtorEq] at e
    obtain ⟨bs', e1, rfl⟩ := e
    rw [intsOf_map e1]; rfl
theorem cr_setTup (hc : X.calm = true) : CallR X (.type "set") (fun vs H Q => ∃ (p : Addr) (ns : List Int), vs = [.ref p] ∧ SqT X.K H p (ns.map V.int) ∧ ns.length < 64 ∧ ∀ (q : Addr) (c : Nat), H q = none → c ≤ ns.length → Q (.ref q) (upd H q (SetO X.w q (fun j => decide (j ∈ ns)) c))) := by
  intro pins s σ H vs us Q I r h
  obtain ⟨p, ns, rfl, sq, hl, q⟩ := h
  obtain ⟨u, rfl, ru⟩ := Vals.one' r
  cases ru
  obtain ⟨its, rv, pt, hz⟩ := I.tuple sq
  refine call_set_tupI ns (I.ok.hd hc) (show s.heap.IsTuple p its.toArray from pt) (ints_of_vals rv) (by unfold scanBound; omega) fun h' tk c R1 hcn k => ?_
  have hf : H s.heap.objs.size = none := I.hok.fresh (Nat.le_refl _)
  exact ⟨.ref _, _, I.laid (a := s.heap.objs.size) (o := SetO X.w s.heap.objs.size (fun j => decide (j ∈ ns)) c) (t' := tk) k (Nat.le_refl _) (setO_new R1), rfl, q _ c hf hcn⟩
theorem snd_sset {p1 p2 p3 : Pos} (hk : Ok X) (hg1 : Gl X "sorted") (hm1 : X.mg "sorted" = none) (hg2 : Gl X "set") (hm2 : X.mg "set" = none) (ha : PE X a (tE X E Φ a')) (hst : starEach [a] X.env = (false, eval a X.env) :: starEach [] X.env) :
    PE X (.Call (.Name "sorted" p1) [.Call (.Name "set" p2) [a] [] p3] [] pos) (tE X E Φ (.sset a')) := by
  refine ⟨fun pins s σ H Q I hq => (pe_callB (cr_sortedSet hk.calm) hg1 hm1 (bi_bootS) (pa_cons (pe_callTy (cr_setTup hk.calm) hg2 hm2 PyProof.Rows.boot_set (pa_cons ha pa_nil hst) (by decide) (by decide) hst) pa_nil)).run pins s σ H Q I ?_⟩
  obtain ⟨ρ, ex, ws, aσ, ah, S, P⟩ := hq
  simp only [evE, Post.bind] at P
  refine ⟨ρ, ex, ws, aσ, ah, S, P.imp (fun x h1 P ρ1 H1 v1 a1 hp1 r1 => ?_) (fun _ _ k => k)⟩
  cases x <;> (try exact P.elim)
  rename_i xs
  simp only at P
  split at P
  · rename_i ns hns
    obtain ⟨c, P⟩ := P.ite
    obtain rfl := intsOf_map hns
    cases r1 with
    | tup sq rs =>
      obtain rfl := rs.ints
      refine ⟨_, ns, rfl, sq, c, fun q cn nq hc => ?_⟩
      have a2 := ext_new (X := X) (o := SetO X.w q (fun j => decide (j ∈ ns)) cn) hp1 nq
      have hp2 := hrel_new (X := X) (o := SetO X.w q (fun j => decide (j ∈ ns)) cn) hp1 nq
      refine ⟨q, _, cn, rfl, upd_same, by omega, fun ms p hlt hmem hlen np => ?_⟩
      obtain rfl : ms = sortSet ns := rising_eq hlt (sortSet_lt ns) fun k => by rw [hmem, mem_sortSet, decide_eq_true_eq]
      exact ((show Kok X ρ ex H Q _ h1 from P).ext (a1.trans a2)).lst hp2 (ints_reps _) p np
  · exact P.elim
where
  bi_bootS : bootBuiltins "sorted" = some (.builtin "sorted") := by decide +kernel
  ints_reps {K : PySem.W.Frag} {mg : Str → Option Value} {ρ : List Addr} {ex : Addr → Prop} {H : Hp} : ∀ ns : List Int, Reps K mg ρ ex H (ns.map AV.int) (ns.map V.int)
    | [] => .nil
    | n :: ns => .cons (.int n) (ints_reps ns)
/-! ### zip -/
theorem zipA_length : ∀ (xs ys : List AV), (zipA xs ys).length = min xs.length ys.length
  | [], ys => by cases ys <;> simp [zipA]
  | x :: xs, [] => by simp [zipA]
  | x :: xs, y :: ys => by simp only [zipA, List.length_cons, zipA_length xs ys]; omega
theorem zipA_get : ∀ {xs ys : List AV} {i : Nat} {z : AV}, (zipA xs ys)[i]? = some z → ∃ x y, xs[i]? = some x ∧ ys[i]? = some y ∧ z = .tup [x, y]
  | [], ys, _, _, e => by cases ys <;> simp [zipA] at e
  | x :: xs, [], _, _, e => by simp [zipA] at e
  | x :: xs, y :: ys, 0, z, e => by
    simp only [zipA, List.getElem?_cons_zero, Option.some.injEq] at e
    exact ⟨x, y, rfl, rfl, e.symm⟩
  | x :: xs, y :: ys, i + 1, z, e => by
    simp only [zipA, List.getElem?_cons_succ] at e
    obtain ⟨x', y', h1, h2, h3⟩ := zipA_get e
    exact ⟨x', y', by simpa using h1, by simpa using h2, h3⟩
theorem walk_zipT {K : PySem.W.Frag} {a b : Addr} {xs ys : List V} {n : Nat} (hn : n = min xs.length ys.length) : Walk (RZ.ItzT K a b) n (fun H => SqT K H a xs ∧ SqT K H b ys) (YPair (fun i => xs[i]?) (fun i => ys[i]?)) := by
  subst hn
  refine ⟨fun i _ hi q => ?_, fun _ q => ⟨xs, ys, q.1, q.2, by omega⟩, fun i H v H' _ q y => ?_⟩
  · have h1 : i < xs.length := by omega
    have h2 : i < ys.length := by omega
    exact ⟨xs, ys, xs[i], ys[i], q.1, q.2, by simp [h1], by simp [h2]⟩
  · obtain ⟨T, x, z, h1, h2, h3, h4, h5⟩ := y
    exact ⟨T, x, z, h1, h2, h3, h4 xs q.1, h5 ys q.2⟩
/-- two in a row that are walked -/
def tK2 (X : Cx) (E : XK) (Φ : CallA) (pk : Bool) (a b : Exp) : TA := fun σ H Q => tK X E Φ pk a σ H fun x H1 => tK X E Φ pk b σ H1 fun y H2 => Q [x, y] H2
theorem si_zp {elts : List Expr} {kk : Nat} {tpos p : Pos} (hg : Gl X "zip") (hm : X.mg "zip" = none) (ha : PE X a (tK X E Φ pk a')) (hb : PE X b (tK X E Φ pk b')) (hs : starEach [a, b] X.env = (false, eval a X.env) :: starEach [b] X.env) (hs2 : starEach [b] X.env = (false, eval b X.env) :: starEach [] X.env) :
    PI X (.Tuple elts kk tpos) (.Call (.Name "zip" p) [a, b] [] pos) (tI X E Φ pk (.zp a' b')) := by
  refine ⟨fun pins s σ H R I hq => (RZ.pi_zipA hg hm (pa_cons ha (pa_cons hb pa_nil hs2) hs) hs (by rw [hs2]; rfl)).run pins s σ H R I ?_⟩
  obtain ⟨ρ, ex, ws, aσ, ah, S, P⟩ := hq
  simp only [evI, Post.bind] at P
  refine ⟨ρ, ex, ws, aσ, ah, S, P.imp (fun x h1 P ρ1 H1 v1 a1 hp1 r1 w1 => ?_) (fun _ _ k => k)⟩
  refine ⟨ρ1, ex, ws, aσ, h1, S.ext a1 hp1, P.imp (fun y h2 P ρ2 H2 v2 a2 hp2 r2 w2 => ?_) (fun _ _ k => k.ext a1)⟩
  obtain ⟨zs, ez, P⟩ := P.lift
  have P : KoI X pk ρ ex H R zs h2 := P
  have r1' : pk = false → Rep X.K X.mg ρ2 ex H2 x v1 := fun q => (r1 q).step a2.step
  have w1' := w1.step a2
  have yy : ∀ {xs ys : List AV} {vs us : List V} {G : Hp → Prop}, Reps X.K X.mg ρ2 ex H2 xs vs → Reps X.K X.mg ρ2 ex H2 ys us → ∀ i x ρ' ex' ah' H' v H'', (zipA xs ys)[i]? = some x → Sta pk ρ2 ex H2 ρ' ex' H' → HRel X.K X.mg ρ' ex' ah' H' → YPair (fun i => vs[i]?) (fun i => us[i]?) i H' v H'' → Ext ρ' H' ρ' H'' ∧ HRel X.K X.mg ρ' ex' ah' H'' ∧ Rep X.K X.mg ρ' ex' H'' x v :=
    fun {xs ys vs us G} rx ry i x ρ' ex' ah' H' v H'' e st hp y => by
      obtain ⟨T, x0, y0, rfl, nT, rfl, e1, e2⟩ := y
      obtain ⟨xa, ya, f1, f2, rfl⟩ := zipA_get e
      obtain ⟨x1, g1, q1⟩ := rx.get f1
      obtain ⟨y1, g2, q2⟩ := ry.get f2
      simp only at e1 e2
      rw [g1] at e1; cases e1
      rw [g2] at e2; cases e2
      have an := ext_new (X := X) (o := .tup [x0, y0]) hp nT
      exact ⟨an, hrel_new hp nT, .tup (.inl (.inl upd_same)) (.cons ((q1.step st.1).step an.step) (.cons ((q2.step st.1).step an.step) .nil))⟩
  cases x <;> (try (simp only [zipK, reduceCtorEq] at ez; done))
  · rename_i xs
    cases y <;> (try (simp only [zipK, reduceCtorEq] at ez; done))
    rename_i ys
    simp only [zipK, Option.some.injEq] at ez
    subst ez
    cases w1'.rep (fun _ q => by cases q) with
    | @tup p1 _ vs s1 rx =>
      cases w2.rep (fun _ q => by cases q) with
      | @tup p2 _ us s2 ry =>
        refine ⟨p1, p2, vs, us, rfl, .inr ⟨s1, s2, P ρ2 H2 _ (fun H => SqT X.K H p1 vs ∧ SqT X.K H p2 us) (YPair (fun i => vs[i]?) (fun i => us[i]?)) (a1.trans a2) hp2 ⟨walk_zipT (by rw [zipA_length, rx.length, ry.length]), fun ρ' ex' H' st => ⟨st.1.sqT s1, st.1.sqT s2⟩, yy (G := fun _ => True) rx ry⟩⟩⟩
  · rename_i xs
    cases y <;> (try (simp only [zipK, reduceCtorEq] at ez; done))
    rename_i ys
    simp only [zipK, Option.some.injEq] at ez
    subst ez
    have one : ∀ {zs : List AV} {v : V}, (pk = false → Rep X.K X.mg ρ2 ex H2 (.lst zs) v) → RepW X.K X.mg ρ2 ex H2 (.lst zs) v → ∃ p vs, v = .ref p ∧ SqL X.K H2 p vs ∧ Reps X.K X.mg ρ2 ex H2 zs vs ∧ ∀ ρ' ex' H', Sta pk ρ2 ex H2 ρ' ex' H' → SqL X.K H' p vs := fun {zs v} h1 h2 => by
      by_cases hr : Rep X.K X.mg ρ2 ex H2 (.lst zs) v
      · cases hr with
        | @lst p _ vs e1 n1 x1 rs => exact ⟨p, vs, rfl, .of e1, rs, fun ρ' ex' H' st => .of (st.1.val _ _ e1 n1 x1).1⟩
      · cases pk with
        | false => exact absurd (h1 rfl) hr
        | true =>
          obtain ⟨p, vs, e1, e2, n, rs⟩ := h2.lst
          exact ⟨p, vs, e1, .of e2, rs, fun ρ' ex' H' st => .of ((st.2 rfl).keep _ _ e2 n)⟩
    obtain ⟨p1, vs, rfl, s1, rx, g1⟩ := one r1' w1'
    obtain ⟨p2, us, rfl, s2, ry, g2⟩ := one r2 w2
    exact ⟨p1, p2, vs, us, rfl, .inl ⟨s1, s2, P ρ2 H2 _ (fun H => SqL X.K H p1 vs ∧ SqL X.K H p2 us) (YPair (fun i => vs[i]?) (fun i => us[i]?)) (a1.trans a2) hp2 ⟨walk_zip (by rw [zipA_length, rx.length, ry.length]), fun ρ' ex' H' st => ⟨g1 ρ' ex' H' st, g2 ρ' ex' H' st⟩, yy (G := fun _ => True) rx ry⟩⟩⟩
end
end G

set_option Elab.async false
set_option linter.all false
set_option maxRecDepth 100000
set_option maxHeartbeats 4000000
/-! GK: the check that a text of the small language is the program's text, and what follows from it. -/
namespace G
open PySem PySem.Spec PyProof.Rows L2

/-- a def that may be called: its name in the table, its parameters, the shapes of its calls by keywords (how many by place, the keywords, where each parameter's value stands) -/
structure FnI where
  key : Str
  ps : List Str
  kw : List Sh := []
/-- what the check knows -/
structure CK where
  N : List Str
  sc : Scope
  fnok : Str → Bool
  bl : List Str
  cs : List (Str × AV)
  fs : List (Str × FnI)
def CK.blk (Γ : CK) (scope : Scope) : CK := { Γ with sc := relS scope Γ.sc, fnok := fun x => scope.names.lookup x == some .cell }

/-! ### small checks -/
def visB (Γ : CK) (x : Str) : Bool := match Γ.sc.names.lookup x with
  | some .local => true
  | some .cell => true
  | some .free => true
  | _ => false
def locB (Γ : CK) (x : Str) : Bool := match Γ.sc.names.lookup x with
  | some .local => true
  | some .cell => Γ.fnok x
  | _ => false
def glB (Γ : CK) (x : Str) : Bool := match Γ.sc.names.lookup x with
  | some .globalImplicit => !(x == ("__debug__" : Str)) && !(x == ("__name__" : Str))
  | _ => false
def varB (Γ : CK) (i : Nat) (x : Str) : Bool := (Γ.N[i]? == some x) && visB Γ x && !(x == ("__debug__" : Str)) && !(x == ("__classdict__" : Str))
def storeB (Γ : CK) (i : Nat) (x : Str) : Bool := (Γ.N[i]? == some x) && locB Γ x
def blB (Γ : CK) (x : Str) : Bool := glB Γ x && Γ.bl.contains x
def isB : BOp → Operator → Bool
  | .add, .Add => true
  | .sub, .Sub => true
  | .mul, .Mult => true
  | .fdiv, .FloorDiv => true
  | .mod, .Mod => true
  | .pow, .Pow => true
  | _, _ => false
def isC : COp → CmpOp → Bool
  | .lt, .Lt => true
  | .le, .LtE => true
  | .gt, .Gt => true
  | .ge, .GtE => true
  | .eq, .Eq => true
  | .ne, .NotEq => true
  | .is, .Is => true
  | .isn, .IsNot => true
  | .mem, .In => true
  | .nmem, .NotIn => true
  | _, _ => false
theorem isB_ok {o : BOp} {p : Operator} (h : isB o p = true) : p = pyB o := by cases o <;> cases p <;> first | rfl | cases h
theorem isC_ok {o : COp} {p : CmpOp} (h : isC o p = true) : p = pyC o := by cases o <;> cases p <;> first | rfl | cases h
def ckK : AV → Const → Bool
  | .int i, .int j => i == j
  | .bl a, .bool b => a == b
  | .non, .none => true
  | .str x, .str y => x == y
  | _, _ => false
mutual
def avEq : AV → AV → Bool
  | .non, .non => true
  | .bl a, .bl b => a == b
  | .int a, .int b => a == b
  | .str a, .str b => a == b
  | .tup a, .tup b => avEqs a b
  | _, _ => false
def avEqs : List AV → List AV → Bool
  | [], [] => true
  | a :: as, b :: bs => avEq a b && avEqs as bs
  | _, _ => false
end
mutual
theorem avEq_ok : ∀ {a b : AV}, avEq a b = true → a = b
  | .non, b, h => by cases b <;> first | rfl | (simp [avEq] at h)
  | .bl a, b, h => by cases b <;> simp [avEq] at h; rw [h]
  | .int a, b, h => by cases b <;> simp [avEq] at h; rw [h]
  | .str a, b, h => by cases b <;> simp [avEq] at h; rw [h]
  | .tup a, b, h => by
    cases b <;> simp only [avEq, Bool.false_eq_true, reduceCtorEq] at h
    rw [avEqs_ok h]
  | .lst _, b, h => by simp [avEq] at h
  | .dct _ _, b, h => by simp [avEq] at h
  | .ref _, b, h => by simp [avEq] at h
  | .fn _, b, h => by simp [avEq] at h
  | .scr _, b, h => by simp [avEq] at h
theorem avEqs_ok : ∀ {a b : List AV}, avEqs a b = true → a = b
  | [], b, h => by cases b <;> first | rfl | (simp [avEqs] at h)
  | a :: as, b, h => by
    cases b <;> simp only [avEqs, Bool.false_eq_true, Bool.and_eq_true, reduceCtorEq] at h
    rw [avEq_ok h.1, avEqs_ok h.2]
end
def biName : Bi → Str
  | .len => "len"
  | .all => "all"
  | .any => "any"
  | .sum => "sum"
  | .min => "min"
  | .max => "max"
  | .sorted => "sorted"
  | .tuple => "tuple"
  | .list => "list"
  | .str => "str"
  | .int => "int"
  | .repr => "repr"
  | .bool => "bool"
theorem bi_boot (f : Bi) : bootBuiltins (biName f) = some (biId f) := by cases f <;> decide +kernel
theorem ty_boot (t : Ty) : bootBuiltins (Str.ofString (tyN t)) = some (.type (tyN t)) := by cases t <;> decide +kernel
def tyB (Γ : CK) (t : Ty) : Expr → Bool
  | .Name x _ => x == Str.ofString (tyN t) && blB Γ x
  | _ => false
def tysB (Γ : CK) : List Ty → List Expr → Bool
  | [], [] => true
  | t :: ts, e :: es => tyB Γ t e && tysB Γ ts es
  | _, _ => false
def plainIxB : Expr → Bool
  | .Slice _ _ _ _ => false
  | _ => true
def noSet : Expr → Bool
  | .Set _ _ _ => false
  | _ => true
/-- an expression whose test is its value's truth -/
def plainT : Expr → Bool
  | .UnaryOp .Not _ _ => false
  | .BoolOp _ _ _ => false
  | .IfExp _ _ _ _ => false
  | .Compare _ _ _ _ => false
  | _ => true
def one1 : Expr → Bool
  | .UnaryOp .USub (.Constant (.int i) _ _) _ => i == 1
  | _ => false
def isVar : Exp → Bool
  | .var _ => true
  | _ => false
/-- a comprehension's block -/
def blkB (N : List Str) (sc scope : Scope) (own : List (Str × Nat)) : Bool :=
  (scope.kind == .function) && scope.names.all (fun y => scope.names.lookup y.1 == some y.2) && own.all (fun p => N[p.2]? == some p.1)
    && scope.names.all (fun y => !(y.2 == .free) || (sc.names.lookup y.1 == some .cell || sc.names.lookup y.1 == some .free))
    && scope.names.all (fun y => !(y.2 == .local || y.2 == .cell) || ((own.map (·.1)).contains y.1 || !(N.contains y.1)))
theorem blkB_ok {N : List Str} {sc scope : Scope} {own : List (Str × Nat)} (h : blkB N sc scope own = true) : BlkOk N sc scope own := by
  simp only [blkB, Bool.and_eq_true, List.all_eq_true, beq_iff_eq, Bool.or_eq_true, Bool.not_eq_true', List.contains_iff_mem, beq_eq_false_iff_ne, ne_eq] at h
  obtain ⟨⟨⟨⟨h1, h2⟩, h3⟩, h4⟩, h5⟩ := h
  refine ⟨h1, h2, h3, fun y hy e => ?_, fun y hy e => ?_⟩
  · rcases h4 y hy with q | q
    · exact absurd e q
    · exact q
  · rcases h5 y hy with q | q
    · exact absurd e (by simpa using q)
    · rcases q with q | q
      · exact .inl q
      · exact .inr (by simpa using q)
def ownOf (N : List Str) (vs : List Nat) : List (Str × Nat) := vs.map fun i => (N.getD i ⟨#[]⟩, i)
theorem ownOf_map (N : List Str) (vs : List Nat) : (ownOf N vs).map (·.2) = vs := by
  unfold ownOf; rw [List.map_map]; exact List.map_id _

/-! ### the check -/
mutual
def ckG (Γ : CK) : Tgt → Expr → Bool
  | .nm i, e => (match e with
    | .Name x _ => storeB Γ i x
    | _ => false)
  | .tp ts, e => (match e with
    | .Tuple es _ _ => ckGs Γ ts es
    | _ => false)
def ckGs (Γ : CK) : List Tgt → List Expr → Bool
  | [], [] => true
  | t :: ts, e :: es => noStar e && ckG Γ t e && ckGs Γ ts es
  | _, _ => false
end
mutual
def ckE : Nat → CK → Exp → Expr → Bool
  | 0, _, _, _ => false
  | n + 1, Γ, e', e => match e' with
    | .c v => (match e with
      | .Constant k _ _ => ckK v k
      | .Name x _ => glB Γ x && (match Γ.cs.lookup x with
        | some w => avEq w v
        | none => false)
      | _ => false)
    | .var i => (match e with
      | .Name x _ => varB Γ i x
      | _ => false)
    | .bin o a b => (match e with
      | .BinOp pa op pb _ => isB o op && ckE n Γ a pa && ckE n Γ b pb
      | _ => false)
    | .neg a => (match e with
      | .UnaryOp .USub pa _ => ckE n Γ a pa
      | _ => false)
    | .not a => (match e with
      | .UnaryOp .Not pa _ => ckE n Γ a pa
      | _ => false)
    | .and a b => (match e with
      | .BoolOp .And (pa :: pb :: r) _ => ckE n Γ a pa && ckB n Γ false b (pb :: r)
      | _ => false)
    | .or a b => (match e with
      | .BoolOp .Or (pa :: pb :: r) _ => ckE n Γ a pa && ckB n Γ true b (pb :: r)
      | _ => false)
    | .cmp o a b => (match e with
      | .Compare pa [op] [pb] _ => isC o op && !(behindInMarks op pb) && ckP n Γ a pa && ckP n Γ b pb
      | _ => false)
    | .chain o p a b c => (match e with
      | .Compare pa [op, oq] [pb, pc] _ => isC o op && isC p oq && !(lastMarks [op, oq] [pb, pc]) && ckE n Γ a pa && ckE n Γ b pb && ckE n Γ c pc
      | _ => false)
    | .ife t a b => (match e with
      | .IfExp pt pa pb _ => ckT n Γ t pt && ckE n Γ a pa && ckE n Γ b pb
      | _ => false)
    | .isi a ts => (match e with
      | .Call (.Name f _) [pa, pt] [] _ => (f == ("isinstance" : Str)) && blB Γ f && noStar pa && ckE n Γ a pa && (match ts with
        | [t] => tyB Γ t pt
        | ts => (match pt with
          | .Tuple es _ _ => decide (ts.length ≤ 64) && !ts.isEmpty && tysB Γ ts es
          | _ => false))
      | _ => false)
    | .tup es => (match e with
      | .Tuple ps _ _ => ckEs n Γ es ps
      | _ => false)
    | .lst es => ckL n Γ (.lst es) e
    | .comp c => ckL n Γ (.comp c) e
    | .cell a => ckL n Γ a e
    | .sub a i => (match e with
      | .Subscript pa pi _ => plainIxB pi && ckP n Γ a pa && ckE n Γ i pi
      | _ => false)
    | .slice a lo hi => (match e with
      | .Subscript pa (.Slice plo phi none _) _ => ckP n Γ a pa && ckO n Γ lo plo && ckO n Γ hi phi
      | _ => false)
    | .rev a => (match e with
      | .Subscript pa (.Slice none none (some (.UnaryOp .USub (.Constant (.int 1) _ _) _)) _) _ => ckP n Γ a pa
      | _ => false)
    | .call f es => (match e with
      | .Call (.Name x _) [] [] _ => glB Γ x && (match Γ.fs.lookup x with
        | some i => i.key == f && i.ps.length == 0 && es.isEmpty
        | none => false)
      | .Call (.Name x _) (pa :: ps) [] _ => glB Γ x && (match Γ.fs.lookup x with
        | some i => i.key == f && i.ps.length == (pa :: ps).length && es.length == (pa :: ps).length
        | none => false) && (pa :: ps).all noStar && ckEs n Γ es (pa :: ps)
      | _ => false)
    | .callK f es ix => (match e with
      | .Call (.Name x _) pas (kw :: kws) _ => glB Γ x && (match Γ.fs.lookup x with
        | some i => i.key == f && i.ps.length == ix.length && i.kw.any (fun sh => sh.n == pas.length && sh.ks == (kw :: kws).filterMap (·.arg) && sh.ix == ix)
        | none => false) && pas.all noStar && (kw :: kws).all (fun k => k.arg.isSome) && ckEs n Γ (es.take pas.length) pas && ckKw n Γ (es.drop pas.length) (kw :: kws)
      | _ => false)
    | .dis ks vs => (match ks, vs, e with
      | [], [], .Dict [] [] _ => true
      | [k], [v], .Dict [some (.Constant ck _ _)] [.Constant cv _ _] _ => ckK (keyA k) ck && ckK v cv
      | _, _, _ => false)
    | .upper a => (match e with
      | .Call (.Attribute (.Name x q) m apos) [] [] cpos => m == ("upper" : Str) && (apos.endLine == cpos.line) && ckE n Γ a (.Name x q)
      | _ => false)
    | .sset a => (match e with
      | .Call (.Name f _) [.Call (.Name g _) [pa] [] _] [] _ => f == ("sorted" : Str) && g == ("set" : Str) && blB Γ f && blB Γ g && noStar pa && ckE n Γ a pa
      | _ => false)
    | .bi f es => (match e with
      | .Call (.Name x _) (pa :: ps) [] _ => x == biName f && blB Γ x && (pa :: ps).all noStar && ckPs n Γ es (pa :: ps)
      | _ => false)
/-- a list of one's own -/
def ckL : Nat → CK → Exp → Expr → Bool
  | 0, _, _, _ => false
  | n + 1, Γ, e', e => match e' with
    | .lst es => (match e with
      | .List ps _ => ckEs n Γ es ps
      | _ => false)
    | .bi .list [a] => (match e with
      | .Call (.Name x _) [pa] [] _ => x == ("list" : Str) && blB Γ x && noStar pa && ckPs n Γ [a] [pa]
      | _ => false)
    | .comp (.cl tg it ifs (.elt a)) => (match e with
      | .ListComp pe [⟨ptg, pit, pifs, 0⟩] scope _ => noSet pit && blkB Γ.N Γ.sc scope (ownOf Γ.N (tgSlots tg)) && ckI n Γ it pit ptg && ckG (Γ.blk scope) tg ptg && ckF n (Γ.blk scope) ifs pifs && ckE n (Γ.blk scope) a pe
      | _ => false)
    | .comp (.cl tg it ifs (.cl tg1 it1 ifs1 (.elt a))) => (match e with
      | .ListComp pe [⟨ptg, pit, pifs, 0⟩, ⟨ptg1, pit1, pifs1, 0⟩] scope _ => noSet pit && noSet pit1 && blkB Γ.N Γ.sc scope (ownOf Γ.N (tgSlots tg ++ tgSlots tg1)) && ckI n Γ it pit ptg && ckG (Γ.blk scope) tg ptg && ckF n (Γ.blk scope) ifs pifs
          && ckI n (Γ.blk scope) it1 pit1 ptg1 && ckG (Γ.blk scope) tg1 ptg1 && ckF n (Γ.blk scope) ifs1 pifs1 && ckE n (Γ.blk scope) a pe
      | _ => false)
    | _ => false
/-- what is only looked into -/
def ckP : Nat → CK → Exp → Expr → Bool
  | 0, _, _, _ => false
  | n + 1, Γ, e', e => match e' with
    | .var i => (match e with
      | .Name x _ => varB Γ i x
      | _ => false)
    | e' => ckE n Γ e' e
/-- the rest of a row of and, of or -/
def ckB : Nat → CK → Bool → Exp → List Expr → Bool
  | 0, _, _, _, _ => false
  | n + 1, Γ, k, e', es => match es with
    | [] => false
    | [p] => ckE n Γ e' p
    | p :: q :: r => (match k, e' with
      | false, .and a b => ckE n Γ a p && ckB n Γ false b (q :: r)
      | true, .or a b => ckE n Γ a p && ckB n Γ true b (q :: r)
      | _, _ => false)
def ckT : Nat → CK → Tst → Expr → Bool
  | 0, _, _, _ => false
  | n + 1, Γ, t, e => match t with
    | .e a => (match a, e with
      | .cmp o a b, .Compare pa [op] [pb] _ => isC o op && !(behindInMarks op pb) && ckP n Γ a pa && ckP n Γ b pb
      | .chain o p a b c, .Compare pa [op, oq] [pb, pc] _ => isC o op && isC p oq && !(lastMarks [op, oq] [pb, pc]) && ckE n Γ a pa && ckE n Γ b pb && ckE n Γ c pc
      | a, e => plainT e && ckP n Γ a e)
    | .not a => (match e with
      | .UnaryOp .Not pa _ => ckT n Γ a pa
      | _ => false)
    | t => (match e with
      | .BoolOp .And ps _ => ckW n Γ false t ps
      | .BoolOp .Or ps _ => ckW n Γ true t ps
      | _ => false)
def ckW : Nat → CK → Bool → Tst → List Expr → Bool
  | 0, _, _, _, _ => false
  | n + 1, Γ, k, t, es => match es with
    | [] => false
    | [p] => ckT n Γ t p
    | p :: q :: r => (match k, t with
      | false, .and a b => ckT n Γ a p && ckW n Γ false b (q :: r)
      | true, .or a b => ckT n Γ a p && ckW n Γ true b (q :: r)
      | _, _ => false)
def ckEs : Nat → CK → List Exp → List Expr → Bool
  | 0, _, _, _ => false
  | n + 1, Γ, es', es => match es', es with
    | [], [] => true
    | a :: as, p :: ps => noStar p && ckE n Γ a p && ckEs n Γ as ps
    | _, _ => false
def ckPs : Nat → CK → List Exp → List Expr → Bool
  | 0, _, _, _ => false
  | n + 1, Γ, es', es => match es', es with
    | [], [] => true
    | a :: as, p :: ps => noStar p && ckP n Γ a p && ckPs n Γ as ps
    | _, _ => false
def ckO : Nat → CK → Option Exp → Option Expr → Bool
  | 0, _, _, _ => false
  | n + 1, Γ, a, p => match a, p with
    | none, none => true
    | some a, some p => ckE n Γ a p
    | _, _ => false
def ckF : Nat → CK → List Tst → List Expr → Bool
  | 0, _, _, _ => false
  | n + 1, Γ, ts, es => match ts, es with
    | [], [] => true
    | [t], [e] => ckT n Γ t e
    | _, _ => false
def ckKw : Nat → CK → List Exp → List Keyword → Bool
  | 0, _, _, _ => false
  | n + 1, Γ, es, kws => match es, kws with
    | [], [] => true
    | a :: as, ⟨_, e, _⟩ :: kws => ckE n Γ a e && ckKw n Γ as kws
    | _, _ => false
def ckI : Nat → CK → Itr → Expr → Expr → Bool
  | 0, _, _, _, _ => false
  | n + 1, Γ, i, e, tg => match i with
    | .sq a => ckP n Γ a e && ckE n Γ a e
    | .rg a b => (match e with
      | .Call (.Name x _) [pa, pb] [] _ => x == ("range" : Str) && blB Γ x && noStar pa && noStar pb && ckE n Γ a pa && ckE n Γ b pb
      | .Call (.Name x _) [pb] [] _ => x == ("range" : Str) && blB Γ x && noStar pb && (match a with
        | .c (.int 0) => true
        | _ => false) && ckE n Γ b pb
      | _ => false)
    | .zp a b => (match e, tg with
      | .Call (.Name x _) [pa, pb] [] _, .Tuple _ _ _ => x == ("zip" : Str) && blB Γ x && noStar pa && noStar pb && ckP n Γ a pa && ckE n Γ a pa && ckP n Γ b pb && ckE n Γ b pb
      | _, _ => false)
    | _ => false
end
end G

set_option Elab.async false
set_option linter.all false
set_option maxRecDepth 100000
set_option maxHeartbeats 8000000
/-! GL: what the check gives, expressions. -/
namespace G
open PySem PySem.Spec PyProof.Rows L2

structure CxOk (Γ : CK) (CX : CXT) (Wr : XK → Prop) (E : XK) (Φ : CallA) (X : Cx) : Prop where
  ok : Ok X
  N : X.N = Γ.N
  sc : X.env.scope = Γ.sc
  kind : Γ.sc.kind = .function
  fn : ∀ x, Γ.fnok x = true → X.fn x = true
  bl : ∀ x ∈ Γ.bl, X.mg x = none
  cs : ∀ x v, Γ.cs.lookup x = some v → ∃ u v', X.mg x = some u ∧ RelV v' u ∧ ∀ ρ ex H, Rep X.K X.mg ρ ex H v v'
  fs : ∀ x i, Γ.fs.lookup x = some i → ∃ f fd k, X.mg x = some (.ref f) ∧ PySem.W.keepIn X.K (.ref f) = true ∧ Room k X.A ∧ FnG X.prog X.w X.K X.mg X.base CX k f fd i.ps (spG X.K X.mg Wr Φ i.key i.ps.length) ∧ Binds X.K fd i.ps [] ∧ ∀ sh ∈ i.kw, KBn X.K fd i.ps sh.n sh.ks (shG sh) (shV sh)
  pass : Passes CX X E
  wr : Wr E
  wrn : Wr noE
  no : ∀ outer H s e s', CX outer H s noE e s' → False

theorem CxOk.blk {Γ : CK} {CX : CXT} {Wr : XK → Prop} {E : XK} {Φ : CallA} {X : Cx} (C : CxOk Γ CX Wr E Φ X) {scope : Scope} (hk : scope.kind = .function) (s : Shared) (H : Hp) (D : Addr) (cl : List (Str × Addr)) (fp : List Addr) :
    CxOk (Γ.blk scope) CX Wr noE Φ (X.blk s H scope (compEnvC scope cl D X.env) fp) :=
  ⟨⟨C.ok.calm, C.ok.nd, C.ok.un, C.ok.gd, C.ok.sm⟩, C.N, by show relS scope X.env.scope = relS scope Γ.sc; rw [C.sc], hk, fun x h => h, C.bl, C.cs, C.fs, fun pins σ H s e s' I h => C.no _ _ _ _ _ h, C.wrn, C.wrn, C.no⟩

section
variable {Γ : CK} {CX : CXT} {Wr : XK → Prop} {E : XK} {Φ : CallA} {X : Cx}
theorem CxOk.vis (C : CxOk Γ CX Wr E Φ X) {x : Str} (h : visB Γ x = true) : Vis X.env.scope x := by
  unfold visB at h
  unfold Vis
  rw [C.sc]
  split at h <;> simp_all
theorem CxOk.gl (C : CxOk Γ CX Wr E Φ X) {x : Str} (h : glB Γ x = true) : Gl X x ∧ (x == ("__debug__" : Str)) = false ∧ x ≠ "__name__" := by
  unfold glB at h
  split at h
  · rename_i e
    simp only [Bool.and_eq_true, Bool.not_eq_true'] at h
    refine ⟨?_, h.1, fun q => ?_⟩
    · unfold Gl Env.kindOf
      rw [C.sc]; exact e
    · subst q
      have := h.2
      simp at this
  · cases h
theorem CxOk.loc (C : CxOk Γ CX Wr E Φ X) {x : Str} (h : locB Γ x = true) : L2.Loc X.env.scope x ∧ (X.fn x = true ∨ X.env.scope.names.lookup x = some .local) := by
  unfold locB at h
  unfold L2.Loc
  rw [C.sc]
  split at h
  · rename_i e; exact ⟨.inl e, .inr e⟩
  · rename_i e; exact ⟨.inr e, .inl (C.fn x h)⟩
  · cases h
theorem CxOk.var (C : CxOk Γ CX Wr E Φ X) {i : Nat} {x : Str} (h : varB Γ i x = true) : X.N[i]? = some x ∧ Vis X.env.scope x ∧ (x == ("__debug__" : Str)) = false ∧ (x == ("__classdict__" : Str)) = false := by
  unfold varB at h
  simp only [Bool.and_eq_true, Bool.not_eq_true', beq_iff_eq] at h
  exact ⟨by rw [C.N]; exact h.1.1.1, C.vis h.1.1.2, h.1.2, h.2⟩
theorem CxOk.store (C : CxOk Γ CX Wr E Φ X) {i : Nat} {x : Str} (h : storeB Γ i x = true) : X.N[i]? = some x ∧ L2.Loc X.env.scope x ∧ (X.fn x = true ∨ X.env.scope.names.lookup x = some .local) := by
  unfold storeB at h
  simp only [Bool.and_eq_true, beq_iff_eq] at h
  exact ⟨by rw [C.N]; exact h.1, C.loc h.2⟩
theorem CxOk.blt (C : CxOk Γ CX Wr E Φ X) {x : Str} (h : blB Γ x = true) : Gl X x ∧ X.mg x = none ∧ (x == ("__debug__" : Str)) = false ∧ x ≠ "__name__" := by
  unfold blB at h
  simp only [Bool.and_eq_true, List.contains_iff_mem] at h
  obtain ⟨h1, h2, h3⟩ := C.gl h.1
  exact ⟨h1, C.bl x h.2, h2, h3⟩
theorem starEach_cons {e : Expr} {es : List Expr} {env : Env} (h : noStar e = true) : starEach (e :: es) env = (false, eval e env) :: starEach es env := by
  cases e <;> first | rfl | cases h
theorem noStar_any {pos : Pos} {env : Env} : ∀ {es : List Expr}, es.all noStar = true → (backTo pos (starEach es env)).any (·.1) = false
  | [], _ => rfl
  | e :: es, h => by
    rw [List.all_cons, Bool.and_eq_true] at h
    rw [starEach_cons h.1]
    show (false || (backTo pos (starEach es env)).any (·.1)) = false
    rw [noStar_any h.2]; rfl
theorem noStar_all {pos : Pos} {env : Env} : ∀ {es : List Expr}, es.all noStar = true → (backTo pos (starEach es env)).all (fun x => !x.1) = true
  | [], _ => rfl
  | e :: es, h => by
    rw [List.all_cons, Bool.and_eq_true] at h
    rw [starEach_cons h.1]
    show (true && (backTo pos (starEach es env)).all (fun x => !x.1)) = true
    rw [noStar_all h.2]; rfl
theorem fold_ok {it : Expr} (h : noSet it = true) (env : Env) (x : Value) : foldedSetIterable it env x = pure x := by
  cases it <;> first | rfl | cases h
theorem plainIx_ok {b : Expr} (h : plainIxB b = true) : PlainIx b := by
  intro o i
  cases b <;> first | rfl | cases h
theorem plainT_ok {e : Expr} (h : plainT e = true) (env : Env) (whole : Sem Value) : isTrue e env whole = (do let v ← whole; standAt e.pos; holding [v] (truthy v)) := by
  cases e <;> first | rfl | cases h | (rename_i op a p; cases op <;> first | rfl | cases h)
theorem sg_ck (C : CxOk Γ CX Wr E Φ X) : (∀ {t : Tgt} {e : Expr}, ckG Γ t e = true → PG X e (gT X t)) ∧ (∀ {ts : List Tgt} {es : List Expr}, ckGs Γ ts es = true → PGs X es (gTs X ts) ∧ es.all noStar = true ∧ es.length = ts.length) := by
  have key : ∀ n : Nat, (∀ {t : Tgt} {e : Expr}, sizeOf t ≤ n → ckG Γ t e = true → PG X e (gT X t)) ∧ (∀ {ts : List Tgt} {es : List Expr}, sizeOf ts ≤ n → ckGs Γ ts es = true → PGs X es (gTs X ts) ∧ es.all noStar = true ∧ es.length = ts.length) := by
    intro n
    induction n with
    | zero =>
      refine ⟨fun {t e} h _ => ?_, fun {ts es} h _ => ?_⟩
      · cases t <;> simp at h
      · cases ts <;> simp at h
    | succ n ih =>
      refine ⟨fun {t e} hs h => ?_, fun {ts es} hs h => ?_⟩
      · cases t with
        | nm i =>
          cases e <;> simp only [ckG, Bool.false_eq_true] at h
          obtain ⟨h1, h2, h3⟩ := C.store h
          exact sg_nm C.ok.nd h1 h2 h3
        | tp ts =>
          cases e <;> simp only [ckG, Bool.false_eq_true] at h
          have q := ih.2 (ts := ts) (by simp at hs; omega) h
          exact sg_tp C.ok.calm q.1 q.2.1 q.2.2
      · cases ts with
        | nil =>
          cases es <;> simp only [ckGs, Bool.false_eq_true] at h
          exact ⟨sg_nil, rfl, rfl⟩
        | cons t ts =>
          cases es <;> simp only [ckGs, Bool.false_eq_true, Bool.and_eq_true] at h
          obtain ⟨⟨h1, h2⟩, h3⟩ := h
          have q := ih.2 (ts := ts) (by simp at hs; omega) h3
          have q1 := ih.1 (t := t) (by simp at hs; omega) h2
          exact ⟨sg_cons q1 q.1 h1, by rw [List.all_cons, h1, q.2.1]; rfl, by simp [q.2.2]⟩
  exact ⟨fun {t e} h => (key (sizeOf t)).1 (Nat.le_refl _) h, fun {ts es} h => (key (sizeOf ts)).2 (Nat.le_refl _) h⟩
theorem ckK_ok {v : AV} {k : Const} {j : Nat} {pos : Pos} (h : ckK v k = true) : ∃ v', PE X (.Constant k j pos) (tC v') ∧ ∀ ρ ex H, Rep X.K X.mg ρ ex H v v' := by
  unfold ckK at h
  split at h
  · rw [beq_iff_eq] at h; subst h; exact ⟨_, pe_int, fun _ _ _ => .int _⟩
  · rw [beq_iff_eq] at h; subst h; exact ⟨_, pe_bl, fun _ _ _ => .bl _⟩
  · exact ⟨_, pe_non, fun _ _ _ => .non⟩
  · rw [beq_iff_eq] at h; subst h; exact ⟨_, pe_str, fun _ _ _ => .str _⟩
  · cases h
theorem ty_pe (C : CxOk Γ CX Wr E Φ X) {t : Ty} {e : Expr} (h : tyB Γ t e = true) : (∃ x p, e = .Name x p) ∧ PE X e (tC (.ty (tyN t))) := by
  unfold tyB at h
  split at h
  · rename_i x p
    rw [Bool.and_eq_true, beq_iff_eq] at h
    obtain ⟨h1, h2, h3, h4⟩ := C.blt h.2
    refine ⟨⟨x, p, rfl⟩, pe_tyn h1 h2 (by rw [h.1]; exact ty_boot t) h4 h3⟩
  · cases h
theorem tys_pa (C : CxOk Γ CX Wr E Φ X) : ∀ {ts : List Ty} {es : List Expr}, tysB Γ ts es = true → PA X es (fun _ H Q => Q (ts.map fun t => V.ty (tyN t)) H)
  | [], [], _ => ⟨fun pos pins s σ H Q I h => pa_nil.run pos pins s σ H Q I h⟩
  | [], _ :: _, h => by simp [tysB] at h
  | _ :: _, [], h => by simp [tysB] at h
  | t :: ts, e :: es, h => by
    simp only [tysB, Bool.and_eq_true] at h
    obtain ⟨⟨x, p, rfl⟩, h1⟩ := ty_pe C h.1
    have h2 := tys_pa C h.2
    exact ⟨fun pos pins s σ H Q I hq => (pa_cons h1 h2 rfl).run pos pins s σ H Q I hq⟩
end

theorem filterMap_len : ∀ {kws : List Keyword}, kws.all (fun k => k.arg.isSome) = true → (kws.filterMap (·.arg)).length = kws.length
  | [], _ => rfl
  | ⟨nm, e, p⟩ :: kws, h => by
    rw [List.all_cons, Bool.and_eq_true] at h
    cases nm with
    | none => cases h.1
    | some x =>
      show (x :: kws.filterMap (·.arg)).length = _
      simp [filterMap_len h.2]
theorem key_pe {X : Cx} {k : Key} {c : Const} {j : Nat} {pos : Pos} (h : ckK (keyA k) c = true) : PE X (.Constant c j pos) (tC (kV k)) := by
  cases k with
  | inl i =>
    cases c <;> simp only [keyA, ckK, Bool.false_eq_true] at h
    rw [beq_iff_eq] at h; subst h; exact pe_int
  | inr x =>
    cases c <;> simp only [keyA, ckK, Bool.false_eq_true] at h
    rw [beq_iff_eq] at h; subst h; exact pe_str
/-- all that the check gives, by its fuel -/
structure CkOk (n : Nat) : Prop where
  e : ∀ {Γ CX Wr E Φ X}, CxOk Γ CX Wr E Φ X → ∀ {e' : Exp} {e : Expr}, ckE n Γ e' e = true → PE X e (tE X E Φ e')
  l : ∀ {Γ CX Wr E Φ X}, CxOk Γ CX Wr E Φ X → ∀ {e' : Exp} {e : Expr}, ckL n Γ e' e = true → PE X e (tL X E Φ e')
  p : ∀ {Γ CX Wr E Φ X}, CxOk Γ CX Wr E Φ X → ∀ {e' : Exp} {e : Expr}, ckP n Γ e' e = true → PE X e (tP X E Φ e')
  b : ∀ {Γ CX Wr E Φ X}, CxOk Γ CX Wr E Φ X → ∀ {k : Bool} {e' : Exp} {es : List Expr} {pos : Pos}, ckB n Γ k e' es = true → PE X (.BoolOp (if k then .Or else .And) es pos) (tE X E Φ e')
  t : ∀ {Γ CX Wr E Φ X}, CxOk Γ CX Wr E Φ X → ∀ {t : Tst} {e : Expr}, ckT n Γ t e = true → PT X e (tT X E Φ t)
  w : ∀ {Γ CX Wr E Φ X}, CxOk Γ CX Wr E Φ X → ∀ {k : Bool} {t : Tst} {es : List Expr} {pos : Pos}, ckW n Γ k t es = true → PW X (.BoolOp (if k then .Or else .And) es pos) (tT X E Φ t)
  es : ∀ {Γ CX Wr E Φ X}, CxOk Γ CX Wr E Φ X → ∀ {es' : List Exp} {es : List Expr}, ckEs n Γ es' es = true → PA X es (tEs X E Φ es') ∧ es'.length = es.length
  ps : ∀ {Γ CX Wr E Φ X}, CxOk Γ CX Wr E Φ X → ∀ {es' : List Exp} {es : List Expr}, ckPs n Γ es' es = true → PA X es (tPs X E Φ es')
  o : ∀ {Γ CX Wr E Φ X}, CxOk Γ CX Wr E Φ X → ∀ {a' : Option Exp} {a : Option Expr}, ckO n Γ a' a = true → PO X a (tO X E Φ a')
  f : ∀ {Γ CX Wr E Φ X}, CxOk Γ CX Wr E Φ X → ∀ {ts : List Tst} {es : List Expr}, ckF n Γ ts es = true → PTs X es (tF X E Φ ts)
  i : ∀ {Γ CX Wr E Φ X}, CxOk Γ CX Wr E Φ X → ∀ {i' : Itr} {e : Expr} (pk : Bool) {tg : Expr}, ckI n Γ i' e tg = true → PI X tg e (tI X E Φ pk i')
  kw : ∀ {Γ CX Wr E Φ X}, CxOk Γ CX Wr E Φ X → ∀ {es' : List Exp} {kws : List Keyword}, ckKw n Γ es' kws = true → KwsOk X E Φ es' kws ∧ es'.length = kws.length

theorem ck_zero : CkOk 0 := by
  constructor <;> intros <;> simp_all [ckE, ckL, ckP, ckB, ckT, ckW, ckEs, ckPs, ckO, ckF, ckI, ckKw]
section
variable {n : Nat} (K : CkOk n) {Γ : CK} {CX : CXT} {Wr : XK → Prop} {E : XK} {Φ : CallA} {X : Cx} (C : CxOk Γ CX Wr E Φ X)
include K C
theorem ck_l {e' : Exp} {e : Expr} (h : ckL (n + 1) Γ e' e = true) : PE X e (tL X E Φ e') := by
  unfold ckL at h
  split at h
  · split at h
    · exact sl_lst (K.es C h).1
    · cases h
  · split at h
    · simp only [Bool.and_eq_true, beq_iff_eq] at h
      obtain ⟨⟨⟨h1, h2⟩, h3⟩, h4⟩ := h
      obtain ⟨g1, g2, g3, g4⟩ := C.blt h2
      subst h1
      exact sl_list rfl C.ok g1 g2 (bi_boot .list) g4 g3 (K.ps C h4) (starEach_cons h3)
    · cases h
  · split at h
    · simp only [Bool.and_eq_true] at h
      obtain ⟨⟨⟨⟨⟨h1, h2⟩, h3⟩, h4⟩, h5⟩, h6⟩ := h
      have B := blkB_ok h2
      exact sl_lc C.ok (K.i C true h3) (by rw [C.N, C.sc]; exact B) (ownOf_map _ _) (fun s H D cl fp => (sg_ck (C.blk B.kind s H D cl fp)).1 h4) (fun s H D cl fp => K.f (C.blk B.kind s H D cl fp) h5)
        (fun s H D cl fp => K.e (C.blk B.kind s H D cl fp) h6) (fold_ok h1 _)
    · cases h
  · split at h
    · simp only [Bool.and_eq_true] at h
      obtain ⟨⟨⟨⟨⟨⟨⟨⟨⟨h1, h0⟩, h2⟩, h3⟩, h4⟩, h5⟩, h7⟩, h8⟩, h9⟩, h6⟩ := h
      have B := blkB_ok h2
      exact sl_lc2 C.ok (K.i C true h3) (by rw [C.N, C.sc]; exact B) (ownOf_map _ _) (fun s H D cl fp => (sg_ck (C.blk B.kind s H D cl fp)).1 h4) (fun s H D cl fp => K.f (C.blk B.kind s H D cl fp) h5)
        (fun s H D cl fp => K.i (C.blk B.kind s H D cl fp) false h7) (fun s H D cl fp => (sg_ck (C.blk B.kind s H D cl fp)).1 h8) (fun s H D cl fp => K.f (C.blk B.kind s H D cl fp) h9)
        (fun s H D cl fp => K.e (C.blk B.kind s H D cl fp) h6) (fold_ok h1 _) (fold_ok h0)
    · cases h
  · cases h
theorem ck_p {e' : Exp} {e : Expr} (h : ckP (n + 1) Γ e' e = true) : PE X e (tP X E Φ e') := by
  unfold ckP at h
  split at h
  · split at h
    · obtain ⟨h1, h2, h3, h4⟩ := C.var h
      exact snd_peek_var h1 h2 h3 h4
    · cases h
  · rename_i hn
    exact snd_peek (K.e C h) fun i q => hn i q
theorem ck_b {k : Bool} {e' : Exp} {es : List Expr} {pos : Pos} (h : ckB (n + 1) Γ k e' es = true) : PE X (.BoolOp (if k then .Or else .And) es pos) (tE X E Φ e') := by
  unfold ckB at h
  split at h
  · cases h
  · exact snd_and1 (K.e C h)
  · split at h
    · rw [Bool.and_eq_true] at h
      exact snd_and (K.e C h.1) (K.b C (k := false) h.2)
    · rw [Bool.and_eq_true] at h
      exact snd_or (K.e C h.1) (K.b C (k := true) h.2)
    · cases h
theorem ck_w {k : Bool} {t : Tst} {es : List Expr} {pos : Pos} (h : ckW (n + 1) Γ k t es = true) : PW X (.BoolOp (if k then .Or else .And) es pos) (tT X E Φ t) := by
  unfold ckW at h
  split at h
  · cases h
  · cases k with
    | false => exact pw_and1 (K.t C h)
    | true => exact pw_or1 (K.t C h)
  · split at h
    · rw [Bool.and_eq_true] at h
      exact sw_and (K.t C h.1) (K.w C (k := false) h.2)
    · rw [Bool.and_eq_true] at h
      exact sw_or (K.t C h.1) (K.w C (k := true) h.2)
    · cases h
theorem ck_es {es' : List Exp} {es : List Expr} (h : ckEs (n + 1) Γ es' es = true) : PA X es (tEs X E Φ es') ∧ es'.length = es.length := by
  unfold ckEs at h
  split at h
  · exact ⟨snd_nil, rfl⟩
  · simp only [Bool.and_eq_true] at h
    have q := K.es C h.2
    exact ⟨snd_cons (K.e C h.1.2) q.1 (starEach_cons h.1.1), by simp [q.2]⟩
  · cases h
theorem ck_ps {es' : List Exp} {es : List Expr} (h : ckPs (n + 1) Γ es' es = true) : PA X es (tPs X E Φ es') := by
  unfold ckPs at h
  split at h
  · exact snd_pnil
  · simp only [Bool.and_eq_true] at h
    exact snd_pcons (K.p C h.1.2) (K.ps C h.2) (starEach_cons h.1.1)
  · cases h
theorem ck_o {a' : Option Exp} {a : Option Expr} (h : ckO (n + 1) Γ a' a = true) : PO X a (tO X E Φ a') := by
  unfold ckO at h
  split at h
  · exact snd_none
  · exact snd_some (K.e C h)
  · cases h
theorem ck_f {ts : List Tst} {es : List Expr} (h : ckF (n + 1) Γ ts es = true) : PTs X es (tF X E Φ ts) := by
  unfold ckF at h
  split at h
  · exact sts_nil
  · exact sts_one (K.t C h)
  · cases h
theorem ck_kw {es' : List Exp} {kws : List Keyword} (h : ckKw (n + 1) Γ es' kws = true) : KwsOk X E Φ es' kws ∧ es'.length = kws.length := by
  unfold ckKw at h
  split at h
  · exact ⟨.nil, rfl⟩
  · rw [Bool.and_eq_true] at h
    have q := K.kw C h.2
    exact ⟨.cons (K.e C h.1) q.1, by simp [q.2]⟩
  · cases h
theorem ck_i {i' : Itr} {e : Expr} (pk : Bool) {tg : Expr} (h : ckI (n + 1) Γ i' e tg = true) : PI X tg e (tI X E Φ pk i') := by
  unfold ckI at h
  split at h
  · rw [Bool.and_eq_true] at h
    exact si_sq (snd_pk (K.e C h.2) (K.p C h.1))
  · split at h
    · simp only [Bool.and_eq_true, beq_iff_eq] at h
      obtain ⟨⟨⟨⟨⟨h1, h2⟩, h3⟩, h4⟩, h5⟩, h6⟩ := h
      obtain ⟨g1, g2, g3, g4⟩ := C.blt h2
      subst h1
      exact si_rg2 g1 g2 (K.e C h5) (K.e C h6) (by rw [starEach_cons h3, starEach_cons h4]; rfl) (by rw [starEach_cons h4]; rfl)
    · simp only [Bool.and_eq_true, beq_iff_eq] at h
      obtain ⟨⟨⟨⟨h1, h2⟩, h3⟩, h4⟩, h5⟩ := h
      obtain ⟨g1, g2, g3, g4⟩ := C.blt h2
      subst h1
      split at h4
      · exact si_rg1 g1 g2 (K.e C h5) (by rw [starEach_cons h3]; rfl)
      · cases h4
    · cases h
  · split at h
    · simp only [Bool.and_eq_true, beq_iff_eq] at h
      obtain ⟨⟨⟨⟨⟨⟨⟨h1, h2⟩, h3⟩, h4⟩, h5⟩, h6⟩, h7⟩, h8⟩ := h
      obtain ⟨g1, g2, g3, g4⟩ := C.blt h2
      subst h1
      exact si_zp g1 g2 (snd_pk (K.e C h6) (K.p C h5)) (snd_pk (K.e C h8) (K.p C h7)) (starEach_cons h3) (starEach_cons h4)
    · cases h
  · cases h
theorem ck_t {t : Tst} {e : Expr} (h : ckT (n + 1) Γ t e = true) : PT X e (tT X E Φ t) := by
  unfold ckT at h
  split at h
  · split at h
    · simp only [Bool.and_eq_true, Bool.not_eq_true'] at h
      obtain ⟨⟨⟨h1, h2⟩, h3⟩, h4⟩ := h
      cases isC_ok h1
      exact st_cmp C.ok (K.p C h3) (K.p C h4) h2
    · simp only [Bool.and_eq_true, Bool.not_eq_true'] at h
      obtain ⟨⟨⟨⟨⟨h1, h2⟩, h3⟩, h4⟩, h5⟩, h6⟩ := h
      cases isC_ok h1
      cases isC_ok h2
      exact st_chain C.ok (K.e C h4) (K.e C h5) (K.e C h6) h3
    · rw [Bool.and_eq_true] at h
      exact st_val (K.p C h.2) (plainT_ok h.1 _)
  · split at h
    · exact st_not (K.t C h)
    · cases h
  · split at h
    · exact (K.w C (k := false) h).pt
    · exact (K.w C (k := true) h).pt
    · cases h
theorem ck_e {e' : Exp} {e : Expr} (h : ckE (n + 1) Γ e' e = true) : PE X e (tE X E Φ e') := by
  unfold ckE at h
  split at h
  · -- constants
    split at h
    · obtain ⟨v', h1, h2⟩ := ckK_ok (X := X) h
      exact snd_c h1 h2
    · rw [Bool.and_eq_true] at h
      obtain ⟨g1, g2, g3⟩ := C.gl h.1
      obtain h2 := h.2
      split at h2
      · rename_i w hw
        cases avEq_ok h2
        obtain ⟨u, v', m1, m2, m3⟩ := C.cs _ _ hw
        exact snd_c (pe_glob g1 m1 m2 g2) m3
      · cases h2
    · cases h
  · split at h
    · obtain ⟨h1, h2, h3, h4⟩ := C.var h
      exact snd_var h1 h2 h3 h4
    · cases h
  · split at h
    · simp only [Bool.and_eq_true] at h
      cases isB_ok h.1.1
      exact snd_bin (K.e C h.1.2) (K.e C h.2)
    · cases h
  · split at h
    · exact snd_neg (K.e C h)
    · cases h
  · split at h
    · exact snd_not (K.e C h)
    · cases h
  · split at h
    · rw [Bool.and_eq_true] at h
      exact snd_and (K.e C h.1) (K.b C (k := false) h.2)
    · cases h
  · split at h
    · rw [Bool.and_eq_true] at h
      exact snd_or (K.e C h.1) (K.b C (k := true) h.2)
    · cases h
  · split at h
    · simp only [Bool.and_eq_true, Bool.not_eq_true'] at h
      obtain ⟨⟨⟨h1, h2⟩, h3⟩, h4⟩ := h
      cases isC_ok h1
      exact snd_cmp C.ok (K.p C h3) (K.p C h4) h2
    · cases h
  · split at h
    · simp only [Bool.and_eq_true, Bool.not_eq_true'] at h
      obtain ⟨⟨⟨⟨⟨h1, h2⟩, h3⟩, h4⟩, h5⟩, h6⟩ := h
      cases isC_ok h1
      cases isC_ok h2
      exact snd_chain C.ok (K.e C h4) (K.e C h5) (K.e C h6) h3
    · cases h
  · split at h
    · simp only [Bool.and_eq_true] at h
      exact snd_ife (K.t C h.1.1) (K.e C h.1.2) (K.e C h.2)
    · cases h
  · split at h
    · simp only [Bool.and_eq_true, beq_iff_eq] at h
      obtain ⟨⟨⟨⟨h1, h2⟩, h3⟩, h4⟩, h5⟩ := h
      obtain ⟨g1, g2, g3, g4⟩ := C.blt h2
      subst h1
      split at h5
      · obtain ⟨⟨x, p, rfl⟩, q⟩ := ty_pe C h5
        exact snd_isi1 g1 g2 q (K.e C h4) (starEach_cons h3)
      · split at h5
        · simp only [Bool.and_eq_true, decide_eq_true_eq, Bool.not_eq_true', List.isEmpty_eq_false_iff] at h5
          exact snd_isiT g1 g2 (Nat.le_trans h5.1.1 (by decide)) h5.1.2 (tys_pa C h5.2) (K.e C h4) (starEach_cons h3)
        · cases h5
    · cases h
  · split at h
    · exact snd_tup (K.es C h).1
    · cases h
  · exact snd_ofL (K.l C h)
  · exact snd_ofL (K.l C h)
  · exact snd_cell (K.l C h)
  · split at h
    · simp only [Bool.and_eq_true] at h
      exact snd_sub (K.p C h.1.2) (K.e C h.2) (plainIx_ok h.1.1)
    · cases h
  · split at h
    · simp only [Bool.and_eq_true] at h
      exact snd_slice (K.p C h.1.1) (K.o C h.1.2) (K.o C h.2)
    · cases h
  · split at h
    · exact snd_rev (K.p C h)
    · cases h
  · split at h
    · simp only [Bool.and_eq_true] at h
      obtain ⟨h1, h2⟩ := h
      obtain ⟨g1, g2, g3⟩ := C.gl h1
      split at h2
      · rename_i i hi
        simp only [Bool.and_eq_true, beq_iff_eq, List.isEmpty_iff] at h2
        obtain ⟨⟨k1, k2⟩, k3⟩ := h2
        obtain ⟨f, fd, k, m1, m2, m3, m4, m5, m6⟩ := C.fs _ _ hi
        subst k1 k3
        rw [k2] at m4
        exact snd_call0 C.ok m4 C.wr m3 g1 m1 m2 m5 C.pass g2
      · cases h2
    · simp only [Bool.and_eq_true] at h
      obtain ⟨⟨⟨h1, h2⟩, h3⟩, h4⟩ := h
      obtain ⟨g1, g2, g3⟩ := C.gl h1
      split at h2
      · rename_i i hi
        simp only [Bool.and_eq_true, beq_iff_eq] at h2
        obtain ⟨⟨k1, k2⟩, k3⟩ := h2
        obtain ⟨f, fd, k, m1, m2, m3, m4, m5, m6⟩ := C.fs _ _ hi
        subst k1
        rw [List.all_cons, Bool.and_eq_true] at h3
        exact snd_call C.ok m4 C.wr m3 g1 m1 m2 m5 C.pass (K.es C h4).1 k2.symm (k3.trans k2.symm) g2 (starEach_cons h3.1) (noStar_any h3.2)
      · cases h2
    · cases h
  · split at h
    · simp only [Bool.and_eq_true] at h
      obtain ⟨⟨⟨⟨⟨h1, h2⟩, h3⟩, h4⟩, h5⟩, h6⟩ := h
      obtain ⟨g1, g2, g3⟩ := C.gl h1
      split at h2
      · rename_i es ix _ _ _ pas kw kws _ _ i hi
        simp only [Bool.and_eq_true, beq_iff_eq, List.any_eq_true] at h2
        obtain ⟨⟨k1, k2⟩, sh, hsh, ⟨s1, s2⟩, s3⟩ := h2
        obtain ⟨f, fd, k, m1, m2, m3, m4, m5, m6⟩ := C.fs _ _ hi
        subst k1 s3
        have q5 := K.es C h5
        have q6 := K.kw C h6
        have hlen : (es.drop pas.length).length = sh.ks.length := by
          rw [q6.2, s2]
          exact (filterMap_len h4).symm
        cases pas with
        | nil =>
          exact snd_callK0 C.ok m4 C.wr m3 g1 m1 m2 (m6 sh hsh) (by simpa using s1) C.pass (by simpa using q6.1) (by simp) h4 s2.symm (by simpa using hlen) k2.symm g2
        | cons pa ps =>
          have e : es = es.take (pa :: ps).length ++ es.drop (pa :: ps).length := (List.take_append_drop _ _).symm
          rw [e]
          rw [List.all_cons, Bool.and_eq_true] at h3
          exact snd_callK C.ok m4 C.wr m3 g1 m1 m2 (m6 sh hsh) C.pass q5.1 q6.1 h4 s2.symm (q5.2.trans s1.symm) hlen k2.symm g2 (starEach_cons h3.1) (noStar_any (by rw [List.all_cons, h3.1, h3.2]; rfl))
      · cases h2
    · cases h
  · split at h
    · exact snd_dis0
    · rw [Bool.and_eq_true] at h
      rename_i k v _ _ _ _ _ _ _
      obtain ⟨v', q1, q2⟩ := ckK_ok (X := X) h.2
      exact snd_dis1 (key_pe h.1) q1 q2
    · cases h
  · split at h
    · simp only [Bool.and_eq_true, beq_iff_eq] at h
      obtain ⟨⟨h1, h2⟩, h3⟩ := h
      subst h1
      exact snd_upper (K.e C h3) rfl (by simpa using h2)
    · cases h
  · split at h
    · simp only [Bool.and_eq_true, beq_iff_eq] at h
      obtain ⟨⟨⟨⟨⟨h1, h2⟩, h3⟩, h4⟩, h5⟩, h6⟩ := h
      obtain ⟨a1, a2, a3, a4⟩ := C.blt h3
      obtain ⟨b1, b2, b3, b4⟩ := C.blt h4
      subst h1 h2
      exact snd_sset C.ok a1 a2 b1 b2 (K.e C h6) (starEach_cons h5)
    · cases h
  · split at h
    · simp only [Bool.and_eq_true, beq_iff_eq] at h
      obtain ⟨⟨⟨h1, h2⟩, h3⟩, h4⟩ := h
      obtain ⟨g1, g2, g3, g4⟩ := C.blt h2
      rw [List.all_cons, Bool.and_eq_true] at h3
      rename_i f _ x _ _ _ _ _
      have hb := bi_boot f
      subst h1
      have hid : (∃ id, biId f = .builtin id) ∨ ∃ id, biId f = .type id := by cases f <;> first | exact .inl ⟨_, rfl⟩ | exact .inr ⟨_, rfl⟩
      rcases hid with ⟨id, hid⟩ | ⟨id, hid⟩
      · exact snd_biB C.ok hid g1 g2 (by rw [hb, hid]) g4 g3 (K.ps C h4) (starEach_cons h3.1) (noStar_any h3.2)
      · exact snd_biT C.ok hid g1 g2 (by rw [hb, hid]) g4 g3 (K.ps C h4) (starEach_cons h3.1) (noStar_any h3.2)
    · cases h
end
theorem ck_ok : ∀ n, CkOk n
  | 0 => ck_zero
  | n + 1 =>
    have K := ck_ok n
    ⟨fun C _ _ h => ck_e K C h, fun C _ _ h => ck_l K C h, fun C _ _ h => ck_p K C h, fun C _ _ _ _ h => ck_b K C h, fun C _ _ h => ck_t K C h, fun C _ _ _ _ h => ck_w K C h, fun C _ _ h => ck_es K C h, fun C _ _ h => ck_ps K C h,
      fun C _ _ h => ck_o K C h, fun C _ _ h => ck_f K C h, fun C _ _ pk _ h => ck_i K C pk h, fun C _ _ h => ck_kw K C h⟩
end G

set_option Elab.async false
set_option linter.all false
set_option maxRecDepth 100000
set_option maxHeartbeats 8000000
/-! GM: the check of statements, what it gives. -/
namespace G
open PySem PySem.Spec PyProof.Rows L2
def isComp : Expr → Bool
  | .ListComp _ _ _ _ => true
  | .SetComp _ _ _ _ => true
  | .DictComp _ _ _ _ _ => true
  | _ => false
def localB (Γ : CK) (x : Str) : Bool := Γ.sc.names.lookup x == some .local
/-- name = comprehension, the store exchanged -/
def swB (Γ : CK) (x : Str) (px : Pos) (scope : Scope) (vpos : Pos) : Bool :=
  (Γ.sc.names.lookup x == some .local) && (px.line == vpos.line) && !(scope.names.any fun (n, k) => n == x && (k == .local || k == .cell))
def swStar : Expr → Bool
  | .Starred .. => true
  | _ => false
def swNames (sc : Scope) (ts : List Expr) : List Str := ts.filterMap fun
    | .Name id pos => if sc.names.lookup id == some .local && pos.line == (ts.head?.map (·.pos.line)).getD 0 then some id else none
    | _ => none
def swV (sc : Scope) (ts vs : List Expr) : Option (List Str) :=
  if (!(ts.length == 2 || ts.length == 3) || vs.length != ts.length) = true then none
  else if vs.any swStar = true then none
  else if ((swNames sc ts).length != ts.length || (swNames sc ts).eraseDups.length != (swNames sc ts).length) = true then none
  else if vs.all (foldedForSure 8) = true then none
  else some (swNames sc ts)
def swOk (vs : List Expr) : Bool := vs.all (foldedForSure 8) || !(vs.all (constantsAlone 8))
theorem swappedStores_tup {ts vs : List Expr} {kt k2 : Nat} {pt p2 : Pos} {env : Env} (hk : env.scope.kind = .function) (h : swOk vs = true) : swappedStores [.Tuple ts kt pt] (.Tuple vs k2 p2) env = pure (swV env.scope ts vs) := by
  have hb : env.blockKind = .function := by unfold Env.blockKind; rw [hk]; rfl
  have hb' : (env.blockKind != .function) = false := by rw [hb]; rfl
  unfold swappedStores swV
  simp only [hb', Bool.or_false]
  by_cases c1 : (!(ts.length == 2 || ts.length == 3) || vs.length != ts.length) = true
  · simp only [c1, if_true]
  · simp only [c1, if_false, Bool.false_eq_true]
    by_cases c2 : vs.any swStar = true
    · exact (if_pos c2).trans (congrArg pure (if_pos c2).symm)
    · refine (if_neg c2).trans (Eq.trans ?_ (congrArg pure (if_neg c2).symm))
      by_cases c3 : ((swNames env.scope ts).length != ts.length || (swNames env.scope ts).eraseDups.length != (swNames env.scope ts).length) = true
      · exact (if_pos c3).trans (congrArg pure (if_pos c3).symm)
      · refine (if_neg c3).trans (Eq.trans ?_ (congrArg pure (if_neg c3).symm))
        by_cases c4 : vs.all (foldedForSure 8) = true
        · exact (if_pos c4).trans (congrArg pure (if_pos c4).symm)
        · refine (if_neg c4).trans (Eq.trans ?_ (congrArg pure (if_neg c4).symm))
          have h' : ¬ vs.all (constantsAlone 8) = true := by
            unfold swOk at h
            simpa [c4] using h
          exact if_neg h'
theorem swapped_none {ts : List Expr} {k : Nat} {p : Pos} {v : Expr} {env : Env} (h : ∀ vs k p, v ≠ .Tuple vs k p) : swappedStores [.Tuple ts k p] v env = pure none := by
  cases v <;> first | rfl | exact absurd rfl (h _ _ _)
theorem swapsWith_no {v : Expr} (h : isComp v = false) (t : Option Expr) (line : Nat) (env : Env) : swapsWith v t line env = pure false := by
  cases v <;> first | rfl | cases h
theorem swapsSole_no {v : Expr} (h : isComp v = false) (t : Expr) (line : Nat) (env : Env) : swapsWithSole [t] v line env = pure false := swapsWith_no h _ _ _
theorem swapsWith_lc {pe : Expr} {gens : List Comprehension} {scope : Scope} {vpos px : Pos} {x : Str} {line : Nat} {env : Env} (hk : env.scope.kind = .function) :
    swapsWith (.ListComp pe gens scope vpos) (some (.Name x px)) line env = pure ((env.scope.names.lookup x == some .local) && (px.line == vpos.line) && !(scope.names.any fun (n, k) => n == x && (k == .local || k == .cell))) := by
  have hb : env.blockKind = .function := by unfold Env.blockKind; rw [hk]; rfl
  have e : swapsWith (.ListComp pe gens scope vpos) (some (.Name x px)) line env = pure (env.blockKind == .function && env.kindOf x == some .local && px.line == vpos.line && !(scope.names.any fun (n, k) => n == x && (k == .local || k == .cell))) := rfl
  rw [e, hb]
  rfl
def isTupE : Expr → Bool
  | .Tuple _ _ _ => true
  | _ => false
def uncell : Exp → Exp
  | .cell e => e
  | e => e
def isL : Exp → Bool
  | .comp _ => true
  | .cell (.comp _) => true
  | _ => false
def fuelE : Nat := 60
mutual
def ckS (Γ : CK) : Nat → Stm → Stmt → Bool
  | 0, _, _ => false
  | n + 1, s, st => match s with
    | .set i e' => (match st with
      | .Assign [.Name x px] v _ => storeB Γ i x && (match v with
        | .ListComp _ _ scope vpos => if swB Γ x px scope vpos then isL e' && ckL fuelE Γ (uncell e') v else ckE fuelE Γ e' v
        | v => !(isComp v) && ckE fuelE Γ e' v)
      | _ => false)
    | .own i e' => (match st with
      | .Assign [.Name x px] v _ => storeB Γ i x && (match v with
        | .ListComp _ _ scope vpos => swB Γ x px scope vpos && ckL fuelE Γ e' v
        | v => !(isComp v) && ckL fuelE Γ e' v)
      | _ => false)
    | .asg t e' => (match st with
      | .Assign [tg] v _ => isTupE tg && ckG Γ t tg && !(isComp v) && ckE fuelE Γ e' v && (match tg, v with
        | .Tuple ts _ _, .Tuple vs _ _ => swOk vs && (swV Γ.sc ts vs == none)
        | _, _ => true)
      | _ => false)
    | .par i j a b => (match st with
      | .Assign [.Tuple [.Name x px, .Name y py] kt pt] (.Tuple [pa, pb] _ _) _ => !(i == j) && (Γ.N[i]? == some x) && (Γ.N[j]? == some y) && localB Γ x && localB Γ y && ckEs fuelE Γ [a, b] [pa, pb]
          && swOk [pa, pb] && (swV Γ.sc [.Name x px, .Name y py] [pa, pb] == some [x, y])
      | _ => false)
    | .sset o k v => (match st with
      | .Assign [.Subscript po pk _] pv _ => plainIxB pk && !(isComp pv) && ckE fuelE Γ o po && ckE fuelE Γ k pk && ckE fuelE Γ v pv
      | _ => false)
    | .app i e' => (match st with
      | .Expr (.Call (.Attribute (.Name x _) m apos) [pa] [] cpos) _ => m == ("append" : Str) && varB Γ i x && noStar pa && (apos.endLine == cpos.line) && ckE fuelE Γ e' pa
      | _ => false)
    | .expr e' => (match st with
      | .Expr e _ => !(isComp e) && ckE fuelE Γ e' e
      | _ => false)
    | .aug i o e' => (match st with
      | .AugAssign (.Name x _) op e _ => storeB Γ i x && isB o op && (match o with
        | .add => true
        | .sub => true
        | _ => false) && ckE fuelE Γ e' e
      | _ => false)
    | .ife t a b => (match st with
      | .If c pa pb _ => ckT fuelE Γ t c && ckSs Γ n a pa && ckSs Γ n b pb
      | _ => false)
    | .for tg it b => (match st with
      | .For ptg pit pb [] _ => ckG Γ tg ptg && noSet pit && ckI fuelE Γ it pit ptg && ckSs Γ n b pb
      | _ => false)
    | .while t b => (match st with
      | .While c pb [] _ => ckT fuelE Γ t c && ckSs Γ n b pb
      | _ => false)
    | .ret e' => (match st with
      | .Return (some e) _ => ckE fuelE Γ e' e
      | _ => false)
    | .retN => (match st with
      | .Return none _ => true
      | _ => false)
    | .pass => (match st with
      | .Pass _ => true
      | .Expr (.Constant (.str _) _ _) _ => true
      | _ => false)
    | .brk => (match st with
      | .Break _ => true
      | _ => false)
    | .cnt => (match st with
      | .Continue _ => true
      | _ => false)
    | .frzd _ s => ckS Γ n s st
    | .never => true
def ckSs (Γ : CK) : Nat → List Stm → List Stmt → Bool
  | 0, _, _ => false
  | n + 1, ss, sts => match ss, sts with
    | [], [] => true
    | s :: ss, st :: sts => ckS Γ n s st && ckSs Γ n ss sts
    | _, _ => false
end
section
variable {Γ : CK} {CX : CXT} {Wr : XK → Prop} {E : XK} {Φ : CallA} {X : Cx}
theorem ck_lset (C : CxOk Γ CX Wr E Φ X) {n i : Nat} {e' : Exp} {pe : Expr} {gens : List Comprehension} {scope : Scope} {vpos px spos : Pos} {x : Str} (hx : storeB Γ i x = true) (hs : swB Γ x px scope vpos = true) (h : ckL (n + 1) Γ e' (.ListComp pe gens scope vpos) = true) :
    PS X (.Assign [.Name x px] (.ListComp pe gens scope vpos) spos) (tAsg (tL X E Φ e') (gName i)) := by
  have K := ck_ok n
  obtain ⟨hN, _, _⟩ := C.store hx
  have hl : X.env.scope.names.lookup x = some .local := by
    unfold swB at hs
    simp only [Bool.and_eq_true, beq_iff_eq] at hs
    rw [C.sc]; exact hs.1.1
  have hsw : ∀ gens, swapsWith (.ListComp pe gens scope vpos) (some (.Name x px)) spos.line X.env = pure true := fun gens => by
    rw [swapsWith_lc (by rw [C.sc]; exact C.kind), C.sc]
    unfold swB at hs
    rw [hs]
  unfold ckL at h
  split at h
  · cases h
  · cases h
  · split at h
    · rename_i heq
      cases heq
      simp only [Bool.and_eq_true] at h
      obtain ⟨⟨⟨⟨⟨h1, h2⟩, h3⟩, h4⟩, h5⟩, h6⟩ := h
      have B := blkB_ok h2
      refine ⟨fun pins s σ H D I hq => (ps_setLc C.ok.calm C.ok.nd hN hl (hsw _) (K.i C true h3) (by rw [C.N, C.sc]; exact B) (fun s H D cl fp => (sg_ck (C.blk B.kind s H D cl fp)).1 h4) (fun s H D cl fp => K.f (C.blk B.kind s H D cl fp) h5)
        (fun s H D cl fp => K.e (C.blk B.kind s H D cl fp) h6) (fold_ok h1 _)).run pins s σ H D I (lc_read (ownOf_map _ _) (show tL X E Φ _ σ H _ from hq))⟩
    · cases h
  · split at h
    · rename_i heq
      cases heq
      simp only [Bool.and_eq_true] at h
      obtain ⟨⟨⟨⟨⟨⟨⟨⟨⟨h1, h0⟩, h2⟩, h3⟩, h4⟩, h5⟩, h7⟩, h8⟩, h9⟩, h6⟩ := h
      have B := blkB_ok h2
      refine ⟨fun pins s σ H D I hq => (ps_setLc2 C.ok.calm C.ok.nd hN hl (hsw _) (K.i C true h3) (by rw [C.N, C.sc]; exact B) (fun i hi => by rw [ownOf_map]; exact List.mem_append_right _ hi) (fun s H D cl fp => (sg_ck (C.blk B.kind s H D cl fp)).1 h4) (fun s H D cl fp => K.f (C.blk B.kind s H D cl fp) h5)
        (fun s H D cl fp => K.i (C.blk B.kind s H D cl fp) false h7) (fun s H D cl fp => (sg_ck (C.blk B.kind s H D cl fp)).1 h8) (fun s H D cl fp => K.f (C.blk B.kind s H D cl fp) h9)
        (fun s H D cl fp => K.e (C.blk B.kind s H D cl fp) h6) (fold_ok h1 _) (fold_ok h0)).run pins s σ H D I (lc2_read (ownOf_map _ _) (show tL X E Φ _ σ H _ from hq))⟩
    · cases h
  · cases h
theorem ps_setTo (C : CxOk Γ CX Wr E Φ X) {i : Nat} {v : Expr} {t : TE} {x : Str} {px pos : Pos} (hx : storeB Γ i x = true) (hv : PE X v t) (hs : swapsWith v (some (.Name x px)) pos.line X.env = pure false) : PS X (.Assign [.Name x px] v pos) (tAsg t (gName i)) := by
  obtain ⟨h1, h2, h3⟩ := C.store hx
  exact ps_set C.ok.nd h1 h2 hv hs h3
theorem isL_cases {e : Exp} (h : isL e = true) : (∃ c, e = .comp c) ∨ ∃ c, e = .cell (.comp c) := by
  cases e with
  | comp c => exact .inl ⟨c, rfl⟩
  | cell a => cases a <;> first | exact .inr ⟨_, rfl⟩ | cases h
  | _ => cases h
theorem cks_ok (C : CxOk Γ CX Wr E Φ X) (hpo : PassesOwn (model X.prog X.w) X.A X.env X.xe) : ∀ n : Nat, (∀ {s : Stm} {st : Stmt}, ckS Γ n s st = true → PS X st (tS X E Φ s)) ∧ (∀ {ss : List Stm} {sts : List Stmt}, ckSs Γ n ss sts = true → PSs X sts (tSs X E Φ ss))
  | 0 => ⟨fun h => by simp [ckS] at h, fun h => by simp [ckSs] at h⟩
  | n + 1 => by
    have ih := cks_ok C hpo n
    have K := ck_ok fuelE
    have hkind : X.env.scope.kind = .function := by rw [C.sc]; exact C.kind
    refine ⟨fun {s st} h => ?_, fun {ss sts} h => ?_⟩
    · unfold ckS at h
      split at h
      · -- set
        split at h
        · rw [Bool.and_eq_true] at h
          obtain ⟨hx, h⟩ := h
          split at h
          · rename_i pe gens scope vpos
            split at h
            · rename_i hs
              rw [Bool.and_eq_true] at h
              have q := fun sp => ck_lset (spos := sp) C hx hs h.2
              rcases isL_cases h.1 with ⟨c, rfl⟩ | ⟨c, rfl⟩
              · exact s_set (asg_ofL (q _))
              · exact s_set (asg_cell (q _))
            · rename_i hs
              refine s_set (ps_setTo C hx (K.e C h) ?_)
              rw [swapsWith_lc hkind, C.sc]
              rw [Bool.not_eq_true] at hs
              unfold swB at hs
              rw [hs]
          · rw [Bool.and_eq_true, Bool.not_eq_true'] at h
            exact s_set (ps_setTo C hx (K.e C h.2) (swapsWith_no h.1 _ _ _))
        · cases h
      · -- own
        split at h
        · rw [Bool.and_eq_true] at h
          obtain ⟨hx, h⟩ := h
          split at h
          · rw [Bool.and_eq_true] at h
            exact s_own (ck_lset C hx h.1 h.2)
          · rw [Bool.and_eq_true, Bool.not_eq_true'] at h
            exact s_own (ps_setTo C hx (K.l C h.2) (swapsWith_no h.1 _ _ _))
        · cases h
      · -- asg
        split at h
        · rename_i tg v pos
          simp only [Bool.and_eq_true, Bool.not_eq_true'] at h
          obtain ⟨⟨⟨⟨h1, h2⟩, h3⟩, h4⟩, h5⟩ := h
          cases tg <;> first | cases h1 | skip
          refine s_asg (ps_asg (K.e C h4) ((sg_ck C).1 h2) (swapsSole_no h3 _ _ _) ?_ rfl)
          split at h5
          · rename_i heq
            cases heq
            rw [Bool.and_eq_true, beq_iff_eq] at h5
            rw [swappedStores_tup hkind h5.1, C.sc, h5.2]
          · rename_i hn
            exact swapped_none fun vs k p q => hn _ _ _ vs k p rfl q
        · cases h
      · -- par
        split at h
        · simp only [Bool.and_eq_true, Bool.not_eq_true', beq_eq_false_iff_ne, beq_iff_eq] at h
          obtain ⟨⟨⟨⟨⟨⟨⟨h1, h2⟩, h3⟩, h4⟩, h5⟩, h6⟩, h7⟩, h8⟩ := h
          exact s_par (ps_par C.ok.calm C.ok.nd (by rw [C.N]; exact h2) (by rw [C.N]; exact h3) h1 (by rw [C.sc]; simpa [localB] using h4) (by rw [C.sc]; simpa [localB] using h5) (K.es C h6).1 (by rw [swappedStores_tup hkind h7, C.sc, h8]))
        · cases h
      · -- sset
        split at h
        · simp only [Bool.and_eq_true, Bool.not_eq_true'] at h
          obtain ⟨⟨⟨⟨h1, h2⟩, h3⟩, h4⟩, h5⟩ := h
          refine s_sset (ps_asg (K.e C h5) (pg_sub (K.e C h3) (K.e C h4) set_list ?_) (swapsSole_no h2 _ _ _))
          rename_i pk _ _ _
          intro v
          cases pk <;> first | rfl | cases h1
        · cases h
      · -- app
        split at h
        · simp only [Bool.and_eq_true, beq_iff_eq] at h
          obtain ⟨⟨⟨⟨h1, h2⟩, h3⟩, h4⟩, h5⟩ := h
          obtain ⟨v1, v2, v3, v4⟩ := C.var h2
          subst h1
          refine s_app (ps_expr (pe_bm PySem.F.plainAttrs_list PySem.F.slot_list_append PySem.F.type_list_append mt_append (pe_var v1 v2 v3 v4) (pa_cons (K.e C h5) pa_nil (starEach_cons h3)) rfl ?_ (by simpa using h4) (starEach_cons h3) rfl) rfl)
          rw [Bool.and_eq_true, Bool.and_eq_true]
          exact ⟨⟨noStar_all (by rw [List.all_cons, h3]; rfl), rfl⟩, rfl⟩
        · cases h
      · -- expr
        split at h
        · rw [Bool.and_eq_true, Bool.not_eq_true'] at h
          exact s_expr (K.e C h.2) (swapsWith_no h.1 _ _ _)
        · cases h
      · -- aug
        split at h
        · simp only [Bool.and_eq_true] at h
          obtain ⟨⟨⟨h1, h2⟩, h3⟩, h4⟩ := h
          obtain ⟨v1, v2, v3⟩ := C.store h1
          split at h3
          · cases isB_ok h2
            exact s_aug (ps_aug C.ok.nd v1 v2 (K.e C h4) ip_add v3) (.inl ⟨rfl, rfl⟩)
          · cases isB_ok h2
            exact s_aug (ps_aug C.ok.nd v1 v2 (K.e C h4) ip_sub v3) (.inr ⟨rfl, rfl⟩)
          · cases h3
        · cases h
      · -- if
        split at h
        · simp only [Bool.and_eq_true] at h
          exact s_if (K.t C h.1.1) (ih.2 h.1.2) (ih.2 h.2)
        · cases h
      · -- for
        split at h
        · simp only [Bool.and_eq_true] at h
          exact s_for hpo C.ok.calm (K.i C false h.1.2) ((sg_ck C).1 h.1.1.1) (ih.2 h.2) (fold_ok h.1.1.2 _)
        · cases h
      · -- while
        split at h
        · simp only [Bool.and_eq_true] at h
          exact s_while hpo (K.t C h.1) (ih.2 h.2)
        · cases h
      · split at h
        · exact s_ret (K.e C h)
        · cases h
      · split at h
        · exact s_retN
        · cases h
      · split at h
        · exact s_pass ps_pass
        · exact s_pass ps_doc
        · cases h
      · split at h
        · exact s_brk
        · cases h
      · split at h
        · exact s_cnt
        · cases h
      · exact s_frzd (ih.1 h)
      · exact s_never
    · unfold ckSs at h
      split at h
      · exact ss_nil
      · rw [Bool.and_eq_true] at h
        exact ss_cons (ih.1 h.1) (ih.2 h.2)
      · cases h
end
end G

set_option Elab.async false
set_option linter.all false
set_option maxRecDepth 100000
set_option maxHeartbeats 8000000
/-! GN: the defs of a program, together. -/
namespace G
open PySem PySem.Spec PyProof.Rows L2
theorem lookup_zip : ∀ {ps : List Str} {us : List Value} {n : Str}, n ∈ ps → us.length = ps.length → ∃ v, List.lookup n (ps.zip us) = some v
  | p :: ps, [], _, _, h => by simp at h
  | p :: ps, u :: us, n, hm, h => by
    rw [List.zip_cons_cons, List.lookup_cons]
    cases hb : n == p with
    | true => exact ⟨u, rfl⟩
    | false =>
      rcases List.mem_cons.mp hm with e | e
      · subst e; simp at hb
      · exact lookup_zip e (by simpa using h)
theorem lookup_zip_nil {ps : List Str} {us : List Value} {p : Str} {u : Value} (h : p ∉ ps) : ∀ {qs : List Str}, (∀ q ∈ qs, q ≠ p) → qs.filterMap (fun n => (List.lookup n ((p, u) :: ps.zip us)).map (n, ·)) = qs.filterMap (fun n => (List.lookup n (ps.zip us)).map (n, ·))
  | [], _ => rfl
  | q :: qs, hq => by
    have e : (q == p) = false := by simpa using hq q List.mem_cons_self
    rw [List.filterMap_cons, List.filterMap_cons, List.lookup_cons, e, lookup_zip_nil h fun r hr => hq r (List.mem_cons_of_mem _ hr)]
theorem filterMap_zip : ∀ {ps : List Str} {us : List Value}, ps.Nodup → us.length = ps.length → ps.filterMap (fun n => (List.lookup n (ps.zip us)).map (n, ·)) = ps.zip us
  | [], [], _, _ => rfl
  | p :: ps, u :: us, hn, h => by
    rw [List.nodup_cons] at hn
    rw [List.filterMap_cons, List.zip_cons_cons, List.lookup_cons, beq_self_eq_true]
    show (p, u) :: ps.filterMap _ = _
    rw [lookup_zip_nil hn.1 (fun q hq e => hn.1 (e ▸ hq)), filterMap_zip hn.2 (by simpa using h)]
  | [], _ :: _, _, h => by simp at h
  | _ :: _, [], _, h => by simp at h
theorem bind_plain (x qual : Str) (args : List Arg) (body : List Stmt) (scope : Scope) (kV doc pm : Value) (an : Option Addr) (cdv ct : Value) (us : List Value) (hn : (args.map (·.arg)).Nodup) (hl : us.length = args.length) :
   bindArgs (PySem.W.fnOf x qual ⟨[], args, none, [], [], none, []⟩ body scope .none kV doc pm an cdv ct) ⟨us, []⟩ = pure ((args.map (·.arg)).zip us) := by
  have h1 : ∀ qs : List Str, (∀ q ∈ qs, q ∈ args.map (·.arg)) → (qs.filter fun n => (List.lookup n ((args.map (·.arg)).zip us)).isNone) = [] := fun qs hq => by
    rw [List.filter_eq_nil_iff]
    intro q hm
    obtain ⟨v, e⟩ := lookup_zip (hq q hm) (by simpa using hl)
    rw [e]; simp
  have h2 := filterMap_zip hn (by simpa using hl)
  rw [List.filterMap_map] at h2
  unfold bindArgs PySem.W.fnOf
  simp [seqItems?, hl]
  rw [if_neg (by rw [h1 _ (fun q hq => by simpa using List.mem_of_mem_take hq)]; simp), h2]
  rfl

/-- a def: its name, the names of its places (parameters first), its parameters, its text, its text in the small language -/
structure DefI where
  name : Str
  qual : Str
  N : List Str
  ps : List Str
  args : Arguments
  sbody : List Stmt
  scope : Scope
  body : List Stm
  kw : List Sh := []
def DefI.fn (d : DefI) : Fn := ⟨d.N.length, d.ps.length, d.body⟩
def tabOf (ds : List DefI) : Tab := ds.map fun d => (d.name, d.fn)
def fsOf (ds : List DefI) : List (Str × FnI) := ds.map fun d => (d.name, ⟨d.name, d.ps, d.kw⟩)
def fsB (N ps : List Str) (sc : Scope) : Bool := (sc.kind == .function) && !sc.isCoroutine && !sc.isGenerator && decide N.Nodup && (N.take ps.length == ps) && ps.all (fun x => sc.names.lookup x == some .local || sc.names.lookup x == some .cell) && sc.names.all (fun y => !(y.2 == .free))
def argsB : Arguments → List Str → Bool
  | ⟨[], args, none, [], [], none, []⟩, ps => args.map (·.arg) == ps
  | _, _ => false
def DefI.ck (d : DefI) (bl : List Str) (cs : List (Str × AV)) (fs : List (Str × FnI)) : CK := ⟨d.N, d.scope, fun _ => true, bl, cs, fs⟩
def fuelS : Nat := 200
def ckDef (bl : List Str) (cs : List (Str × AV)) (fs : List (Str × FnI)) (d : DefI) : Bool :=
  fsB d.N d.ps d.scope && decide d.ps.Nodup && argsB d.args d.ps && ckSs (d.ck bl cs fs) fuelS d.body d.sbody
theorem fsB_ok {N ps : List Str} {sc : Scope} (h : fsB N ps sc = true) : FnScope N ps sc := by
  simp only [fsB, Bool.and_eq_true, Bool.not_eq_true', decide_eq_true_eq, beq_iff_eq, List.all_eq_true, Bool.or_eq_true, beq_eq_false_iff_ne] at h
  obtain ⟨⟨⟨⟨⟨⟨h1, h2⟩, h3⟩, h4⟩, h5⟩, h6⟩, h7⟩ := h
  exact ⟨h1, h2, h3, h4, h5, h6, h7⟩
theorem args_binds {K : PySem.W.Frag} {x qual : Str} {params : Arguments} {body : List Stmt} {scope : Scope} {f : Addr} {fd : FuncData} {ps : List Str} (F : FunD K x qual params body scope [] [] f fd) (hn : ps.Nodup) (h : argsB params ps = true) :
    Binds K fd ps [] ∧ ∀ (s : Shared) (us : List Value), us.length = ps.length → BindsTo s fd ⟨us, []⟩ (ps.zip us) := by
  unfold argsB at h
  split at h
  · rw [beq_iff_eq] at h
    subst h
    exact ⟨F.bindsN fun kV doc pm an cdv ct us hl => bind_plain x qual _ body scope kV doc pm an cdv ct us hn (by simpa using hl), fun s us hl => F.bindsA (fun kV doc pm an cdv ct us hl => bind_plain x qual _ body scope kV doc pm an cdv ct us hn (by simpa using hl)) s us hl⟩
  · cases h
theorem lookup_tab : ∀ {ds : List DefI} {d : DefI}, (ds.map (·.name)).Nodup → d ∈ ds → (tabOf ds).lookup d.name = some d.fn
  | d :: ds, e, hn, hm => by
    rw [List.map_cons, List.nodup_cons] at hn
    show List.lookup e.name ((d.name, d.fn) :: tabOf ds) = _
    rw [List.lookup_cons]
    rcases List.mem_cons.mp hm with q | q
    · subst q; rw [beq_self_eq_true]
    · have : (e.name == d.name) = false := by
        rw [beq_eq_false_iff_ne]
        intro z
        exact hn.1 (List.mem_map.mpr ⟨e, q, z⟩)
      rw [this]
      exact lookup_tab hn.2 q
theorem lookup_fs : ∀ {ds : List DefI} {x : Str} {i : FnI}, (fsOf ds).lookup x = some i → ∃ d ∈ ds, d.name = x ∧ i = ⟨d.name, d.ps, d.kw⟩
  | [], _, _, h => by simp [fsOf] at h
  | d :: ds, x, i, h => by
    have h : List.lookup x ((d.name, (⟨d.name, d.ps, d.kw⟩ : FnI)) :: fsOf ds) = some i := h
    rw [List.lookup_cons] at h
    cases hb : x == d.name with
    | true =>
      rw [hb] at h
      cases h
      rw [beq_iff_eq] at hb
      exact ⟨d, List.mem_cons_self, hb.symm, rfl⟩
    | false =>
      rw [hb] at h
      obtain ⟨e, h1, h2, h3⟩ := lookup_fs h
      exact ⟨e, List.mem_cons_of_mem _ h1, h2, h3⟩
/-- a call by keywords binds so -/
def KwEq (d : DefI) (sh : Sh) : Prop := ∀ (kV doc pm : Value) (an : Option Addr) (cdv ct : Value) (us ws : List Value), us.length = sh.n → ws.length = sh.ks.length →
  bindArgs (PySem.W.fnOf d.name d.qual d.args d.sbody d.scope .none kV doc pm an cdv ct) ⟨us, sh.ks.zip ws⟩ = pure (d.ps.zip (shG sh us ws))
theorem KwEq.kbn {K : PySem.W.Frag} {d : DefI} {sh : Sh} {f : Addr} {fd : FuncData} (h : KwEq d sh) (F : FunD K d.name d.qual d.args d.sbody d.scope [] [] f fd) : KBn K fd d.ps sh.n sh.ks (shG sh) (shV sh) := by
  obtain ⟨oc, od, dV, kV, doc, pm, an, cdv, ct, osl, rfl, lk, hcd, hD, hK⟩ := F.ex
  rcases hD with ⟨_, rfl⟩ | ⟨e, _⟩
  · exact ⟨fun s us ws _ l1 l2 => .of_eq (h kV doc pm an cdv ct us ws l1 l2), fun r r' => shV_rel sh r r'⟩
  · exact absurd rfl e
/-- no exception is wanted -/
def wrN : XK → Prop := fun E => ∀ c d H, E c d H → False
/-- a def as it stands behind the top -/
def Stands (K : PySem.W.Frag) (mg : Str → Option Value) (d : DefI) : Prop := ∃ f fd, mg d.name = some (.ref f) ∧ FunD K d.name d.qual d.args d.sbody d.scope [] [] f fd
section
variable {P : Program} {w : World} {K : PySem.W.Frag} {mg : Str → Option Value} {base : Heap} {ds : List DefI} {bl : List Str} {cs : List (Str × AV)}
theorem start_rel {X : Cx} {ρ : List Addr} {ex : Addr → Prop} {ah : AH} {H : Hp} {N : List Str} {avs : List AV} {vs : List V} (hp : HRel X.K X.mg ρ ex ah H) (rs : Reps X.K X.mg ρ ex H avs vs) :
    SR X ρ ex H ρ ex ((L2.start N vs).map fun _ => none) (start N.length avs) ah (L2.start N vs) H := by
  refine ⟨⟨hp, ?_, by simp, fun i s v w e1 e2 e3 => ?_, fun i a e => ?_, fun i j a e1 e2 => ?_⟩, .refl, fun _ x => x, fun i a e => ?_, fun a m => hp.ne m, hp.exOk⟩
  · simp [start, L2.start, rs.length]
  · unfold start at e1
    unfold L2.start at e2
    by_cases hi : i < avs.length
    · rw [List.getElem?_append_left (by simpa using hi), List.getElem?_map] at e1
      rw [List.getElem?_append_left (by simpa [← rs.length] using hi), List.getElem?_map] at e2
      obtain ⟨x, f1, rfl⟩ := Option.map_eq_some_iff.mp e1
      obtain ⟨u, f2, rfl⟩ := Option.map_eq_some_iff.mp e2
      obtain ⟨u', f3, r⟩ := rs.get f1
      rw [f2] at f3; cases f3
      exact ⟨u, rfl, r⟩
    · rw [List.getElem?_append_right (by simpa using hi)] at e1
      have : s = .un := List.eq_of_mem_replicate (List.mem_of_getElem? e1)
      subst this
      trivial
  all_goals
    rw [List.getElem?_map] at *
    simp at *
theorem prog_ok (hsm : (K.lookup sysModules).isSome = true) (hkw : ∀ d ∈ ds, ∀ sh ∈ d.kw, KwEq d sh) (hn : (ds.map (·.name)).Nodup) (hs : ∀ d ∈ ds, Stands K mg d) (hb : ∀ x ∈ bl, mg x = none) (hc : ∀ x v, cs.lookup x = some v → ∃ u v', mg x = some u ∧ RelV v' u ∧ ∀ ρ ex H, Rep K mg ρ ex H v v')
    (hk : ds.all (ckDef bl cs (fsOf ds)) = true) : ∀ (k : Nat) (d : DefI), d ∈ ds → ∀ (f : Addr) (fd : FuncData), FunD K d.name d.qual d.args d.sbody d.scope [] [] f fd → FnG P w K mg base CX0 k f fd d.ps (spG K mg wrN (callN (tabOf ds) k) d.name d.ps.length)
  | 0, d, _, f, fd, _ => ⟨fun vs H Q E h => h.1, fun A outer s H args us vs Q E hr gd he hbt hv h => by
    obtain ⟨_, _, ρ, ex, ah, avs, _, _, P⟩ := h
    exact P.elim⟩
  | k + 1, d, hd, f, fd, F => by
    have ih := prog_ok hsm hkw hn hs hb hc hk k
    have hkd := List.all_eq_true.mp hk d hd
    simp only [ckDef, Bool.and_eq_true, decide_eq_true_eq] at hkd
    obtain ⟨⟨⟨k1, k2⟩, k3⟩, k4⟩ := hkd
    refine FnG.of F (fsB_ok k1) (fun vs H Q E h => h.1) fun cdv A outer s H vs Q E hr gd h => ?_
    refine ⟨tSs (cxOf CX0 P w K mg base d.N d.qual d.scope f cdv A outer s H E).nox noE (callN (tabOf ds) k) d.body, PSs.nox ?_, ?_⟩
    · refine (cks_ok (X := (cxOf CX0 P w K mg base d.N d.qual d.scope f cdv A outer s H E).nox) (E := noE) (Γ := d.ck bl cs (fsOf ds)) (CX := CX0) (Wr := wrN) ⟨⟨rfl, (fsB_ok k1).nd, hr.units, gd, hsm⟩, rfl, rfl, (fsB_ok k1).kind, fun _ _ => rfl, hb, hc, fun x i hx => ?_, fun _ _ _ _ _ _ _ z => z.elim, fun _ _ _ z => z, fun _ _ _ z => z, fun _ _ _ _ _ z => z.elim⟩ PassesOwn.never fuelS).2 k4
      obtain ⟨e, he, rfl, rfl⟩ := lookup_fs hx
      obtain ⟨f', fd', m1, F'⟩ := hs e he
      have hke := List.all_eq_true.mp hk e he
      simp only [ckDef, Bool.and_eq_true, decide_eq_true_eq] at hke
      exact ⟨f', fd', k, m1, F'.kp, hr, ih e he f' fd' F', (args_binds F' hke.1.1.2 hke.1.2).1, fun sh hsh => (hkw e he sh hsh).kbn F'⟩
    · obtain ⟨hl, hw, ρ, ex, ah, avs, hp, rs, P0⟩ := h
      simp only [callN, lookup_tab hn hd] at P0
      unfold runFn at P0
      obtain ⟨c, P0⟩ := P0.ite
      rw [Post.bind] at P0
      refine ⟨ρ, ex, H, ρ, ex, _, _, ah, start_rel (X := (cxOf CX0 P w K mg base d.N d.qual d.scope f cdv A outer s H E).nox) hp rs, P0.imp (fun fl h1 P1 => ?_) (fun x h1 k => ?_)⟩
      · cases fl with
        | nx σ1 => exact fun ρ' ex' ws' σ' H' R' st' => P1 ρ' H' .non R'.ext (R'.st.hp.less R'.exL) .non
        | rt v => exact fun ρ' H' v' a hp' r => P1 ρ' H' v' a hp' r
        | bk _ => exact P1.elim
        | ct _ => exact P1.elim
      · exact fun ρ' H' c d a hp r => hw c d H' (k ρ' H' c d a hp r)
end
end G

set_option Elab.async false
set_option linter.all false
set_option maxRecDepth 100000
set_option maxHeartbeats 4000000
/-! GP: what is looked at behind the top: the defs, free names, constants, the row of modules; a law's end. -/
namespace G
open PySem PySem.Spec PyProof.Rows L2
abbrev AlS : Type := He.AlD × Bool
def fragS (g : Addr → Option Obj) (n : Nat) : PySem.W.Frag := He.frG g (sysModules :: He.asD g n)
def obsS (n : Nat) (fa : List He.Fa) (fn : List He.DefD) (g : Addr → Option Obj) : AlS := (He.obsD fa fn (fragS g n), ((fragS g n).lookup sysModules).isSome)
def SaysS (fa : List He.Fa) (fn : List He.DefD) (K : PySem.W.Frag) : Prop := He.SaysD fa fn K ∧ (K.lookup sysModules).isSome = true
def hookS (n : Nat) (fa : List He.Fa) (fn : List He.DefD) : PySem.W.Hook where
  α := AlS
  obs := fun s => obsS n fa fn s.heap.get?
  val := fun _ => (He.valD fn, true)
  says := fun _ h => ∃ K : PySem.W.Frag, K.In h ∧ SaysS fa fn K
  of := fun _ _ e => ⟨_, He.frG_in, congrArg Prod.fst e, congrArg Prod.snd e⟩
  keeps := fun _ _ _ ⟨K, hK, c⟩ k => ⟨K, PySem.W.Frag.In.keeps hK k, c⟩
theorem obsS_eq {n : Nat} {fa : List He.Fa} {fn : List He.DefD} {g : Addr → Option Obj} {s : Shared} (h : ∀ a, g a = s.heap.get? a) : obsS n fa fn g = (hookS n fa fn).obs s := by
  have e : g = s.heap.get? := funext h
  rw [e]
  rfl
/-- a def, looked at -/
def DefI.dd (d : DefI) : He.DefD := ⟨(d.name, none), d.name, d.qual, d.args, d.sbody, d.scope, [], []⟩
/-- what is asked of the names: the defs, then the free ones -/
def faOf (ds : List DefI) (bl : List Str) : List He.Fa := ds.map (fun d => .glo d.name) ++ bl.map .free
section
variable {K : PySem.W.Frag} {mg : Str → Option Value} {h : Heap} {ds : List DefI} {bl : List Str} {more : List He.Fa}
theorem says_fa (c : SaysS (faOf ds bl ++ more) (ds.map DefI.dd) K) {f : He.Fa} (hm : f ∈ faOf ds bl ++ more) : f.ok K = true := by
  obtain ⟨i, hi, e⟩ := List.getElem_of_mem hm
  exact c.1.fact i (by rw [List.getElem?_eq_getElem hi, e])
theorem says_stands (KX : K.In h) (Gn : h.Ns mainGlobals mg) (c : SaysS (faOf ds bl ++ more) (ds.map DefI.dd) K) : ∀ d ∈ ds, Stands K mg d := fun d hd => by
  have hm : d.dd ∈ ds.map DefI.dd := List.mem_map.mpr ⟨d, hd, rfl⟩
  obtain ⟨i, hi, e⟩ := List.getElem_of_mem hm
  obtain ⟨fd, F⟩ := c.1.def_ i (d := d.dd) (by rw [List.getElem?_eq_getElem hi, e])
  have q := He.glo_ok KX Gn (says_fa c (List.mem_append_left _ (List.mem_append_left _ (List.mem_map.mpr ⟨d, hd, rfl⟩))))
  exact ⟨_, fd, q, F⟩
theorem says_free (KX : K.In h) (Gn : h.Ns mainGlobals mg) (c : SaysS (faOf ds bl ++ more) (ds.map DefI.dd) K) : ∀ x ∈ bl, mg x = none := fun x hx =>
  He.free_ok KX Gn (says_fa c (List.mem_append_left _ (List.mem_append_right _ (List.mem_map.mpr ⟨x, hx, rfl⟩))))
end
theorem sqS_of {K : PySem.W.Frag} {H : Hp} {a : Addr} {ns : List Int} (o : Only H) (h : SqL K H a (ns.map V.int)) : SqS K H a ns := by
  rcases h with (h | h) | h
  · rcases o a with z | ⟨ob, xs, z⟩
    · rw [h] at z; cases z
    · rw [h] at z; cases z
  · exact .inl h
  · exact .inr h
/-- THE END: a law whose def comes to True in the small language -/
theorem law_end {l : PySem.W.OpenLaw} {k n : Nat} {q : Program} {loose : List Str} {XP : (Str → Option Value) → Heap → Prop} {d : DefRec} {x : Str} {ds : List DefI} {bl : List Str} {cs : List (Str × AV)} {more : List He.Fa} {dl : DefI}
    (hn : l.most = some 63) (hdf : d.params.defaults = []) (hr : Room k callerA) (hm : dl ∈ ds) (hname : d.name = dl.name) (hps : dl.ps = [x])
    (hkw : ∀ d ∈ ds, ∀ sh ∈ d.kw, KwEq d sh) (hnd : (ds.map (·.name)).Nodup) (hk : ds.all (ckDef bl cs (fsOf ds)) = true)
    (hcs : ∀ (K : PySem.W.Frag) (mg : Str → Option Value) (h : Heap), K.In h → h.Ns mainGlobals mg → SaysS (faOf ds bl ++ more) (ds.map DefI.dd) K → ∀ x v, cs.lookup x = some v → ∃ u v', mg x = some u ∧ RelV v' u ∧ ∀ ρ ex H, Rep K mg ρ ex H v v')
    (hlaw : ∀ ns : List Int, ns.length ≤ 63 → ∃ h, callN (tabOf ds) k dl.name [.scr ns] [] = .ok (.bl true) h) :
    PySem.W.WalkO q loose XP (fun _ h => ∃ K : PySem.W.Frag, K.In h ∧ SaysS (faOf ds bl ++ more) (ds.map DefI.dd) K) l.row.toRowW d [] (fun f vs => PySem.call f vs) := by
  refine walk_G (k := k) (x := x) hn (by decide) hdf hr fun w mg fa h ⟨K, KX, c⟩ Gn hmg => ?_
  obtain ⟨f, fd, e1, F⟩ := says_stands KX Gn c dl hm
  rw [hname, e1] at hmg
  cases hmg
  have hkl := List.all_eq_true.mp hk dl hm
  simp only [ckDef, Bool.and_eq_true, decide_eq_true_eq] at hkl
  have B := (args_binds F hkl.1.1.2 hkl.1.2).2
  refine ⟨K, fd, spG K mg wrN (callN (tabOf ds) k) dl.name dl.ps.length, KX, fun s u => ?_, fun H a ns hl hO hS => ?_, fun base hb1 hb2 => ?_⟩
  · have := B s [u] (by rw [hps]; rfl)
    rw [hps] at this
    exact this
  · obtain ⟨h2, e⟩ := hlaw ns hl
    refine ⟨by rw [hps]; rfl, fun _ _ _ z => z, [], (fun _ => False), [], [.scr ns], ⟨rfl, .nil, fun _ m => (by cases m), fun _ z => z.elim, fun n c a e1 _ => (by simp at e1)⟩, .cons (.scr (sqS_of hO hS)) .nil, ?_⟩
    rw [e]
    intro ρ' H' v' _ _ r
    cases r
    rfl
  · have := prog_ok (P := l.prog) (w := w) (K := K) (mg := mg) (base := base) c.2 hkw hnd (says_stands KX Gn c) (says_free KX Gn c) (hcs K mg h KX Gn c) hk k dl hm _ fd F
    rw [hps] at this ⊢
    exact this
end G

set_option Elab.async false
set_option linter.all false
set_option maxRecDepth 100000
set_option maxHeartbeats 0
namespace K1
open PySem PySem.Spec PyProof.Rows L2 G
def top (i : Nat) : Stmt := PySem.Challenge.pw_giveway_k01_charts_looked_at.main.body.getD i (.Pass ⟨0, 0, 0, 0⟩)
def b_is_whole : List Stm := [(.ret (.and (.isi (.var 0) [.int]) (.not (.isi (.var 0) [.bool]))))]
def d_is_whole : DefI := { name := "is_whole", qual := "is_whole", N := ["thing"], ps := ["thing"], args := defArgs (top 1), sbody := defBody (top 1), scope := defScope (top 1), body := b_is_whole }
def b_is_within : List Stm := [(.ret (.and (.call "is_whole" [(.var 0)]) (.chain .le .le (.var 1) (.var 0) (.var 2))))]
def d_is_within : DefI := { name := "is_within", qual := "is_within", N := ["thing", "least", "most"], ps := ["thing", "least", "most"], args := defArgs (top 2), sbody := defBody (top 2), scope := defScope (top 2), body := b_is_within }
def b_are_points : List Stm := [(.ife (.or (.not (.e (.isi (.var 1) [.tuple]))) (.not (.e (.bi .all [(.comp (.cl (.nm 2) (.sq (.var 1)) [] (.elt (.call "is_within" [(.var 2), (.c (.int 0)), (.bin .sub (.var 0) (.c (.int 1)))]))))])))) [(.ret (.c (.bl false)))] []), (.ret (.bi .all [(.comp (.cl (.tp [(.nm 2), (.nm 3)]) (.zp (.var 1) (.slice (.var 1) (some (.c (.int 1))) none)) [] (.elt (.cmp .lt (.var 2) (.var 3)))))]))]
def d_are_points : DefI := { name := "are_points", qual := "are_points", N := ["many", "thing", "one", "other"], ps := ["many", "thing"], args := defArgs (top 3), sbody := defBody (top 3), scope := defScope (top 3), body := b_are_points }
def b_is_chart : List Stm := [(.ret (.and (.isi (.var 0) [.tuple]) (.bi .all [(.comp (.cl (.nm 1) (.sq (.var 0)) [] (.elt (.call "are_points" [(.bi .len [(.var 0)]), (.var 1)]))))])))]
def d_is_chart : DefI := { name := "is_chart", qual := "is_chart", N := ["thing", "nexts"], ps := ["thing"], args := defArgs (top 4), sbody := defBody (top 4), scope := defScope (top 4), body := b_is_chart, kw := [⟨0, ["thing"], [0]⟩] }
def b__law_cell_at : List Stm := [(.ife (.e (.cmp .lt (.var 1) (.bi .len [(.var 0)]))) [(.ret (.sub (.var 0) (.var 1)))] []), (.ret (.c (.int 0)))]
def d__law_cell_at : DefI := { name := "_law_cell_at", qual := "_law_cell_at", N := ["_law_script", "_law_k"], ps := ["_law_script", "_law_k"], args := defArgs (top 6), sbody := defBody (top 6), scope := defScope (top 6), body := b__law_cell_at }
def b__law_state : List Stm := [(.set 2 (.call "_law_cell_at" [(.var 0), (.var 1)])), (.ret (.cell (.lst [(.bi .max [(.c (.int 0)), (.bin .sub (.var 2) (.bin .pow (.c (.int 10)) (.c (.int 18))))]), (.bin .add (.bin .mod (.var 2) (.c (.int 2147483629))) (.c (.int 1))), (.c (.int 0))])))]
def d__law_state : DefI := { name := "_law_state", qual := "_law_state", N := ["_law_script", "_law_k", "_law_cell"], ps := ["_law_script", "_law_k"], args := defArgs (top 7), sbody := defBody (top 7), scope := defScope (top 7), body := b__law_state }
def b__law_choice : List Stm := [(.ife (.e (.cmp .gt (.sub (.var 0) (.c (.int 0))) (.c (.int 0)))) [(.set 3 (.bin .mod (.sub (.var 0) (.c (.int 0))) (.var 1))), (.sset (.var 0) (.c (.int 0)) (.bin .fdiv (.sub (.var 0) (.c (.int 0))) (.var 1))), (.ret (.var 3))] []), (.sset (.var 0) (.c (.int 2)) (.bin .add (.sub (.var 0) (.c (.int 2))) (.c (.int 1)))), (.sset (.var 0) (.c (.int 1)) (.bin .mod (.bin .add (.bin .add (.bin .mul (.sub (.var 0) (.c (.int 1))) (.c (.int 48271))) (.c (.int 29))) (.sub (.var 0) (.c (.int 2)))) (.c (.int 2147483647)))), (.set 2 (.bin .mod (.bin .add (.bin .add (.bin .mul (.sub (.var 0) (.c (.int 1))) (.sub (.var 0) (.c (.int 1)))) (.bin .mul (.c (.int 39373)) (.sub (.var 0) (.c (.int 1))))) (.c (.int 7))) (.c (.int 2147483629)))), (.set 2 (.bin .mod (.bin .add (.bin .mul (.var 2) (.var 2)) (.bin .mul (.c (.int 50021)) (.var 2))) (.c (.int 2147483587)))), (.ret (.bin .mod (.bin .fdiv (.var 2) (.c (.int 8))) (.var 1)))]
def d__law_choice : DefI := { name := "_law_choice", qual := "_law_choice", N := ["_law_state_here", "_law_many", "_law_mixed", "_law_found"], ps := ["_law_state_here", "_law_many"], args := defArgs (top 8), sbody := defBody (top 8), scope := defScope (top 8), body := b__law_choice }
def b__law_whole : List Stm := [(.ret (.and (.isi (.var 0) [.int]) (.not (.isi (.var 0) [.bool]))))]
def d__law_whole : DefI := { name := "_law_whole", qual := "_law_whole", N := ["_law_item"], ps := ["_law_item"], args := defArgs (top 9), sbody := defBody (top 9), scope := defScope (top 9), body := b__law_whole }
def b__law_odd : List Stm := [(.set 1 (.lst [(.c .non), (.c (.bl true)), (.c (.bl false)), (.c (.int 0)), (.c (.int 1)), (.neg (.c (.int 1))), (.bin .pow (.c (.int 10)) (.c (.int 29))), (.c (.str "")), (.c (.str "a")), (.c (.str "G")), (.c (.str "tie")), (.tup []), (.lst []), (.dis [] []), (.tup [(.c (.int 0))]), (.lst [(.c (.int 0))]), (.tup [(.c .non)])])), (.set 1 (.bin .add (.var 1) (.lst [(.tup [(.tup [])]), (.c (.str "actor"))]))), (.ret (.sub (.bin .add (.var 1) (.lst [(.c (.str "show")), (.dis [(.inl 0)] [(.int 1)]), (.tup [(.c (.str "tie")), (.c (.int 0))]), (.tup [(.c (.int 0)), (.c (.int 1))])])) (.call "_law_choice" [(.var 0), (.c (.int 23))])))]
def d__law_odd : DefI := { name := "_law_odd", qual := "_law_odd", N := ["_law_state_here", "_law_some"], ps := ["_law_state_here"], args := defArgs (top 10), sbody := defBody (top 10), scope := defScope (top 10), body := b__law_odd }
def b__law_bent : List Stm := [(.ife (.and (.e (.isi (.var 1) [.tuple])) (.and (.e (.cmp .ne (.var 1) (.tup []))) (.e (.cmp .gt (.call "_law_choice" [(.var 0), (.c (.int 5))]) (.c (.int 0)))))) [(.set 3 (.call "_law_choice" [(.var 0), (.bi .len [(.var 1)])])), (.ret (.bin .add (.bin .add (.slice (.var 1) none (some (.var 3))) (.tup [(.call "_law_bent" [(.var 0), (.sub (.var 1) (.var 3))])])) (.slice (.var 1) (some (.bin .add (.var 3) (.c (.int 1)))) none)))] []), (.set 2 (.call "_law_choice" [(.var 0), (.c (.int 9))])), (.ife (.and (.e (.isi (.var 1) [.tuple])) (.e (.cmp .lt (.var 2) (.c (.int 7))))) [(.own 4 (.lst [(.bin .add (.var 1) (.slice (.var 1) (some (.neg (.c (.int 1)))) none)), (.slice (.var 1) none (some (.neg (.c (.int 1))))), (.slice (.var 1) (some (.c (.int 1))) none), (.rev (.var 1)), (.bi .list [(.var 1)]), (.bin .add (.var 1) (.tup [(.c (.int 0))]))])), (.app 4 (.bin .add (.var 1) (.tup [(.var 1)]))), (.ret (.sub (.var 4) (.var 2)))] []), (.ife (.and (.e (.call "_law_whole" [(.var 1)])) (.e (.cmp .lt (.var 2) (.c (.int 6))))) [(.ret (.bin .add (.var 1) (.sub (.lst [(.c (.int 1)), (.neg (.c (.int 1))), (.c (.int 2)), (.c (.int 9999)), (.neg (.c (.int 9999))), (.c (.int 5))]) (.var 2))))] []), (.ife (.and (.e (.isi (.var 1) [.str])) (.e (.cmp .lt (.var 2) (.c (.int 6))))) [(.ret (.sub (.lst [(.bin .add (.var 1) (.c (.str "a"))), (.slice (.var 1) none (some (.neg (.c (.int 1))))), (.upper (.var 1)), (.bin .add (.c (.str "G")) (.var 1)), (.bin .add (.var 1) (.c (.str " "))), (.c (.str "send"))]) (.var 2)))] []), (.ret (.call "_law_odd" [(.var 0)]))]
def d__law_bent : DefI := { name := "_law_bent", qual := "_law_bent", N := ["_law_state_here", "_law_item", "_law_way", "_law_at", "_law_more"], ps := ["_law_state_here", "_law_item"], args := defArgs (top 11), sbody := defBody (top 11), scope := defScope (top 11), body := b__law_bent }
def b__law_chart : List Stm := [(.asg (.tp [(.nm 2), (.nm 3)]) (.tup [(.call "_law_choice" [(.var 0), (.bin .add (.var 1) (.c (.int 1)))]), (.sub (.lst [(.c (.int 1)), (.c (.int 2)), (.c (.int 4)), (.c (.int 7))]) (.call "_law_choice" [(.var 0), (.c (.int 4))]))])), (.ret (.bi .tuple [(.comp (.cl (.nm 4) (.rg (.c (.int 0)) (.var 2)) [] (.elt (.bi .tuple [(.comp (.cl (.nm 5) (.rg (.c (.int 0)) (.var 2)) [(.e (.cmp .lt (.call "_law_choice" [(.var 0), (.c (.int 8))]) (.var 3)))] (.elt (.var 5))))]))))]))]
def d__law_chart : DefI := { name := "_law_chart", qual := "_law_chart", N := ["_law_state_here", "_law_most", "_law_many", "_law_share", "_law_point", "_law_to"], ps := ["_law_state_here", "_law_most"], args := defArgs (top 12), sbody := defBody (top 12), scope := defScope (top 12), body := b__law_chart }
def b__law_is_chart : List Stm := [(.ife (.not (.e (.isi (.var 0) [.tuple]))) [(.ret (.c (.bl false)))] []), (.for (.nm 1) (.sq (.var 0)) [(.ife (.or (.not (.e (.isi (.var 1) [.tuple]))) (.e (.cmp .ne (.comp (.cl (.nm 2) (.sq (.var 1)) [(.not (.e (.call "_law_whole" [(.var 2)])))] (.elt (.var 2)))) (.lst [])))) [(.ret (.c (.bl false)))] []), (.ife (.or (.e (.cmp .ne (.bi .list [(.var 1)]) (.sset (.var 1)))) (.e (.cmp .ne (.comp (.cl (.nm 2) (.sq (.var 1)) [(.not (.e (.chain .le .lt (.c (.int 0)) (.var 2) (.bi .len [(.var 0)]))))] (.elt (.var 2)))) (.lst [])))) [(.ret (.c (.bl false)))] [])]), (.ret (.c (.bl true)))]
def d__law_is_chart : DefI := { name := "_law_is_chart", qual := "_law_is_chart", N := ["_law_item", "_law_nexts", "_law_one"], ps := ["_law_item"], args := defArgs (top 13), sbody := defBody (top 13), scope := defScope (top 13), body := b__law_is_chart }
def b_law : List Stm := [(.for (.nm 1) (.rg (.c (.int 0)) (.bi .max [(.c (.int 1)), (.bi .min [(.bi .len [(.var 0)]), (.c (.int 6))])])) [(.set 2 (.call "_law_state" [(.var 0), (.var 1)])), (.for (.nm 3) (.rg (.c (.int 0)) (.c (.int 4))) [(.set 4 (.call "_law_chart" [(.var 2), (.c (.int 12))])), (.ife (.e (.cmp .isn (.callK "is_chart" [(.var 4)] [0]) (.c (.bl true)))) [(.ret (.c (.bl false)))] []), (.set 5 (.lst [(.bi .list [(.var 4)]), (.bin .add (.var 4) (.tup [(.var 4)])), (.tup [(.c (.int 0))]), (.tup [(.bi .len [(.var 4)])]), (.call "_law_odd" [(.var 2)]), (.tup [(.tup [(.c (.int 0)), (.c (.int 0))])])])), (.set 5 (.bin .add (.var 5) (.lst [(.tup [(.tup [(.c (.bl true))])]), (.tup [(.tup [(.c (.int 1))])])]))), (.for (.nm 6) (.rg (.c (.int 0)) (.c (.int 5))) [(.set 7 (.call "_law_bent" [(.var 2), (.var 4)])), (.set 5 (.bin .add (.var 5) (.lst [(.var 7), (.call "_law_bent" [(.var 2), (.var 7)]), (.call "_law_bent" [(.var 2), (.call "_law_bent" [(.var 2), (.var 7)])])])))]), (.for (.nm 7) (.sq (.var 5)) [(.set 8 (.bi .repr [(.var 7)])), (.ife (.or (.e (.cmp .ne (.bi .repr [(.call "is_chart" [(.var 7)])]) (.bi .repr [(.call "_law_is_chart" [(.var 7)])]))) (.e (.cmp .ne (.bi .repr [(.var 7)]) (.var 8)))) [(.ret (.c (.bl false)))] [])])])]), (.ret (.c (.bl true)))]
def d_law : DefI := { name := "law", qual := "law", N := ["_law_script", "_law_k", "_law_state_here", "_law_turn", "_law_chart_here", "_law_things", "_law_lap", "_law_item", "_law_kept"], ps := ["_law_script"], args := defArgs (top 14), sbody := defBody (top 14), scope := defScope (top 14), body := b_law }
def ds : List DefI := [d_is_whole, d_is_within, d_are_points, d_is_chart, d__law_cell_at, d__law_state, d__law_choice, d__law_whole, d__law_odd, d__law_bent, d__law_chart, d__law_is_chart, d_law]
def bl : List Str := ["all", "bool", "int", "isinstance", "len", "list", "max", "min", "range", "repr", "set", "sorted", "str", "tuple", "zip"]
theorem chk : ds.all (ckDef bl [] (fsOf ds)) = true := by kernel_rfl
end K1

set_option linter.all false
set_option maxRecDepth 100000
set_option maxHeartbeats 4000000
namespace K1
open PySem G
def T : Tab := tabOf ds
abbrev C (n : Nat) (f : Str) (vs : List AV) (h : AH) : Rs AV := callN T n f vs h
theorem step (n : Nat) (f : Str) (fn : Fn) (vs : List AV) (h : AH) (e : T.lookup f = some fn) : C (n + 1) f vs h = runFn (callN T n) fn vs h := by
  simp only [C, callN, e]
/-- things that isinstance knows -/
def known : AV → Bool
  | .ref _ => false
  | .fn _ => false
  | .scr _ => false
  | _ => true
def whole : AV → Bool
  | .int _ => true
  | _ => false
theorem l_is_whole : T.lookup (Str.ofString "is_whole") = some d_is_whole.fn := by kernel_rfl
theorem c_is_whole (n : Nat) (v : AV) (h : AH) (hv : known v = true) : C (n + 1) "is_whole" [v] h = .ok (.bl (whole v)) h := by
  rw [step _ _ _ _ _ l_is_whole]
  cases v <;> first | (simp [known] at hv; done) | simp [runFn, DefI.fn, d_is_whole, b_is_whole, evSs, evS, evE, peek, G.start, hasTys, hasTy, frz, whole]
theorem l_law_whole : T.lookup (Str.ofString "_law_whole") = some d__law_whole.fn := by kernel_rfl
theorem c_law_whole (n : Nat) (v : AV) (h : AH) (hv : known v = true) : C (n + 1) "_law_whole" [v] h = .ok (.bl (whole v)) h := by
  rw [step _ _ _ _ _ l_law_whole]
  cases v <;> first | (simp [known] at hv; done) | simp [runFn, DefI.fn, d__law_whole, b__law_whole, evSs, evS, evE, peek, G.start, hasTys, hasTy, frz, whole]
def within (lo hi : Int) : AV → Bool
  | .int i => decide (lo ≤ i ∧ i ≤ hi)
  | _ => false
theorem l_is_within : T.lookup (Str.ofString "is_within") = some d_is_within.fn := by kernel_rfl
theorem c_is_within (n : Nat) (v : AV) (lo hi : Int) (h : AH) (hv : known v = true) : C (n + 2) "is_within" [v, .int lo, .int hi] h = .ok (.bl (within lo hi v)) h := by
  rw [step _ _ _ _ _ l_is_within]
  have e := c_is_whole n v h hv
  simp only [C] at e
  cases v <;> first | (simp [known] at hv; done) | skip
  case int i =>
    simp only [runFn, DefI.fn, d_is_within, b_is_within, evSs, evS, evE, evEs, peek, G.start, frz, List.map_cons, List.map_nil, List.length_cons, List.length_nil, List.cons_append, List.nil_append, List.getElem?_cons_zero, List.getElem?_cons_succ, Rs.bind_ok, e, whole, opC, opLt, Option.map_some, lift_some, if_true, List.replicate, Nat.sub_self, Nat.reduceAdd]
    by_cases h1 : i < lo
    · have : ¬ (lo ≤ i ∧ i ≤ hi) := by omega
      simp [h1, within, this]
    · by_cases h2 : hi < i
      · have : ¬ (lo ≤ i ∧ i ≤ hi) := by omega
        simp [h1, h2, within, this]
      · have : lo ≤ i ∧ i ≤ hi := by omega
        simp [h1, h2, within, this]
  all_goals simp [runFn, DefI.fn, d_is_within, b_is_within, evSs, evS, evE, evEs, peek, G.start, frz, e, whole, within]
/-! comprehensions that change nothing -/
theorem compL_one {i : Nat} {σ : ASt} {h : AH} {body : ASt → AH → Rs (List AV)} (hi : i < σ.length) (f : AV → List AV) : ∀ {xs : List AV}, (∀ x ∈ xs, body (σ.set i (.vl x)) h = .ok (f x) h) → compL (.nm i) body xs σ h = .ok (xs.flatMap f) h
  | [], _ => rfl
  | x :: xs, hb => by
    simp only [compL, asgT, hi, if_true, lift_some, Rs.bind_ok, hb x (by simp), compL_one hi f fun y hy => hb y (List.mem_cons_of_mem _ hy), List.flatMap_cons]
theorem flat_one {α β : Type} (f : α → β) : ∀ xs : List α, xs.flatMap (fun x => [f x]) = xs.map f
  | [] => rfl
  | x :: xs => by simp [flat_one f xs]
theorem boolsOf_bl : ∀ bs : List Bool, boolsOf (bs.map AV.bl) = some bs
  | [] => rfl
  | b :: bs => by simp [boolsOf, boolsOf_bl bs]
theorem boolsOf_f (f : AV → Bool) : ∀ xs : List AV, boolsOf (xs.map fun x => AV.bl (f x)) = some (xs.map f)
  | [] => rfl
  | b :: bs => by simp [boolsOf, boolsOf_f f bs]
def ltV : AV → AV → Bool
  | .int a, .int b => decide (a < b)
  | _, _ => false
def rise : List AV → Bool
  | x :: y :: r => ltV x y && rise (y :: r)
  | _ => true
def pairLt : AV → Bool
  | .tup [x, y] => ltV x y
  | _ => false
theorem rise_zip : ∀ xs : List AV, ((zipA xs (xs.drop 1)).map pairLt).all id = rise xs
  | [] => rfl
  | [x] => rfl
  | x :: y :: r => by
    have e := rise_zip (y :: r)
    simp only [List.drop_succ_cons, List.drop_zero] at e ⊢
    simp only [zipA, List.map_cons, List.all_cons, rise, pairLt]
    rw [e]
    rfl
def pts (m : Int) : AV → Bool
  | .tup xs => xs.all (within 0 (m - 1)) && rise xs
  | _ => false
theorem cut_from {α : Type} (xs : List α) (k : Nat) : cutL xs (some (k : Int)) none = xs.drop (min k xs.length) := by
  unfold cutL
  rw [HT.sIx_nat, HT.sIx_none]
  apply List.take_of_length_le
  rw [List.length_drop]
  omega
theorem cut_to {α : Type} (xs : List α) (k : Nat) : cutL xs none (some (k : Int)) = xs.take (min k xs.length) := by
  unfold cutL
  rw [HT.sIx_nat, HT.sIx_none, List.drop_zero, Nat.sub_zero]
theorem drop_min {α : Type} (xs : List α) (k : Nat) : xs.drop (min k xs.length) = xs.drop k := by
  by_cases h : k ≤ xs.length
  · rw [Nat.min_eq_left h]
  · rw [Nat.min_eq_right (by omega), List.drop_of_length_le (Nat.le_refl _), List.drop_of_length_le (by omega)]
theorem zip_mem : ∀ {xs ys : List AV} {z : AV}, z ∈ zipA xs ys → ∃ x y, x ∈ xs ∧ y ∈ ys ∧ z = .tup [x, y]
  | [], ys, _, h => by cases ys <;> simp [zipA] at h
  | x :: xs, [], _, h => by simp [zipA] at h
  | x :: xs, y :: ys, z, h => by
    simp only [zipA, List.mem_cons] at h
    rcases h with h | h
    · exact ⟨x, y, by simp, by simp, h⟩
    · obtain ⟨a, b, h1, h2, h3⟩ := zip_mem h
      exact ⟨a, b, by simp [h1], by simp [h2], h3⟩
theorem compL_two {i j : Nat} {σ : ASt} {h : AH} {body : ASt → AH → Rs (List AV)} (hi : i < σ.length) (hj : j < σ.length) (f : AV → List AV) : ∀ {zs : List AV}, (∀ z ∈ zs, ∃ x y, z = .tup [x, y] ∧ body ((σ.set i (.vl x)).set j (.vl y)) h = .ok (f z) h) → compL (.tp [.nm i, .nm j]) body zs σ h = .ok (zs.flatMap f) h
  | [], _ => rfl
  | z :: zs, hb => by
    obtain ⟨x, y, rfl, e⟩ := hb z (by simp)
    simp only [compL, asgT, asgTs, hi, hj, List.length_set, if_true, Option.bind_some, lift_some, Rs.bind_ok, e, compL_two hi hj f fun w hw => hb w (List.mem_cons_of_mem _ hw), List.flatMap_cons]
theorem cut1 {α : Type} (xs : List α) : cutL xs (some 1) none = xs.drop 1 := (cut_from xs 1).trans (drop_min xs 1)
theorem bi_all (xs : List AV) (h : AH) : opBi .all [.lst xs] h = lift ((boolsOf xs).map fun bs => .bl (bs.all id)) h := rfl
theorem bi_len (xs : List AV) (h : AH) : opBi .len [.tup xs] h = .ok (.int xs.length) h := rfl
theorem bi_tuple (xs : List AV) (h : AH) : opBi .tuple [.lst xs] h = .ok (.tup xs) h := rfl
theorem bi_list (xs : List AV) (h : AH) : opBi .list [.tup xs] h = .ok (.lst xs) h := rfl
theorem sl_tup (xs : List AV) (lo hi : Option Int) (h : AH) : opSlice (.tup xs) lo hi h = some (.tup (cutL xs lo hi)) := rfl
theorem zp_tup (xs ys : List AV) : zipK (.tup xs) (.tup ys) = some (zipA xs ys) := rfl
theorem l_are_points : T.lookup (Str.ofString "are_points") = some d_are_points.fn := by kernel_rfl
theorem within_int {lo hi : Int} {v : AV} (h : within lo hi v = true) : ∃ i, v = .int i ∧ lo ≤ i ∧ i ≤ hi := by
  cases v <;> first | (simp [within] at h; done) | exact ⟨_, rfl, by simpa [within] using h⟩
def knownT : AV → Bool
  | .tup xs => xs.all known && decide (xs.length ≤ 1000)
  | v => known v
theorem sl1000 : 1000 ≤ sizeLine := by decide
theorem c_are_points (n : Nat) (m : Int) (v : AV) (h : AH) (hv : knownT v = true) : C (n + 3) "are_points" [.int m, v] h = .ok (.bl (pts m v)) h := by
  rw [step _ _ _ _ _ l_are_points]
  cases v <;> first | (simp [knownT, known] at hv; done) | skip
  case tup xs =>
    simp only [knownT, Bool.and_eq_true, List.all_eq_true, decide_eq_true_eq] at hv
    have hl : xs.length ≤ sizeLine := Nat.le_trans hv.2 sl1000
    have e1 : ∀ x ∈ xs, callN T (n + 2) (Str.ofString "is_within") [x, .int 0, .int (m - 1)] h = .ok (.bl (within 0 (m - 1) x)) h := fun x hx => c_is_within n x 0 (m - 1) h (hv.1 x hx)
    simp only [runFn, DefI.fn, d_are_points, b_are_points, evSs, evS, evE, evEs, evPs, evT, evI, evF, evC, evO, peek, G.start, List.map_cons, List.map_nil, List.length_cons, List.length_nil, List.cons_append, List.nil_append, List.getElem?_cons_zero, List.getElem?_cons_succ, Rs.bind_ok, lift_some, if_true, List.replicate, Nat.reduceAdd, Nat.reduceSub, hasTys, hasTy, Option.map_some, truth, vitems, wipeA, tgSlots, tgsSlots, cmpSlots, List.set_cons_zero, List.set_cons_succ, noEx, Bool.not_true, Bool.not_false]
    rw [compL_one (by simp) (fun x => [AV.bl (within 0 (m - 1) x)]) (fun x hx => by
      simp only [List.set_cons_succ, List.set_cons_zero, List.getElem?_cons_zero, List.getElem?_cons_succ, Rs.bind_ok, opB, e1 x hx])]
    simp only [flat_one, Rs.bind_ok, List.length_map, hl, if_true, bi_all, Option.bind_some, boolsOf_f, Option.map_some, lift_some]
    by_cases ha : xs.all (within 0 (m - 1)) = true
    · have ea : ((xs.map (within 0 (m - 1))).all id) = true := by simpa [List.all_map] using ha
      simp only [ea, Bool.not_true, Rs.bind_ok, frz, List.map_cons, List.map_nil, List.getElem?_cons_zero, List.getElem?_cons_succ, sl_tup, lift_some, zp_tup, cut1, List.set_cons_succ, List.set_cons_zero]
      have ea' := List.all_eq_true.mp ha
      rw [compL_two (by simp) (by simp) (fun z => [AV.bl (pairLt z)]) (fun z hz => by
        obtain ⟨x, y, h1, h2, rfl⟩ := zip_mem hz
        obtain ⟨a, rfl, _⟩ := within_int (ea' x h1)
        obtain ⟨b, rfl, _⟩ := within_int (ea' y (List.mem_of_mem_drop h2))
        exact ⟨_, _, rfl, by simp [opC, opLt, pairLt, ltV]⟩)]
      have hz : (zipA xs (xs.drop 1)).length ≤ sizeLine := by rw [zipA_length]; omega
      simp only [flat_one, Rs.bind_ok, List.length_map, hz, if_true, bi_all, boolsOf_f, Option.map_some, lift_some, rise_zip, pts, ha, Bool.true_and]
    · have ea : ((xs.map (within 0 (m - 1))).all id) = false := by
        rw [Bool.eq_false_iff]
        intro q
        exact ha (by simpa [List.all_map] using q)
      rw [Bool.not_eq_true] at ha
      simp [ea, pts, ha]
  all_goals simp [runFn, DefI.fn, d_are_points, b_are_points, evSs, evS, evE, evT, peek, G.start, frz, hasTys, hasTy, truth, pts]
end K1

set_option linter.all false
set_option maxRecDepth 100000
set_option maxHeartbeats 4000000
namespace K1
open PySem G
def chartB : AV → Bool
  | .tup rows => rows.all (pts rows.length)
  | _ => false
def knownC : AV → Bool
  | .tup rows => rows.all knownT && decide (rows.length ≤ 1000)
  | v => known v
theorem l_is_chart : T.lookup (Str.ofString "is_chart") = some d_is_chart.fn := by kernel_rfl
theorem c_is_chart (n : Nat) (v : AV) (h : AH) (hv : knownC v = true) : C (n + 4) "is_chart" [v] h = .ok (.bl (chartB v)) h := by
  rw [step _ _ _ _ _ l_is_chart]
  cases v <;> first | (simp [knownC, known] at hv; done) | skip
  case tup xs =>
    simp only [knownC, Bool.and_eq_true, List.all_eq_true, decide_eq_true_eq] at hv
    have hl : xs.length ≤ sizeLine := Nat.le_trans hv.2 sl1000
    have e1 : ∀ x ∈ xs, callN T (n + 3) (Str.ofString "are_points") [.int xs.length, x] h = .ok (.bl (pts xs.length x)) h := fun x hx => c_are_points n xs.length x h (hv.1 x hx)
    simp only [runFn, DefI.fn, d_is_chart, b_is_chart, evSs, evS, evE, evEs, evPs, evT, evI, evF, evC, evO, peek, G.start, List.map_cons, List.map_nil, List.length_cons, List.length_nil, List.cons_append, List.nil_append, List.getElem?_cons_zero, List.getElem?_cons_succ, Rs.bind_ok, lift_some, if_true, List.replicate, Nat.reduceAdd, Nat.reduceSub, hasTys, hasTy, Option.map_some, truth, vitems, wipeA, tgSlots, tgsSlots, cmpSlots, List.set_cons_zero, List.set_cons_succ, noEx, frz, bi_len]
    rw [compL_one (by simp) (fun x => [AV.bl (pts xs.length x)]) (fun x hx => by
      simp only [List.set_cons_succ, List.set_cons_zero, List.getElem?_cons_zero, List.getElem?_cons_succ, Rs.bind_ok, bi_len, e1 x hx])]
    simp only [flat_one, Rs.bind_ok, List.length_map, hl, if_true, bi_all, Option.bind_some, boolsOf_f, Option.map_some, lift_some, chartB, List.all_map]
    rfl
  all_goals simp [runFn, DefI.fn, d_is_chart, b_is_chart, evSs, evS, evE, evT, peek, G.start, frz, hasTys, hasTy, truth, chartB]
theorem eqD_nil (zs : List AV) : eqD (.lst zs) (.lst []) = some zs.isEmpty := by
  unfold eqD
  rw [if_pos (Nat.le_trans (Nat.min_le_right _ _) (by decide))]
  cases zs <;> simp [pyEq, pyEqs]
theorem eqD_tnil (zs : List AV) : eqD (.tup zs) (.tup []) = some zs.isEmpty := by
  unfold eqD
  rw [if_pos (Nat.le_trans (Nat.min_le_right _ _) (by decide))]
  cases zs <;> simp [pyEq, pyEqs]
theorem pyEqs_ints : ∀ (as bs : List Int), pyEqs (as.map AV.int) (bs.map AV.int) = some (decide (as = bs))
  | [], [] => rfl
  | [], b :: bs => by simp [pyEqs]
  | a :: as, [] => by simp [pyEqs]
  | a :: as, b :: bs => by
    simp only [List.map_cons, pyEqs, pyEq, Option.bind_some, pyEqs_ints as bs, Option.map_some, List.cons.injEq]
    by_cases h : a = b <;> simp [h]
theorem dep_ints : ∀ as : List Int, deps (as.map AV.int) = 0
  | [] => rfl
  | a :: as => by simp [deps, dep, dep_ints as]
theorem eqD_ints (as bs : List Int) : eqD (.lst (as.map AV.int)) (.lst (bs.map AV.int)) = some (decide (as = bs)) := by
  unfold eqD
  rw [if_pos (by simp [dep, dep_ints])]
  simp only [pyEq, List.length_map, pyEqs_ints]
  by_cases h : as.length = bs.length
  · rw [if_pos h]
  · rw [if_neg h]
    have : as ≠ bs := fun e => h (by rw [e])
    simp [this]
theorem all_whole : ∀ {xs : List AV}, xs.all whole = true → ∃ ns : List Int, xs = ns.map AV.int
  | [], _ => ⟨[], rfl⟩
  | x :: xs, h => by
    rw [List.all_cons, Bool.and_eq_true] at h
    obtain ⟨ns, rfl⟩ := all_whole h.2
    cases x <;> first | (simp [whole] at h; done) | exact ⟨_ :: ns, rfl⟩
theorem intsOf_ints : ∀ ns : List Int, intsOf (ns.map AV.int) = some ns
  | [] => rfl
  | n :: ns => by simp [intsOf, intsOf_ints ns]
theorem rise_iff : ∀ ns : List Int, rise (ns.map AV.int) = true ↔ ns.Pairwise (· < ·)
  | [] => by simp [rise]
  | [a] => by simp [rise]
  | a :: b :: r => by
    have ih := rise_iff (b :: r)
    simp only [List.map_cons] at ih ⊢
    rw [rise, Bool.and_eq_true, ih, List.pairwise_cons (a := a)]
    simp only [ltV, decide_eq_true_eq]
    constructor
    · rintro ⟨h1, h2⟩
      refine ⟨fun y hy => ?_, h2⟩
      rcases List.mem_cons.mp hy with e | e
      · subst e; exact h1
      · exact Int.lt_trans h1 ((List.pairwise_cons.mp h2).1 y e)
    · rintro ⟨h1, h2⟩
      exact ⟨h1 b (by simp), h2⟩
theorem rise_sort (ns : List Int) : rise (ns.map AV.int) = decide (ns = sortSet ns) := by
  rw [Bool.eq_iff_iff, rise_iff, decide_eq_true_eq]
  constructor
  · intro h
    exact rising_eq h (sortSet_lt ns) fun k => (mem_sortSet).symm
  · intro h
    rw [h]; exact sortSet_lt ns
/-- a loop that looks at each, False at the first that fails -/
theorem forL_chk {i : Nat} {body : ASt → AH → Rs Fl} {h : AH} (p : AV → Bool) (S : Sv → ASt) (hs : ∀ s x, asgT (.nm i) x (S s) = some (S (.vl x))) : ∀ {xs : List AV} (s : Sv), (∀ x ∈ xs, body (S (.vl x)) h = if p x = true then .ok (.nx (S (.vl x))) h else .ok (.rt (.bl false)) h) →
    ∃ s', forL (.nm i) body xs (S s) h = if xs.all p = true then .ok (.nx (S s')) h else .ok (.rt (.bl false)) h
  | [], s, _ => ⟨s, by simp [forL]⟩
  | x :: xs, s, hb => by
    simp only [forL, hs, lift_some, Rs.bind_ok, hb x (by simp), List.all_cons]
    by_cases hp : p x = true
    · obtain ⟨s', e⟩ := forL_chk p S hs (xs := xs) (.vl x) fun y hy => hb y (List.mem_cons_of_mem _ hy)
      refine ⟨s', ?_⟩
      simp only [hp, if_true, Rs.bind_ok, Bool.true_and]
      exact e
    · refine ⟨s, ?_⟩
      simp [hp]
theorem filt (p : AV → Bool) : ∀ xs : List AV, xs.flatMap (fun x => if p x = true then [] else [x]) = xs.filter (fun x => !p x)
  | [] => rfl
  | x :: xs => by
    rw [List.flatMap_cons, filt p xs, List.filter_cons]
    cases p x <;> simp
theorem filt_empty (p : AV → Bool) (xs : List AV) : (xs.filter (fun x => !p x)).isEmpty = xs.all p := by
  rw [Bool.eq_iff_iff, List.isEmpty_iff, List.filter_eq_nil_iff, List.all_eq_true]
  simp
theorem l_law_is_chart : T.lookup (Str.ofString "_law_is_chart") = some d__law_is_chart.fn := by kernel_rfl
def inR (m : Int) : AV → Bool
  | .int i => decide (0 ≤ i ∧ i < m)
  | _ => false
theorem inR_ints (m : Int) (ns : List Int) : (ns.map AV.int).all (inR m) = (ns.map AV.int).all (within 0 (m - 1)) := by
  rw [List.all_map, List.all_map]
  congr 1
  funext i
  simp only [Function.comp, inR, within]
  congr 1
  simp only [eq_iff_iff]
  omega
def rowB : List Stm := match b__law_is_chart with
  | [_, .for _ _ b, _] => b
  | _ => []
theorem nempty_of {α : Type} (l : List α) : (!l.isEmpty) = decide (l ≠ []) := by cases l <;> simp
theorem row_ok (n : Nat) (rows : List AV) (x : AV) (h : AH) (hx : knownT x = true) (hl : ∀ xs, x = .tup xs → xs.length < 64) :
    evSs (callN T (n + 1)) rowB [.vl (.tup rows), .vl x, .un] h = if pts rows.length x = true then .ok (.nx [.vl (.tup rows), .vl x, .un]) h else .ok (.rt (.bl false)) h := by
  cases x <;> first | (simp [knownT, known] at hx; done) | skip
  case tup xs =>
    have hl := hl xs rfl
    have hz : xs.length ≤ sizeLine := Nat.le_trans (Nat.le_of_lt hl) (by decide)
    simp only [knownT, Bool.and_eq_true, List.all_eq_true, decide_eq_true_eq] at hx
    have e1 : ∀ x ∈ xs, callN T (n + 1) (Str.ofString "_law_whole") [x] h = .ok (.bl (whole x)) h := fun x hm => c_law_whole n x h (hx.1 x hm)
    have hf : (xs.filter fun x => !whole x).length ≤ sizeLine := Nat.le_trans (List.length_filter_le _ _) hz
    simp only [rowB, b__law_is_chart, evSs, evS, evE, evEs, evPs, evT, evI, evF, evC, evO, peek, List.map_cons, List.map_nil, List.length_cons, List.length_nil, List.getElem?_cons_zero, List.getElem?_cons_succ, Rs.bind_ok, lift_some, if_true, hasTys, hasTy, Option.map_some, truth, vitems, Bool.not_true, wipeA, tgSlots, tgsSlots, cmpSlots, List.cons_append, List.nil_append, List.append_nil, List.set_cons_zero, List.set_cons_succ, noEx]
    rw [compL_one (by simp) (fun x => if whole x = true then [] else [x]) (fun x hm => by
      simp only [List.set_cons_succ, List.set_cons_zero, List.getElem?_cons_zero, List.getElem?_cons_succ, Rs.bind_ok, e1 x hm, lift_some, truth]
      cases whole x <;> rfl)]
    simp only [filt, Rs.bind_ok, hf, if_true, List.length_nil, Nat.zero_le, opC, eqD_nil, filt_empty, Option.map_some, lift_some, truth]
    by_cases ha : xs.all whole = true
    · obtain ⟨ns, rfl⟩ := all_whole ha
      have hn : ns.length < 64 := by simpa using hl
      simp only [ha, List.getElem?_cons_zero, List.getElem?_cons_succ, Rs.bind_ok, lift_some, List.set_cons_zero, List.set_cons_succ, List.cons_append, List.nil_append, List.append_nil, if_true, Option.map_some, Bool.not_true, Bool.not_false, bi_list, intsOf_ints, hn, if_true, eqD_ints, Option.map_some, lift_some, truth]
      by_cases hs : ns = sortSet ns
      · have hs' : decide (ns = sortSet ns) = true := decide_eq_true hs
        simp only [hs', List.getElem?_cons_zero, List.getElem?_cons_succ, Rs.bind_ok, lift_some, List.set_cons_zero, List.set_cons_succ, List.cons_append, List.nil_append, List.append_nil, if_true, Option.map_some, Bool.not_true, Bool.not_false]
        rw [compL_one (by simp) (fun x => if inR rows.length x = true then [] else [x]) (fun x hm => by
          obtain ⟨i, _, rfl⟩ := List.mem_map.mp hm
          simp only [List.set_cons_succ, List.set_cons_zero, List.getElem?_cons_zero, List.getElem?_cons_succ, Rs.bind_ok, lift_some, truth, opC, opLt, Option.map_some, bi_len, inR]
          by_cases h1 : i < 0
          · have : ¬ (0 ≤ i ∧ i < (rows.length : Int)) := by omega
            simp [h1, this, truth]
          · by_cases h2 : i < (rows.length : Int)
            · have : 0 ≤ i := by omega
              simp [h1, h2, this, truth]
            · simp [h1, h2, truth])]
        have hf2 : (((ns.map AV.int)).filter fun x => !inR rows.length x).length ≤ sizeLine := Nat.le_trans (List.length_filter_le _ _) hz
        simp only [filt, Rs.bind_ok, hf2, if_true, List.length_nil, Nat.zero_le, eqD_nil, filt_empty, Option.map_some, lift_some, truth, inR_ints, pts, rise_sort, hs', Bool.and_true]
        cases (ns.map AV.int).all (within 0 (rows.length - 1)) <;> rfl
      · have hs' : decide (ns = sortSet ns) = false := decide_eq_false hs
        simp only [hs', List.getElem?_cons_zero, List.getElem?_cons_succ, Rs.bind_ok, lift_some, List.set_cons_zero, List.set_cons_succ, List.cons_append, List.nil_append, List.append_nil, if_true, Option.map_some, Bool.not_true, Bool.not_false, pts, rise_sort, Bool.and_false, Bool.false_eq_true, if_false, frz, List.map_cons, List.map_nil]
    · rw [Bool.not_eq_true] at ha
      have hp : pts rows.length (.tup xs) = false := by
        rw [Bool.eq_false_iff]
        intro q
        simp only [pts, Bool.and_eq_true, List.all_eq_true] at q
        rw [Bool.eq_false_iff] at ha
        apply ha
        rw [List.all_eq_true]
        intro y hy
        obtain ⟨i, rfl, _⟩ := within_int (q.1 y hy)
        rfl
      simp only [ha, List.getElem?_cons_zero, List.getElem?_cons_succ, Rs.bind_ok, lift_some, List.set_cons_zero, List.set_cons_succ, List.cons_append, List.nil_append, List.append_nil, if_true, Option.map_some, Bool.not_true, Bool.not_false, hp, Bool.false_eq_true, if_false, frz, List.map_cons, List.map_nil]
  all_goals simp [rowB, b__law_is_chart, evSs, evS, evE, evT, peek, frz, hasTys, hasTy, truth, pts]
theorem c_law_is_chart (n : Nat) (v : AV) (h : AH) (hv : knownC v = true) (hm : ∀ rows, v = .tup rows → ∀ xs, .tup xs ∈ rows → xs.length < 64) : C (n + 2) "_law_is_chart" [v] h = .ok (.bl (chartB v)) h := by
  rw [step _ _ _ _ _ l_law_is_chart]
  cases v <;> first | (simp [knownC, known] at hv; done) | skip
  case tup rows =>
    have hm := hm rows rfl
    simp only [knownC, Bool.and_eq_true, List.all_eq_true, decide_eq_true_eq] at hv
    obtain ⟨s', e⟩ := forL_chk (i := 1) (h := h) (body := evSs (callN T (n + 1)) rowB) (fun x => pts rows.length x) (fun s => [.vl (.tup rows), s, .un]) (fun s x => rfl) .un (xs := rows)
      (fun x hx => row_ok n rows x h (hv.1 x hx) fun xs q => hm xs (q ▸ hx))
    show runFn (callN T (n + 1)) ⟨3, 1, [(.ife (.not (.e (.isi (.var 0) [.tuple]))) [(.ret (.c (.bl false)))] []), (.for (.nm 1) (.sq (.var 0)) rowB), (.ret (.c (.bl true)))]⟩ _ h = _
    simp only [runFn, evSs, evS, evE, evT, evI, peek, G.start, List.map_cons, List.map_nil, List.length_cons, List.length_nil, List.replicate, Nat.reduceAdd, Nat.reduceSub, hasTys, hasTy, truth, vitems, Bool.false_eq_true, if_false, List.getElem?_cons_zero, List.getElem?_cons_succ, Rs.bind_ok, lift_some, List.set_cons_zero, List.set_cons_succ, List.cons_append, List.nil_append, List.append_nil, if_true, Option.map_some, Bool.not_true, Bool.not_false]
    rw [e]
    by_cases ha : rows.all (fun x => pts rows.length x) = true
    · simp only [ha, if_true, Rs.bind_ok, chartB]
    · rw [Bool.not_eq_true] at ha
      simp only [ha, Bool.false_eq_true, if_false, Rs.bind_ok, chartB]
  all_goals simp [runFn, DefI.fn, d__law_is_chart, b__law_is_chart, evSs, evS, evE, evT, peek, G.start, frz, hasTys, hasTy, truth, chartB]
end K1

set_option linter.all false
set_option maxRecDepth 100000
set_option maxHeartbeats 4000000
namespace K1
open PySem G
def StOk (h : AH) (n : Nat) : Prop := ∃ a b c : Int, h[n]? = some (.lst [.int a, .int b, .int c]) ∧ 0 ≤ a ∧ 0 ≤ b ∧ b < 2147483648
theorem sub_ref {h : AH} {n : Nat} {xs : List AV} (e : h[n]? = some (.lst xs)) (k : Int) : opSub (.ref n) (.int k) h = L2.atI xs k := by
  simp only [opSub, items, e, Option.bind_some]
theorem at3_0 (x y z : AV) : L2.atI [x, y, z] 0 = some x := rfl
theorem at3_1 (x y z : AV) : L2.atI [x, y, z] 1 = some y := rfl
theorem at3_2 (x y z : AV) : L2.atI [x, y, z] 2 = some z := rfl
theorem ix3_0 : L2.ixN 3 0 = some 0 := rfl
theorem ix3_1 : L2.ixN 3 1 = some 1 := rfl
theorem ix3_2 : L2.ixN 3 2 = some 2 := rfl
theorem set_at {h : AH} {n : Nat} {c c' : Cell} (e : h[n]? = some c) : (h.set n c')[n]? = some c' := List.getElem?_set_self (List.getElem?_eq_some_iff.mp e).1
theorem l_law_choice : T.lookup (Str.ofString "_law_choice") = some d__law_choice.fn := by kernel_rfl
theorem B_mod {i j : Int} {h : AH} (hj : 0 < j) : opB .mod (.int i) (.int j) h = .ok (.int (i % j)) h := by simp [opB, hj]
theorem B_fdiv {i j : Int} {h : AH} (hj : 0 < j) (hj2 : j < 1073741824) : opB .fdiv (.int i) (.int j) h = .ok (.int (i / j)) h := by simp [opB, hj, hj2]
theorem B_add {i j : Int} {h : AH} : opB .add (.int i) (.int j) h = .ok (.int (i + j)) h := rfl
theorem B_sub {i j : Int} {h : AH} : opB .sub (.int i) (.int j) h = .ok (.int (i - j)) h := rfl
theorem B_mul {i j : Int} {h : AH} (hj : -(2 ^ 64) < i ∧ i < 2 ^ 64) : opB .mul (.int i) (.int j) h = .ok (.int (i * j)) h := by
  exact if_pos (.inl hj)
theorem C_gt {i j : Int} {h : AH} : opC .gt (.int i) (.int j) h = some (decide (j < i)) := rfl
theorem C_lt {i j : Int} {h : AH} : opC .lt (.int i) (.int j) h = some (decide (i < j)) := rfl
theorem c_choice {h : AH} {n : Nat} (s : StOk h n) (k : Nat) {m : Int} (h1 : 1 ≤ m) (h2 : m < 1073741824) : ∃ r h', callN T (k + 1) (Str.ofString "_law_choice") [.ref n, .int m] h = .ok (.int r) h' ∧ 0 ≤ r ∧ r < m ∧ StOk h' n := by
  obtain ⟨a, b, c, e, ha, hb, hb2⟩ := s
  rw [show callN T (k + 1) (Str.ofString "_law_choice") [.ref n, .int m] h = runFn (callN T k) d__law_choice.fn [.ref n, .int m] h from step _ _ _ _ _ l_law_choice]
  have hm : 0 < m := by omega
  by_cases hp : 0 < a
  · refine ⟨a % m, h.set n (.lst [.int (a / m), .int b, .int c]), ?_, Int.emod_nonneg _ (by omega), Int.emod_lt_of_pos _ hm, a / m, b, c, set_at e, Int.ediv_nonneg ha (by omega), hb, hb2⟩
    simp [runFn, DefI.fn, d__law_choice, b__law_choice, evSs, evS, evE, evT, peek, G.start, frz, sub_ref e, at3_0, at3_1, at3_2, ix3_0, B_mod hm, B_fdiv hm h2, C_gt, hp, truth, setSlot, e]
  · have hp' : decide (0 < a) = false := decide_eq_false hp
    have e1 : (h.set n (.lst [.int a, .int b, .int (c + 1)]))[n]? = some (.lst [.int a, .int b, .int (c + 1)]) := set_at e
    have e2 := set_at (c' := .lst [.int a, .int ((b * 48271 + 29 + (c + 1)) % 2147483647), .int (c + 1)]) e1
    have b0 : 0 ≤ (b * 48271 + 29 + (c + 1)) % 2147483647 := Int.emod_nonneg _ (by omega)
    have b1 : (b * 48271 + 29 + (c + 1)) % 2147483647 < 2147483647 := Int.emod_lt_of_pos _ (by omega)
    generalize hB : (b * 48271 + 29 + (c + 1)) % 2147483647 = B at e2 b0 b1
    have m0 : 0 ≤ (B * B + 39373 * B + 7) % 2147483629 := Int.emod_nonneg _ (by omega)
    have m1 : (B * B + 39373 * B + 7) % 2147483629 < 2147483629 := Int.emod_lt_of_pos _ (by omega)
    generalize hM : (B * B + 39373 * B + 7) % 2147483629 = M at m0 m1
    refine ⟨(M * M + 50021 * M) % 2147483587 / 8 % m, _, ?_, Int.emod_nonneg _ (by omega), Int.emod_lt_of_pos _ hm, a, B, c + 1, e2, ha, b0, by omega⟩
    have s0 := sub_ref e 0
    have s1 := sub_ref e 2
    have s2 := sub_ref e1 1
    have s3 := sub_ref e1 2
    have s4 := sub_ref e2 1
    rw [at3_0] at s0
    rw [at3_2] at s1 s3
    rw [at3_1] at s2 s4
    simp only [runFn, DefI.fn, d__law_choice, b__law_choice, evSs, evS, evE, evT, peek, G.start, frz, List.map_cons, List.map_nil, List.length_cons, List.length_nil, List.cons_append, List.nil_append, List.replicate, Nat.reduceAdd, Nat.reduceSub, List.getElem?_cons_zero, List.getElem?_cons_succ, Rs.bind_ok, lift_some, if_true, Option.map_some,
      s0, s1, s2, s3, s4, C_gt, hp', truth, B_add, ix3_2, ix3_1, e, e1, e2, List.set_cons_succ, List.set_cons_zero, B_mul (i := b) (j := 48271) (show -(2 ^ 64) < b ∧ b < 2 ^ 64 by omega), B_mod (j := 2147483647) (show (0 : Int) < 2147483647 by omega), hB, setSlot, Nat.reduceLT,
      B_mul (i := B) (j := B) (show -(2 ^ 64) < B ∧ B < 2 ^ 64 by omega), B_mul (i := 39373) (j := B) (by omega), B_mod (j := 2147483629) (show (0 : Int) < 2147483629 by omega), hM, B_mul (i := M) (j := M) (show -(2 ^ 64) < M ∧ M < 2 ^ 64 by omega), B_mul (i := 50021) (j := M) (by omega),
      B_mod (j := 2147483587) (show (0 : Int) < 2147483587 by omega), B_fdiv (j := 8) (show (0 : Int) < 8 by omega) (show (8 : Int) < 1073741824 by omega), B_mod hm]
end K1

set_option linter.all false
set_option maxRecDepth 100000
set_option maxHeartbeats 4000000
namespace K1
open PySem G
/-- what is neither a tuple nor a list -/
def sc (g : Nat) : AV → Bool
  | .non => true
  | .bl _ => true
  | .int i => decide (i.natAbs ≤ 10 ^ 29 + g * 10000)
  | .str x => decide (x.cps.toList.length ≤ 6 + g) && x.cps.toList.all (fun c => decide (c < 128))
  | .dct [] [] => true
  | .dct [.int a] [.int b] => a == 0 && b == 1
  | _ => false
/-- things so deep, so wide -/
def gd (g : Nat) : Nat → AV → Bool
  | 0, v => sc g v
  | d + 1, v => match v with
    | .tup xs => decide (xs.length ≤ 12 + g) && xs.all (gd g d)
    | .lst xs => decide (xs.length ≤ 12 + g) && xs.all (gd g d)
    | v => sc g v
mutual
def wt : AV → Nat
  | .tup xs => wts xs + 3
  | .lst xs => wts xs + 3
  | _ => 200
def wts : List AV → Nat
  | [] => 0
  | x :: xs => wt x + 2 + wts xs
end
theorem wts_append : ∀ (xs ys : List AV), wts (xs ++ ys) = wts xs + wts ys
  | [], ys => by simp [wts]
  | x :: xs, ys => by simp only [List.cons_append, wts, wts_append xs ys]; omega
theorem wts_split (xs : List AV) (k : Nat) : wts (xs.take k) + wts (xs.drop k) = wts xs := by rw [← wts_append, List.take_append_drop]
theorem wts_take (xs : List AV) (k : Nat) : wts (xs.take k) ≤ wts xs := by have := wts_split xs k; omega
theorem wts_drop (xs : List AV) (k : Nat) : wts (xs.drop k) ≤ wts xs := by have := wts_split xs k; omega
theorem wts_cut (xs : List AV) (lo hi : Option Int) : wts (cutL xs lo hi) ≤ wts xs := Nat.le_trans (wts_take _ _) (wts_drop _ _)
theorem wts_rev : ∀ xs : List AV, wts xs.reverse = wts xs
  | [] => rfl
  | x :: xs => by
    rw [List.reverse_cons, wts_append, wts_rev xs]
    simp only [wts]; omega
theorem wt_mem : ∀ {xs : List AV} {x : AV}, x ∈ xs → wt x ≤ wts xs
  | y :: xs, x, h => by
    simp only [wts]
    rcases List.mem_cons.mp h with e | e
    · subst e; omega
    · have := wt_mem e; omega
theorem cut_mem {xs : List AV} {lo hi : Option Int} {x : AV} (h : x ∈ cutL xs lo hi) : x ∈ xs := List.mem_of_mem_drop (List.mem_of_mem_take h)
theorem cut_len (xs : List AV) (lo hi : Option Int) : (cutL xs lo hi).length ≤ xs.length := by
  unfold cutL
  rw [List.length_take, List.length_drop]
  omega
theorem sc_mono {g g' : Nat} (h : g ≤ g') {v : AV} (hv : sc g v = true) : sc g' v = true := by
  unfold sc at hv ⊢
  split at hv <;> simp_all
  all_goals omega
theorem gd_mono {g g' : Nat} (h : g ≤ g') : ∀ {d d' : Nat} {v : AV}, d ≤ d' → gd g d v = true → gd g' d' v = true
  | 0, 0, v, _, hv => sc_mono h hv
  | 0, d' + 1, v, _, hv => by
    have hv : sc g v = true := hv
    cases v <;> first | (exact sc_mono h hv) | (simp [sc] at hv)
  | d + 1, 0, _, hd, _ => by omega
  | d + 1, d' + 1, v, hd, hv => by
    cases v
    case tup xs =>
      simp only [gd, Bool.and_eq_true, decide_eq_true_eq, List.all_eq_true] at hv ⊢
      exact ⟨by omega, fun x hx => gd_mono h (by omega) (hv.2 x hx)⟩
    case lst xs =>
      simp only [gd, Bool.and_eq_true, decide_eq_true_eq, List.all_eq_true] at hv ⊢
      exact ⟨by omega, fun x hx => gd_mono h (by omega) (hv.2 x hx)⟩
    all_goals
      simp only [gd] at hv ⊢
      exact sc_mono h hv
theorem gd_tup {g d : Nat} {xs : List AV} (h : gd g d (.tup xs) = true) : ∃ d', d = d' + 1 ∧ xs.length ≤ 12 + g ∧ ∀ x ∈ xs, gd g d' x = true := by
  cases d with
  | zero => simp [gd, sc] at h
  | succ d =>
    simp only [gd, Bool.and_eq_true, decide_eq_true_eq, List.all_eq_true] at h
    exact ⟨d, rfl, h⟩
theorem gd_lst {g d : Nat} {xs : List AV} (h : gd g d (.lst xs) = true) : ∃ d', d = d' + 1 ∧ xs.length ≤ 12 + g ∧ ∀ x ∈ xs, gd g d' x = true := by
  cases d with
  | zero => simp [gd, sc] at h
  | succ d =>
    simp only [gd, Bool.and_eq_true, decide_eq_true_eq, List.all_eq_true] at h
    exact ⟨d, rfl, h⟩
theorem mk_tup {g d : Nat} {xs : List AV} (hl : xs.length ≤ 12 + g) (h : ∀ x ∈ xs, gd g d x = true) : gd g (d + 1) (.tup xs) = true := by
  simp only [gd, Bool.and_eq_true, decide_eq_true_eq, List.all_eq_true]
  exact ⟨hl, h⟩
theorem mk_lst {g d : Nat} {xs : List AV} (hl : xs.length ≤ 12 + g) (h : ∀ x ∈ xs, gd g d x = true) : gd g (d + 1) (.lst xs) = true := by
  simp only [gd, Bool.and_eq_true, decide_eq_true_eq, List.all_eq_true]
  exact ⟨hl, h⟩
theorem gd_known {g d : Nat} {v : AV} (h : gd g d v = true) : known v = true := by
  cases v <;> first | rfl | (cases d <;> simp [gd, sc] at h)
theorem gd_knownT {g d : Nat} {v : AV} (hg : g ≤ 10) (h : gd g d v = true) : knownT v = true := by
  cases v
  case tup xs =>
    obtain ⟨d', rfl, hl, hx⟩ := gd_tup h
    simp only [knownT, Bool.and_eq_true, List.all_eq_true, decide_eq_true_eq]
    exact ⟨fun x m => gd_known (hx x m), by omega⟩
  all_goals exact gd_known h
theorem gd_knownC {g d : Nat} {v : AV} (hg : g ≤ 10) (h : gd g d v = true) : knownC v = true := by
  cases v
  case tup xs =>
    obtain ⟨d', rfl, hl, hx⟩ := gd_tup h
    simp only [knownC, Bool.and_eq_true, List.all_eq_true, decide_eq_true_eq]
    exact ⟨fun x m => gd_knownT hg (hx x m), by omega⟩
  all_goals exact gd_known h
/-! what repr tells -/
theorem str_len (x : Str) : x.length = x.cps.toList.length := by
  show x.cps.size = _
  simp
theorem sc_repr {g : Nat} (hg : g ≤ 10) {v : AV} (h : sc g v = true) : ∃ p, toPy v = some p ∧ p.showable = true ∧ p.depth ≤ 1 ∧ p.shown.length ≤ 200 := by
  unfold sc at h
  split at h
  · exact ⟨_, rfl, rfl, by simp [PyData.depth], by decide⟩
  · rename_i b
    exact ⟨_, rfl, rfl, by simp [PyData.depth], by cases b <;> decide⟩
  · rename_i i
    simp only [decide_eq_true_eq] at h
    have hb : i.natAbs < 10 ^ 40 := Nat.lt_of_le_of_lt h (by have : g * 10000 ≤ 100000 := by omega
                                                             omega)
    refine ⟨_, rfl, ?_, by simp [PyData.depth], ?_⟩
    · simp only [PyData.showable, decide_eq_true_eq]
      by_cases h0 : i.natAbs = 0
      · rw [h0]; decide
      · exact (Nat.log2_lt h0).mpr (Nat.lt_trans hb (by decide +kernel))
    · have q := int_text_length_le10 (k := 40) (by decide) hb
      show (Str.ofString (toString i)).length ≤ 200
      rw [ofString_length]
      omega
  · rename_i x
    simp only [Bool.and_eq_true, decide_eq_true_eq, List.all_eq_true] at h
    refine ⟨_, rfl, rfl, by simp [PyData.depth], ?_⟩
    have q := StrLaws.reprText_len x fun c hc => Nat.lt_trans (h.2 c hc) (by decide)
    rw [str_len x] at q
    show (reprText x).length ≤ 200
    omega
  · exact ⟨.dict [], rfl, rfl, by decide, by decide +kernel⟩
  · rename_i a b
    simp only [Bool.and_eq_true, beq_iff_eq] at h
    obtain ⟨rfl, rfl⟩ := h
    exact ⟨.dict [(.int 0, .int 1)], rfl, by decide +kernel, by decide, by decide +kernel⟩
  · cases h
theorem all_repr {f : AV → Prop} {D : Nat} (ih : ∀ x, f x → ∃ p, toPy x = some p ∧ p.showable = true ∧ p.depth ≤ D ∧ p.shown.length ≤ wt x) : ∀ {xs : List AV}, (∀ x ∈ xs, f x) → ∃ ps, toPys xs = some ps ∧ PyData.showableAll ps = true ∧ PyData.depthAll ps ≤ D ∧ ((PyData.shownAll ps).map (·.length)).sum + 2 * (PyData.shownAll ps).length ≤ wts xs
  | [], _ => ⟨[], rfl, rfl, by simp [PyData.depthAll], by simp [PyData.shownAll, wts]⟩
  | x :: xs, h => by
    obtain ⟨p, e1, e2, e3, e4⟩ := ih x (h x (by simp))
    obtain ⟨ps, q1, q2, q3, q4⟩ := all_repr ih (xs := xs) fun y hy => h y (List.mem_cons_of_mem _ hy)
    refine ⟨p :: ps, by simp [toPys, e1, q1], by simp [PyData.showableAll, e2, q2], by simp only [PyData.depthAll]; omega, ?_⟩
    simp only [PyData.shownAll, List.map_cons, List.sum_cons, List.length_cons, wts] at q4 ⊢
    omega
theorem gd_repr {g : Nat} (hg : g ≤ 10) : ∀ {d : Nat} {v : AV}, gd g d v = true → ∃ p, toPy v = some p ∧ p.showable = true ∧ p.depth ≤ d + 1 ∧ p.shown.length ≤ wt v
  | 0, v, h => by
    obtain ⟨p, e1, e2, e3, e4⟩ := sc_repr hg (show sc g v = true from h)
    refine ⟨p, e1, e2, by omega, Nat.le_trans e4 ?_⟩
    cases v <;> first | (simp [wt]; done) | (simp [gd, sc] at h)
  | d + 1, v, h => by
    cases v
    case tup xs =>
      obtain ⟨d', e, hl, hx⟩ := gd_tup h
      cases e
      obtain ⟨ps, q1, q2, q3, q4⟩ := all_repr (D := d + 1) (fun x hx => gd_repr hg hx) hx
      refine ⟨.tuple ps, by simp [toPy, q1], by simpa [PyData.showable] using q2, by simp only [PyData.depth]; omega, ?_⟩
      have := tupleText_len_le (PyData.shownAll ps)
      show (tupleText (PyData.shownAll ps)).length ≤ wts xs + 3
      omega
    case lst xs =>
      obtain ⟨d', e, hl, hx⟩ := gd_lst h
      cases e
      obtain ⟨ps, q1, q2, q3, q4⟩ := all_repr (D := d + 1) (fun x hx => gd_repr hg hx) hx
      refine ⟨.list ps, by simp [toPy, q1], by simpa [PyData.showable] using q2, by simp only [PyData.depth]; omega, ?_⟩
      have := listText_len_le (PyData.shownAll ps)
      show (listText (PyData.shownAll ps)).length ≤ wts xs + 3
      omega
    all_goals
      simp only [gd] at h
      obtain ⟨p, e1, e2, e3, e4⟩ := sc_repr hg h
      exact ⟨p, e1, e2, by omega, e4⟩
theorem repr_some {g d : Nat} {v : AV} (hg : g ≤ 10) (hd : d ≤ 50) (h : gd g d v = true) (hw : wt v ≤ 1000000) : ∃ t, opRepr v = some t := by
  obtain ⟨p, e1, e2, e3, e4⟩ := gd_repr hg h
  refine ⟨p.shown, ?_⟩
  unfold opRepr
  rw [e1]
  show (if _ then _ else _) = _
  rw [if_pos ⟨e2, by omega, Nat.le_trans e4 (Nat.le_trans hw (by decide))⟩]
end K1

set_option linter.all false
set_option maxRecDepth 100000
set_option maxHeartbeats 4000000
namespace K1
open PySem G
theorem atI_mem {xs : List AV} {r : Int} (h0 : 0 ≤ r) (h1 : r < xs.length) : ∃ v, L2.atI xs r = some v ∧ v ∈ xs := by
  have hr : r.toNat < xs.length := by omega
  refine ⟨xs[r.toNat], ?_, List.getElem_mem _⟩
  unfold L2.atI L2.ixN
  rw [if_pos h0, if_pos h1]
  simp [hr]
theorem sub_lst {xs : List AV} {r : Int} {h : AH} (h0 : 0 ≤ r) (h1 : r < xs.length) : ∃ v, opSub (.lst xs) (.int r) h = some v ∧ v ∈ xs := by
  obtain ⟨v, e, m⟩ := atI_mem h0 h1
  exact ⟨v, by simp only [opSub, items, Option.bind_some, e], m⟩
theorem sub_tup {xs : List AV} {r : Int} {h : AH} : opSub (.tup xs) (.int r) h = L2.atI xs r := by simp only [opSub, items, Option.bind_some]
theorem B_lst {as bs : List AV} {h : AH} (hl : as.length + bs.length ≤ sizeLine) : opB .add (.lst as) (.lst bs) h = .ok (.lst (as ++ bs)) h := if_pos hl
theorem B_tup {as bs : List AV} {h : AH} (hl : as.length + bs.length ≤ sizeLine) : opB .add (.tup as) (.tup bs) h = .ok (.tup (as ++ bs)) h := if_pos hl
theorem B_str {a b : Str} {h : AH} (hl : a.length + b.length ≤ sizeLine) : opB .add (.str a) (.str b) h = .ok (.str (a ++ b)) h := if_pos hl
theorem B_pow {h : AH} : opB .pow (.int 10) (.int 29) h = .ok (.int (10 ^ 29)) h := rfl
theorem B_pow18 {h : AH} : opB .pow (.int 10) (.int 18) h = .ok (.int (10 ^ 18)) h := rfl
def oddL : List AV := [.non, .bl true, .bl false, .int 0, .int 1, .int (-1), .int 100000000000000000000000000000, .str "", .str "a", .str "G", .str "tie", .tup [], .lst [], .dct [] [], .tup [.int 0], .lst [.int 0], .tup [.non], .tup [.tup []], .str "actor", .str "show", .dct [.int 0] [.int 1], .tup [.str "tie", .int 0], .tup [.int 0, .int 1]]
theorem odd_gd : ∀ v ∈ oddL, gd 0 2 v = true ∧ wt v ≤ 500 := by
  have : oddL.all (fun v => gd 0 2 v && decide (wt v ≤ 500)) = true := by decide +kernel
  intro v hv
  have q := List.all_eq_true.mp this v hv
  simpa using q
theorem l_law_odd : T.lookup (Str.ofString "_law_odd") = some d__law_odd.fn := by kernel_rfl
theorem c_odd {h : AH} {n : Nat} (s : StOk h n) (k : Nat) : ∃ v h', callN T (k + 2) (Str.ofString "_law_odd") [.ref n] h = .ok v h' ∧ v ∈ oddL ∧ StOk h' n := by
  rw [show callN T (k + 2) (Str.ofString "_law_odd") [.ref n] h = runFn (callN T (k + 1)) d__law_odd.fn [.ref n] h from step _ _ _ _ _ l_law_odd]
  obtain ⟨r, h', e, r0, r1, s'⟩ := c_choice s k (m := 23) (by omega) (by omega)
  obtain ⟨v, ev, mv⟩ := sub_lst (xs := oddL) (r := r) (h := h') r0 (by simpa [oddL] using r1)
  refine ⟨v, h', ?_, mv, s'⟩
  unfold oddL at ev
  simp [runFn, DefI.fn, d__law_odd, b__law_odd, evSs, evS, evE, evEs, peek, G.start, frz, B_pow, keyA, sizeLine_eq, e, setSlot, opB, ev]
theorem l_cell_at : T.lookup (Str.ofString "_law_cell_at") = some d__law_cell_at.fn := by kernel_rfl
theorem c_cell_at (ns : List Int) (i : Nat) (k : Nat) (h : AH) : ∃ z, callN T (k + 1) (Str.ofString "_law_cell_at") [.scr ns, .int i] h = .ok (.int z) h := by
  rw [show callN T (k + 1) (Str.ofString "_law_cell_at") [.scr ns, .int i] h = runFn (callN T k) d__law_cell_at.fn [.scr ns, .int i] h from step _ _ _ _ _ l_cell_at]
  by_cases hi : i < ns.length
  · refine ⟨ns[i], ?_⟩
    have e1 : L2.atI ns (i : Int) = some ns[i] := by
      unfold L2.atI L2.ixN
      rw [if_pos (by omega), if_pos (by omega)]
      simp [hi]
    simp [runFn, DefI.fn, d__law_cell_at, b__law_cell_at, evSs, evS, evE, evPs, evT, peek, G.start, frz, opBi, C_lt, truth, hi, opSub, e1]
  · refine ⟨0, ?_⟩
    simp [runFn, DefI.fn, d__law_cell_at, b__law_cell_at, evSs, evS, evE, evPs, evT, peek, G.start, frz, opBi, C_lt, truth, hi]
theorem l_law_state : T.lookup (Str.ofString "_law_state") = some d__law_state.fn := by kernel_rfl
theorem c_state (ns : List Int) (i : Nat) (k : Nat) (h : AH) : ∃ n h', callN T (k + 2) (Str.ofString "_law_state") [.scr ns, .int i] h = .ok (.ref n) h' ∧ StOk h' n := by
  obtain ⟨z, e⟩ := c_cell_at ns i k h
  have b0 : 0 ≤ z % 2147483629 := Int.emod_nonneg _ (by omega)
  have b1 : z % 2147483629 < 2147483629 := Int.emod_lt_of_pos _ (by omega)
  refine ⟨h.length, h ++ [.lst [.int (if z - 10 ^ 18 > 0 then z - 10 ^ 18 else 0), .int (z % 2147483629 + 1), .int 0]], ?_, (if z - 10 ^ 18 > 0 then z - 10 ^ 18 else 0), z % 2147483629 + 1, 0, by simp, by split <;> omega, by omega, by omega⟩
  rw [show callN T (k + 2) (Str.ofString "_law_state") [.scr ns, .int i] h = runFn (callN T (k + 1)) d__law_state.fn [.scr ns, .int i] h from step _ _ _ _ _ l_law_state]
  simp [runFn, DefI.fn, d__law_state, b__law_state, evSs, evS, evE, evEs, evPs, peek, G.start, frz, e, setSlot, B_pow18, B_sub, B_add, B_mod (j := 2147483629) (show (0 : Int) < 2147483629 by omega), opBi, sizeLine_eq]
end K1

set_option linter.all false
set_option maxRecDepth 100000
set_option maxHeartbeats 4000000
namespace K1
open PySem G
theorem compL_sub {i n : Nat} {σ : ASt} {body : ASt → AH → Rs (List AV)} (hi : i < σ.length) : ∀ {xs : List AV}, (∀ x ∈ xs, ∀ h, StOk h n → ∃ ys h', body (σ.set i (.vl x)) h = .ok ys h' ∧ (ys = [] ∨ ys = [x]) ∧ StOk h' n) →
    ∀ h, StOk h n → ∃ zs h', compL (.nm i) body xs σ h = .ok zs h' ∧ zs.Sublist xs ∧ StOk h' n
  | [], _, h, s => ⟨[], h, rfl, List.Sublist.refl _, s⟩
  | x :: xs, hb, h, s => by
    obtain ⟨ys, h1, e1, hy, s1⟩ := hb x (by simp) h s
    obtain ⟨zs, h2, e2, hz, s2⟩ := compL_sub hi (fun y hy => hb y (List.mem_cons_of_mem _ hy)) h1 s1
    refine ⟨ys ++ zs, h2, by simp only [compL, asgT, hi, if_true, lift_some, Rs.bind_ok, e1, e2], ?_, s2⟩
    rcases hy with rfl | rfl
    · exact List.Sublist.cons _ hz
    · exact List.Sublist.cons₂ _ hz
theorem compL_rows {i n : Nat} {σ : ASt} {body : ASt → AH → Rs (List AV)} (hi : i < σ.length) (P : AV → Prop) : ∀ {xs : List AV}, (∀ x ∈ xs, ∀ h, StOk h n → ∃ y h', body (σ.set i (.vl x)) h = .ok [y] h' ∧ P y ∧ StOk h' n) →
    ∀ h, StOk h n → ∃ zs h', compL (.nm i) body xs σ h = .ok zs h' ∧ zs.length = xs.length ∧ (∀ z ∈ zs, P z) ∧ StOk h' n
  | [], _, h, s => ⟨[], h, rfl, rfl, by simp, s⟩
  | x :: xs, hb, h, s => by
    obtain ⟨y, h1, e1, hy, s1⟩ := hb x (by simp) h s
    obtain ⟨zs, h2, e2, hz, hp, s2⟩ := compL_rows hi P (fun y hy => hb y (List.mem_cons_of_mem _ hy)) h1 s1
    refine ⟨y :: zs, h2, by simp only [compL, asgT, hi, if_true, lift_some, Rs.bind_ok, e1, e2, List.cons_append, List.nil_append], by simp [hz], ?_, s2⟩
    intro z hm
    rcases List.mem_cons.mp hm with e | e
    · subst e; exact hy
    · exact hp z e
theorem wts_le {b : Nat} : ∀ {xs : List AV}, (∀ x ∈ xs, wt x ≤ b) → wts xs ≤ xs.length * (b + 2)
  | [], _ => by simp [wts]
  | x :: xs, h => by
    have h1 := h x (by simp)
    have h2 := wts_le (xs := xs) fun y hy => h y (List.mem_cons_of_mem _ hy)
    simp only [wts, List.length_cons, Nat.add_mul, Nat.one_mul]
    omega
def bodyF (Φ : CallA) (ifs : List Tst) (c : Cmp) (σ : ASt) (h : AH) : Rs (List AV) := (evF Φ ifs σ h).bind fun k h => match k with
  | true => evC Φ c false σ h
  | false => .ok [] h
theorem evC_cl {Φ : CallA} {tg : Tgt} {it : Itr} {ifs : List Tst} {c : Cmp} {pk : Bool} {σ : ASt} {h : AH} : evC Φ (.cl tg it ifs c) pk σ h = (evI Φ it pk σ h).bind fun xs h => compL tg (bodyF Φ ifs c) xs (wipeA σ (tgSlots tg ++ cmpSlots c)) h := by
  unfold evC
  rfl
theorem evC_elt {Φ : CallA} {e : Exp} {pk : Bool} {σ : ASt} {h : AH} : evC Φ (.elt e) pk σ h = (evE Φ e σ h).bind fun x h => .ok [x] h := by
  unfold evC
  rfl
/-- a row of a chart of m points -/
def RowOk (m : Nat) (r : AV) : Prop := pts m r = true ∧ gd 0 1 r = true ∧ wt r ≤ 2427
theorem rangeA_ints (m : Nat) : rangeA 0 (m : Int) = ((List.range m).map fun (i : Nat) => (i : Int)).map AV.int := by
  unfold rangeA
  rw [List.map_map]
  simp only [Int.sub_zero, Int.toNat_natCast, Function.comp_def, Int.zero_add]
theorem row_of {m : Nat} (hm : m ≤ 12) {zs : List AV} (hz : zs.Sublist (rangeA 0 (m : Int))) : RowOk m (.tup zs) := by
  have hl : zs.length ≤ 12 := by
    have := hz.length_le
    rw [rangeA_length] at this
    omega
  rw [rangeA_ints] at hz
  obtain ⟨ns, hns, rfl⟩ := List.sublist_map_iff.mp hz
  have hr : ∀ k ∈ ns, 0 ≤ k ∧ k < m := fun k hk => by
    obtain ⟨j, hj, rfl⟩ := List.mem_map.mp (hns.subset hk)
    have := List.mem_range.mp hj
    omega
  have hp : ns.Pairwise (· < ·) := by
    refine List.Pairwise.sublist hns ?_
    rw [List.pairwise_map]
    exact List.pairwise_lt_range.imp fun h => by omega
  have hg : ∀ x ∈ ns.map AV.int, gd 0 0 x = true := fun x hx => by
    obtain ⟨k, hk, rfl⟩ := List.mem_map.mp hx
    have := hr k hk
    simp only [gd, sc, decide_eq_true_eq]
    omega
  refine ⟨?_, mk_tup (by omega) hg, ?_⟩
  · simp only [pts, Bool.and_eq_true, rise_iff]
    refine ⟨?_, hp⟩
    rw [List.all_eq_true]
    intro x hx
    obtain ⟨k, hk, rfl⟩ := List.mem_map.mp hx
    have := hr k hk
    simp only [within, decide_eq_true_eq]
    omega
  · have := wts_le (b := 200) (xs := ns.map AV.int) fun x hx => by
      obtain ⟨k, hk, rfl⟩ := List.mem_map.mp hx
      simp [wt]
    simp only [wt]
    have h2 : (ns.map AV.int).length * 202 ≤ 12 * 202 := Nat.mul_le_mul_right _ hl
    omega
theorem evI_rg {Φ : CallA} {b : Exp} {pk : Bool} {σ : ASt} {h h' : AH} {M : Nat} (hM : M ≤ 1000) (hb : evE Φ b σ h = .ok (.int (M : Int)) h') : evI Φ (.rg (.c (.int 0)) b) pk σ h = .ok (rangeA 0 (M : Int)) h' := by
  unfold evI
  rw [show evE Φ (.c (.int 0)) σ h = .ok (.int 0) h by rw [evE], Rs.bind_ok, hb, Rs.bind_ok]
  exact if_pos ⟨by omega, by omega, by omega, by omega⟩
theorem sub_len {M : Nat} (hM : M ≤ 12) {y : List AV} (hy : y.Sublist (rangeA 0 (M : Int))) : y.length ≤ sizeLine := by
  have h1 := hy.length_le
  rw [rangeA_length] at h1
  have h2 : y.length ≤ 1000 := by omega
  exact Nat.le_trans h2 sl1000
theorem evE_comp {Φ : CallA} {c : Cmp} {σ : ASt} {h h' : AH} {zs : List AV} (e : evC Φ c true σ h = .ok zs h') (hl : zs.length ≤ sizeLine) : evE Φ (.comp c) σ h = .ok (.lst zs) h' := by
  rw [evE, e]
  exact if_pos hl
theorem evE_tuple {Φ : CallA} {c : Cmp} {σ : ASt} {h h' : AH} {zs : List AV} (e : evC Φ c true σ h = .ok zs h') (hl : zs.length ≤ sizeLine) : evE Φ (.bi .tuple [.comp c]) σ h = .ok (.tup zs) h' := by
  rw [evE, evPs]
  show ((evE Φ (.comp c) σ h).bind _).bind _ = _
  rw [evE_comp e hl]
  rfl
theorem elt_tuple {Φ : CallA} {c : Cmp} {σ : ASt} {h h' : AH} {zs : List AV} (e : evC Φ c true σ h = .ok zs h') (hl : zs.length ≤ sizeLine) : bodyF Φ [] (.elt (.bi .tuple [.comp c])) σ h = .ok [.tup zs] h' := by
  show evC Φ (.elt (.bi .tuple [.comp c])) false σ h = _
  rw [evC_elt, evE_tuple e hl]
  rfl
theorem l_law_chart : T.lookup (Str.ofString "_law_chart") = some d__law_chart.fn := by kernel_rfl
/-- a drawn chart -/
def ChartOk (v : AV) : Prop := ∃ rows, v = .tup rows ∧ rows.length ≤ 12 ∧ ∀ r ∈ rows, RowOk rows.length r
theorem ChartOk.is {v : AV} (c : ChartOk v) : chartB v = true ∧ gd 0 2 v = true ∧ wt v ≤ 30000 := by
  obtain ⟨rows, rfl, hl, hr⟩ := c
  refine ⟨?_, mk_tup (by omega) fun r m => (hr r m).2.1, ?_⟩
  · simp only [chartB, List.all_eq_true]
    exact fun r m => (hr r m).1
  · have := wts_le (b := 2427) (xs := rows) fun x hx => (hr x hx).2.2
    have h2 : rows.length * 2429 ≤ 12 * 2429 := Nat.mul_le_mul_right _ hl
    simp only [wt]
    omega
theorem c_chart {h : AH} {n : Nat} (s : StOk h n) (k : Nat) : ∃ v h', callN T (k + 2) (Str.ofString "_law_chart") [.ref n, .int 12] h = .ok v h' ∧ ChartOk v ∧ StOk h' n := by
  rw [show callN T (k + 2) (Str.ofString "_law_chart") [.ref n, .int 12] h = runFn (callN T (k + 1)) d__law_chart.fn [.ref n, .int 12] h from step _ _ _ _ _ l_law_chart]
  obtain ⟨m, h1, e1, m0, m1, s1⟩ := c_choice s k (m := 13) (by omega) (by omega)
  obtain ⟨q, h2, e2, q0, q1, s2⟩ := c_choice s1 k (m := 4) (by omega) (by omega)
  obtain ⟨w, ew, mw⟩ := sub_lst (xs := [.int 1, .int 2, .int 4, .int 7]) (r := q) (h := h2) q0 (by simpa using q1)
  have hw : ∃ z : Int, w = .int z := by
    simp only [List.mem_cons, List.not_mem_nil, or_false] at mw
    rcases mw with rfl | rfl | rfl | rfl <;> exact ⟨_, rfl⟩
  obtain ⟨z, rfl⟩ := hw
  obtain ⟨M, rfl⟩ : ∃ M : Nat, m = M := ⟨m.toNat, by omega⟩
  have hM : M ≤ 12 := by omega
  have inner : ∀ (p : AV) (g : AH), StOk g n → ∃ y g', compL (.nm 5) (bodyF (callN T (k + 1)) [(.e (.cmp .lt (.call "_law_choice" [(.var 0), (.c (.int 8))]) (.var 3)))] (.elt (.var 5))) (rangeA 0 (M : Int)) [.vl (.ref n), .vl (.int 12), .vl (.int M), .vl (.int z), .vl p, .un] g = .ok y g' ∧ y.Sublist (rangeA 0 (M : Int)) ∧ StOk g' n := fun p g sg => by
    refine compL_sub (by simp) (fun x hx g sg => ?_) g sg
    obtain ⟨r, g1, e3, _, _, s3⟩ := c_choice sg k (m := 8) (by omega) (by omega)
    by_cases hr : r < z
    · exact ⟨[x], g1, by simp [bodyF, evF, evT, evE, evEs, evC_elt, peek, e3, C_lt, hr, truth], .inr rfl, s3⟩
    · exact ⟨[], g1, by simp [bodyF, evF, evT, evE, evEs, evC_elt, peek, e3, C_lt, hr, truth], .inl rfl, s3⟩
  obtain ⟨rows, h3, e3, hl3, hp3, s3⟩ := compL_rows (i := 4) (n := n) (σ := [.vl (.ref n), .vl (.int 12), .vl (.int M), .vl (.int z), .un, .un]) (by simp) (RowOk M)
    (body := bodyF (callN T (k + 1)) [] (.elt (.bi .tuple [(.comp (.cl (.nm 5) (.rg (.c (.int 0)) (.var 2)) [(.e (.cmp .lt (.call "_law_choice" [(.var 0), (.c (.int 8))]) (.var 3)))] (.elt (.var 5))))])))
    (xs := rangeA 0 (M : Int)) (fun x hx g sg => by
      obtain ⟨y, g1, ey, hy, sy⟩ := inner x g sg
      refine ⟨.tup y, g1, ?_, row_of hM hy, sy⟩
      refine elt_tuple ?_ (sub_len hM hy)
      rw [evC_cl, evI_rg (M := M) (h' := g) (by omega) (by simp [evE]), Rs.bind_ok]
      exact ey) h2 s2
  have hz2 : rows.length ≤ sizeLine := by
    rw [hl3]
    exact sub_len hM (List.Sublist.refl _)
  refine ⟨.tup rows, h3, ?_, ⟨rows, rfl, by rw [hl3, rangeA_length]; omega, by
    have : rows.length = M := by rw [hl3, rangeA_length]; omega
    rw [this]; exact hp3⟩, s3⟩
  have eret : evS (callN T (k + 1)) (.ret (.bi .tuple [.comp (.cl (.nm 4) (.rg (.c (.int 0)) (.var 2)) [] (.elt (.bi .tuple [(.comp (.cl (.nm 5) (.rg (.c (.int 0)) (.var 2)) [(.e (.cmp .lt (.call "_law_choice" [(.var 0), (.c (.int 8))]) (.var 3)))] (.elt (.var 5))))])))]))
      [.vl (.ref n), .vl (.int 12), .vl (.int M), .vl (.int z), .un, .un] h2 = .ok (.rt (.tup rows)) h3 := by
    rw [evS]
    show (evE _ _ [.vl (.ref n), .vl (.int 12), .vl (.int M), .vl (.int z), .un, .un] h2).bind _ = _
    rw [evE_tuple (h' := h3) (zs := rows) ?_ hz2]
    · rfl
    · rw [evC_cl, evI_rg (M := M) (h' := h2) (by omega) (by simp [evE]), Rs.bind_ok]
      exact e3
  have easg : evS (callN T (k + 1)) (.asg (.tp [(.nm 2), (.nm 3)]) (.tup [(.call "_law_choice" [(.var 0), (.bin .add (.var 1) (.c (.int 1)))]), (.sub (.lst [(.c (.int 1)), (.c (.int 2)), (.c (.int 4)), (.c (.int 7))]) (.call "_law_choice" [(.var 0), (.c (.int 4))]))]))
      [.vl (.ref n), .vl (.int 12), .un, .un, .un, .un] h = .ok (.nx [.vl (.ref n), .vl (.int 12), .vl (.int M), .vl (.int z), .un, .un]) h2 := by
    have a1 : evE (callN T (k + 1)) (.call "_law_choice" [(.var 0), (.bin .add (.var 1) (.c (.int 1)))]) [.vl (.ref n), .vl (.int 12), .un, .un, .un, .un] h = .ok (.int M) h1 := by
      rw [evE]
      exact e1
    have a2 : evE (callN T (k + 1)) (.call "_law_choice" [(.var 0), (.c (.int 4))]) [.vl (.ref n), .vl (.int 12), .un, .un, .un, .un] h1 = .ok (.int q) h2 := by
      rw [evE]
      exact e2
    have a3 : evE (callN T (k + 1)) (.sub (.lst [(.c (.int 1)), (.c (.int 2)), (.c (.int 4)), (.c (.int 7))]) (.call "_law_choice" [(.var 0), (.c (.int 4))])) [.vl (.ref n), .vl (.int 12), .un, .un, .un, .un] h1 = .ok (.int z) h2 := by
      rw [evE]
      show (evE (callN T (k + 1)) (.call "_law_choice" [(.var 0), (.c (.int 4))]) [.vl (.ref n), .vl (.int 12), .un, .un, .un, .un] h1).bind (fun y g => lift (opSub (.lst [.int 1, .int 2, .int 4, .int 7]) y g) g) = _
      rw [a2, Rs.bind_ok, ew]
      rfl
    rw [evS, evE, evEs, a1, Rs.bind_ok, evEs, a3]
    rfl
  show runFn (callN T (k + 1)) ⟨6, 2, [_, _]⟩ _ h = _
  unfold runFn
  refine (if_pos rfl).trans ?_
  rw [evSs]
  show ((evS _ _ [.vl (.ref n), .vl (.int 12), .un, .un, .un, .un] h).bind _).bind _ = _
  rw [easg, Rs.bind_ok]
  show (evSs _ [_] _ h2).bind _ = _
  rw [evSs, eret]
  rfl
end K1

set_option linter.all false
set_option maxRecDepth 100000
set_option maxHeartbeats 4000000
namespace K1
open PySem G
def bentT : List Stm := match b__law_bent with
  | _ :: t => t
  | [] => []
abbrev Bent (g d : Nat) (x : AV) (n : Nat) (y : AV) (h' : AH) : Prop := gd (g + 1) (d + 2) y = true ∧ wt y ≤ 2 * wt x + 1000 ∧ StOk h' n
theorem odd_bent {g d : Nat} {x : AV} {n : Nat} {v : AV} {h' : AH} (m : v ∈ oddL) (s : StOk h' n) : Bent g d x n v h' := by
  obtain ⟨h1, h2⟩ := odd_gd v m
  exact ⟨gd_mono (by omega) (by omega) h1, by omega, s⟩
theorem tail_odd {x : AV} (hx : known x = true) (ht : ∀ xs, x ≠ .tup xs) (hi : ∀ i, x ≠ .int i) (hs : ∀ z, x ≠ .str z) {g d : Nat} {h : AH} {n : Nat} (s : StOk h n) (k : Nat) :
    ∃ y h', evSs (callN T (k + 2)) bentT [.vl (.ref n), .vl x, .un, .un, .un] h = .ok (.rt y) h' ∧ Bent g d x n y h' := by
  obtain ⟨w, h1, e1, w0, w1, s1⟩ := c_choice s (k + 1) (m := 9) (by omega) (by omega)
  obtain ⟨v, h2, e2, mv, s2⟩ := c_odd s1 k
  have e3 := c_law_whole (k + 1) x h1 hx
  simp only [C] at e3
  refine ⟨v, h2, ?_, odd_bent mv s2⟩
  cases x <;> first | (simp [known] at hx; done) | (exact absurd rfl (ht _)) | (exact absurd rfl (hi _)) | (exact absurd rfl (hs _)) | skip
  all_goals simp [bentT, b__law_bent, evSs, evS, evE, evEs, evT, peek, e1, e2, e3, setSlot, hasTys, hasTy, truth, whole, frz]
theorem tail_int {i : Int} {g d : Nat} (hx : gd g d (.int i) = true) {h : AH} {n : Nat} (s : StOk h n) (k : Nat) :
    ∃ y h', evSs (callN T (k + 2)) bentT [.vl (.ref n), .vl (.int i), .un, .un, .un] h = .ok (.rt y) h' ∧ Bent g d (.int i) n y h' := by
  obtain ⟨w, h1, e1, w0, w1, s1⟩ := c_choice s (k + 1) (m := 9) (by omega) (by omega)
  have e3 := c_law_whole (k + 1) (.int i) h1 rfl
  simp only [C] at e3
  by_cases hw : w < 6
  · obtain ⟨v, ev, mv⟩ := sub_lst (xs := [.int 1, .int (-1), .int 2, .int 9999, .int (-9999), .int 5]) (r := w) (h := h1) w0 (by simpa using hw)
    have hv : ∃ j : Int, v = .int j ∧ j.natAbs ≤ 9999 := by
      simp only [List.mem_cons, List.not_mem_nil, or_false] at mv
      rcases mv with rfl | rfl | rfl | rfl | rfl | rfl <;> exact ⟨_, rfl, by decide⟩
    obtain ⟨j, rfl, hj⟩ := hv
    refine ⟨.int (i + j), h1, ?_, ?_, by simp [wt], s1⟩
    · simp [bentT, b__law_bent, evSs, evS, evE, evEs, evT, peek, e1, e3, setSlot, hasTys, hasTy, truth, whole, frz, C_lt, hw, ev, B_add, sizeLine_eq]
    · have hi : i.natAbs ≤ 10 ^ 29 + g * 10000 := by
        cases d with
        | zero => simpa [gd, sc] using hx
        | succ d => simpa [gd, sc] using hx
      simp only [gd, sc, decide_eq_true_eq]
      omega
  · obtain ⟨v, h2, e2, mv, s2⟩ := c_odd s1 k
    refine ⟨v, h2, ?_, odd_bent mv s2⟩
    simp [bentT, b__law_bent, evSs, evS, evE, evEs, evT, peek, e1, e2, e3, setSlot, hasTys, hasTy, truth, whole, frz, C_lt, hw]
end K1

set_option linter.all false
set_option maxRecDepth 100000
set_option maxHeartbeats 4000000
namespace K1
open PySem G
def okS (L : Nat) (x : Str) : Prop := x.cps.toList.length ≤ L ∧ ∀ c ∈ x.cps.toList, c < 128
theorem okS_sc {g d : Nat} {x : Str} : gd g d (.str x) = true ↔ okS (6 + g) x := by
  unfold okS
  cases d with
  | zero => simp only [gd, sc, Bool.and_eq_true, decide_eq_true_eq, List.all_eq_true]
  | succ d => simp only [gd, sc, Bool.and_eq_true, decide_eq_true_eq, List.all_eq_true]
theorem okS_app {a b : Nat} {x y : Str} (hx : okS a x) (hy : okS b y) : okS (a + b) (x ++ y) := by
  have e : (x ++ y).cps.toList = x.cps.toList ++ y.cps.toList := by
    show (x.cps ++ y.cps).toList = _
    simp
  unfold okS
  rw [e, List.length_append]
  refine ⟨by have := hx.1; have := hy.1; omega, fun c hc => ?_⟩
  rcases List.mem_append.mp hc with m | m
  · exact hx.2 c m
  · exact hy.2 c m
theorem okS_cut {a : Nat} {x : Str} (hx : okS a x) (lo hi : Option Int) : okS a (L2.cutS x lo hi) := by
  have e : (L2.cutS x lo hi).cps.toList = (x.cps.toList.drop (HT.sIx x.length 0 lo)).take (HT.sIx x.length x.length hi - HT.sIx x.length 0 lo) := by
    unfold L2.cutS
    simp
  unfold okS
  rw [e]
  refine ⟨?_, fun c hc => hx.2 c (List.mem_of_mem_drop (List.mem_of_mem_take hc))⟩
  rw [List.length_take, List.length_drop]
  have := hx.1
  omega
theorem okS_upper {a : Nat} {x : Str} (hx : okS a x) : okS a (Txt.upper x) := by
  rw [PyProof.Rows.upper_ascii hx.2]
  unfold okS
  simp only [Array.toList_map, List.length_map]
  refine ⟨hx.1, fun c hc => ?_⟩
  obtain ⟨b, hb, rfl⟩ := List.mem_map.mp hc
  have := hx.2 b hb
  unfold PyProof.Rows.up1
  split <;> omega
theorem tail_str {z : Str} {g d : Nat} (hx : gd g d (.str z) = true) (hg : g ≤ 5) {h : AH} {n : Nat} (s : StOk h n) (k : Nat) :
    ∃ y h', evSs (callN T (k + 2)) bentT [.vl (.ref n), .vl (.str z), .un, .un, .un] h = .ok (.rt y) h' ∧ Bent g d (.str z) n y h' := by
  obtain ⟨w, h1, e1, w0, w1, s1⟩ := c_choice s (k + 1) (m := 9) (by omega) (by omega)
  have e3 := c_law_whole (k + 1) (.str z) h1 rfl
  simp only [C] at e3
  have hz := okS_sc.mp hx
  have hl : z.length ≤ 11 := by
    rw [str_len]
    have := hz.1
    omega
  have hsz : z.length ≤ sizeLine := Nat.le_trans hl (by decide)
  by_cases hw : w < 6
  · have b1 : opB .add (.str z) (.str "a") h1 = .ok (.str (z ++ "a")) h1 := B_str (by
      have e : ("a" : Str).length = 1 := rfl
      rw [e]
      exact Nat.le_trans (by omega : z.length + 1 ≤ 1000) sl1000)
    have b2 : opB .add (.str "G") (.str z) h1 = .ok (.str ("G" ++ z)) h1 := B_str (by
      have e : ("G" : Str).length = 1 := rfl
      rw [e]
      exact Nat.le_trans (by omega : 1 + z.length ≤ 1000) sl1000)
    have b3 : opB .add (.str z) (.str " ") h1 = .ok (.str (z ++ " ")) h1 := B_str (by
      have e : (" " : Str).length = 1 := rfl
      rw [e]
      exact Nat.le_trans (by omega : z.length + 1 ≤ 1000) sl1000)
    have b4 : opSlice (.str z) none (some (-1)) h1 = some (.str (L2.cutS z none (some (-1)))) := if_pos hsz
    have b5 : z.length ≤ 5592405 := by omega
    obtain ⟨v, ev, mv⟩ := sub_lst (xs := [.str (z ++ "a"), .str (L2.cutS z none (some (-1))), .str (Txt.upper z), .str ("G" ++ z), .str (z ++ " "), .str "send"]) (r := w) (h := h1) w0 (by simpa using hw)
    have o1 : okS 1 ("a" : Str) := ⟨by decide, by decide⟩
    have o2 : okS 1 ("G" : Str) := ⟨by decide, by decide⟩
    have o3 : okS 1 (" " : Str) := ⟨by decide, by decide⟩
    have o4 : okS 4 ("send" : Str) := ⟨by decide, by decide⟩
    have hv : ∃ y : Str, v = .str y ∧ okS (6 + (g + 1)) y := by
      have mono : ∀ {a : Nat} {y : Str}, okS a y → a ≤ 6 + (g + 1) → okS (6 + (g + 1)) y := fun {a y} q l => ⟨Nat.le_trans q.1 l, q.2⟩
      simp only [List.mem_cons, List.not_mem_nil, or_false] at mv
      rcases mv with rfl | rfl | rfl | rfl | rfl | rfl
      · exact ⟨_, rfl, mono (okS_app hz o1) (by omega)⟩
      · exact ⟨_, rfl, mono (okS_cut hz _ _) (by omega)⟩
      · exact ⟨_, rfl, mono (okS_upper hz) (by omega)⟩
      · exact ⟨_, rfl, mono (okS_app o2 hz) (by omega)⟩
      · exact ⟨_, rfl, mono (okS_app hz o3) (by omega)⟩
      · exact ⟨_, rfl, mono o4 (by omega)⟩
    obtain ⟨y, rfl, hy⟩ := hv
    refine ⟨.str y, h1, ?_, okS_sc.mpr hy, by simp [wt], s1⟩
    simp [bentT, b__law_bent, evSs, evS, evE, evEs, evO, evT, peek, e1, e3, setSlot, hasTys, hasTy, truth, whole, frz, C_lt, hw, ev, b1, b2, b3, b4, b5, sizeLine_eq]
  · obtain ⟨v, h2, e2, mv, s2⟩ := c_odd s1 k
    refine ⟨v, h2, ?_, odd_bent mv s2⟩
    simp [bentT, b__law_bent, evSs, evS, evE, evEs, evT, peek, e1, e2, e3, setSlot, hasTys, hasTy, truth, whole, frz, C_lt, hw]
theorem tail_tup {xs : List AV} {g d : Nat} (hx : gd g d (.tup xs) = true) (hg : g ≤ 5) {h : AH} {n : Nat} (s : StOk h n) (k : Nat) :
    ∃ y h', evSs (callN T (k + 2)) bentT [.vl (.ref n), .vl (.tup xs), .un, .un, .un] h = .ok (.rt y) h' ∧ Bent g d (.tup xs) n y h' := by
  obtain ⟨w, h1, e1, w0, w1, s1⟩ := c_choice s (k + 1) (m := 9) (by omega) (by omega)
  have e3 := c_law_whole (k + 1) (.tup xs) h1 rfl
  simp only [C] at e3
  obtain ⟨d', rfl, hl, hm⟩ := gd_tup hx
  by_cases hw : w < 7
  · have b1 : opB .add (.tup xs) (.tup (cutL xs (some (-1)) none)) h1 = .ok (.tup (xs ++ cutL xs (some (-1)) none)) h1 := B_tup (by
      have := cut_len xs (some (-1)) none
      exact Nat.le_trans (by omega : xs.length + (cutL xs (some (-1)) none).length ≤ 1000) sl1000)
    have b2 : opB .add (.tup xs) (.tup [.int 0]) h1 = .ok (.tup (xs ++ [.int 0])) h1 := B_tup (Nat.le_trans (by simp; omega : xs.length + [AV.int 0].length ≤ 1000) sl1000)
    have b3 : opB .add (.tup xs) (.tup [.tup xs]) h1 = .ok (.tup (xs ++ [.tup xs])) h1 := B_tup (Nat.le_trans (by simp; omega : xs.length + [AV.tup xs].length ≤ 1000) sl1000)
    obtain ⟨v, ev, mv⟩ := sub_lst (xs := [.tup (xs ++ cutL xs (some (-1)) none), .tup (cutL xs none (some (-1))), .tup (cutL xs (some 1) none), .tup xs.reverse, .lst xs, .tup (xs ++ [.int 0]), .tup (xs ++ [.tup xs])]) (r := w) (h := h1) w0 (by simpa using hw)
    have hcl : (cutL xs (some (-1)) none).length ≤ 1 := by
      unfold cutL
      have e : HT.sIx xs.length 0 (some (-1)) = (-1 + (xs.length : Int)).toNat := rfl
      rw [List.length_take, List.length_drop, e]
      omega
    have hm' : ∀ x ∈ xs, gd (g + 1) d' x = true := fun x q => gd_mono (by omega) (Nat.le_refl _) (hm x q)
    have hm2 : ∀ x ∈ xs, gd (g + 1) (d' + 2) x = true := fun x q => gd_mono (by omega) (by omega) (hm x q)
    have hself : gd (g + 1) (d' + 2) (.tup xs) = true := gd_mono (by omega) (by omega) hx
    have ok : ∀ ys : List AV, ys.length ≤ 13 + g → (∀ y ∈ ys, gd (g + 1) (d' + 2) y = true) → wts ys ≤ 2 * wts xs + 900 → Bent g (d' + 1) (.tup xs) n (.tup ys) h1 := fun ys q1 q2 q3 => ⟨mk_tup (by omega) q2, by simp only [wt]; omega, s1⟩
    have w2 : ∀ lo hi, wts (cutL xs lo hi) ≤ wts xs := fun lo hi => wts_cut xs lo hi
    have hv : Bent g (d' + 1) (.tup xs) n v h1 := by
      simp only [List.mem_cons, List.not_mem_nil, or_false] at mv
      rcases mv with rfl | rfl | rfl | rfl | rfl | rfl | rfl
      · refine ok _ (by rw [List.length_append]; omega) (fun y hy => ?_) (by rw [wts_append]; have := w2 (some (-1)) none; omega)
        rcases List.mem_append.mp hy with q | q
        · exact hm2 y q
        · exact hm2 y (cut_mem q)
      · exact ok _ (by have := cut_len xs none (some (-1)); omega) (fun y hy => hm2 y (cut_mem hy)) (by have := w2 none (some (-1)); omega)
      · exact ok _ (by have := cut_len xs (some 1) none; omega) (fun y hy => hm2 y (cut_mem hy)) (by have := w2 (some 1) none; omega)
      · exact ok _ (by rw [List.length_reverse]; omega) (fun y hy => hm2 y (List.mem_reverse.mp hy)) (by rw [wts_rev]; omega)
      · exact ⟨mk_lst (by omega) hm2, by simp only [wt]; omega, s1⟩
      · refine ok _ (by rw [List.length_append]; simp; omega) (fun y hy => ?_) (by rw [wts_append]; simp only [wts, wt]; omega)
        rcases List.mem_append.mp hy with q | q
        · exact hm2 y q
        · simp only [List.mem_cons, List.not_mem_nil, or_false] at q
          subst q
          simp only [gd, sc, decide_eq_true_eq]
          omega
      · refine ok _ (by rw [List.length_append]; simp; omega) (fun y hy => ?_) (by rw [wts_append]; simp only [wts, wt]; omega)
        rcases List.mem_append.mp hy with q | q
        · exact hm2 y q
        · simp only [List.mem_cons, List.not_mem_nil, or_false] at q
          subst q
          exact hself
    refine ⟨v, h1, ?_, hv⟩
    simp [bentT, b__law_bent, evSs, evS, evE, evEs, evPs, evO, evT, peek, e1, e3, setSlot, hasTys, hasTy, truth, whole, frz, C_lt, hw, ev, sl_tup, bi_list, b1, b2, b3, sizeLine_eq]
  · obtain ⟨v, h2, e2, mv, s2⟩ := c_odd s1 k
    refine ⟨v, h2, ?_, odd_bent mv s2⟩
    simp [bentT, b__law_bent, evSs, evS, evE, evEs, evT, peek, e1, e2, e3, setSlot, hasTys, hasTy, truth, whole, frz, C_lt, hw]
end K1

set_option linter.all false
set_option maxRecDepth 100000
set_option maxHeartbeats 4000000
namespace K1
open PySem G
def S0 : Stm := match b__law_bent with
  | s :: _ => s
  | [] => .pass
theorem l_law_bent : T.lookup (Str.ofString "_law_bent") = some d__law_bent.fn := by kernel_rfl
theorem tail_any {x : AV} {g d : Nat} (hx : gd g d x = true) (hg : g ≤ 5) {h : AH} {n : Nat} (s : StOk h n) (k : Nat) :
    ∃ y h', evSs (callN T (k + 2)) bentT [.vl (.ref n), .vl x, .un, .un, .un] h = .ok (.rt y) h' ∧ Bent g d x n y h' := by
  cases x
  case tup xs => exact tail_tup hx hg s k
  case int i => exact tail_int hx s k
  case str z => exact tail_str hx hg s k
  all_goals exact tail_odd (gd_known hx) (fun _ e => by cases e) (fun _ e => by cases e) (fun _ e => by cases e) s k
theorem bent_run {Φ : CallA} {x y : AV} {h h1 h' : AH} {n : Nat} (e0 : evS Φ S0 [.vl (.ref n), .vl x, .un, .un, .un] h = .ok (.nx [.vl (.ref n), .vl x, .un, .un, .un]) h1) (e1 : evSs Φ bentT [.vl (.ref n), .vl x, .un, .un, .un] h1 = .ok (.rt y) h') : runFn Φ d__law_bent.fn [.ref n, x] h = .ok y h' := by
  show runFn Φ ⟨5, 2, S0 :: bentT⟩ [.ref n, x] h = _
  unfold runFn
  refine (if_pos rfl).trans ?_
  rw [evSs]
  show ((evS Φ S0 [.vl (.ref n), .vl x, .un, .un, .un] h).bind _).bind _ = _
  rw [e0, Rs.bind_ok]
  show (evSs Φ bentT [.vl (.ref n), .vl x, .un, .un, .un] h1).bind _ = _
  rw [e1]
  rfl
theorem bent_ret {Φ : CallA} {x y : AV} {h h' : AH} {n : Nat} (e0 : evS Φ S0 [.vl (.ref n), .vl x, .un, .un, .un] h = .ok (.rt y) h') : runFn Φ d__law_bent.fn [.ref n, x] h = .ok y h' := by
  show runFn Φ ⟨5, 2, S0 :: bentT⟩ [.ref n, x] h = _
  unfold runFn
  refine (if_pos rfl).trans ?_
  rw [evSs]
  show ((evS Φ S0 [.vl (.ref n), .vl x, .un, .un, .un] h).bind _).bind _ = _
  rw [e0]
  rfl
theorem c_bent {g : Nat} (hg : g ≤ 5) {n : Nat} : ∀ (d : Nat) (x : AV) (k : Nat) (h : AH), gd g d x = true → StOk h n → ∃ y h', callN T (k + d + 3) (Str.ofString "_law_bent") [.ref n, x] h = .ok y h' ∧ Bent g d x n y h' := by
  intro d
  induction d with
  | zero =>
    intro x k h hx s
    rw [show callN T (k + 0 + 3) (Str.ofString "_law_bent") [.ref n, x] h = runFn (callN T (k + 2)) d__law_bent.fn [.ref n, x] h from step _ _ _ _ _ l_law_bent]
    obtain ⟨y, h', e1, b⟩ := tail_any hx hg s k
    refine ⟨y, h', bent_run ?_ e1, b⟩
    have hk := gd_known hx
    cases x <;> first | (simp [known] at hk; done) | (simp [gd, sc] at hx; done) | skip
    all_goals simp [S0, b__law_bent, evS, evSs, evT, evE, peek, hasTys, hasTy, truth]
  | succ d ih =>
    intro x k h hx s
    rw [show callN T (k + (d + 1) + 3) (Str.ofString "_law_bent") [.ref n, x] h = runFn (callN T (k + d + 3)) d__law_bent.fn [.ref n, x] h from step _ _ _ _ _ l_law_bent]
    have hk := gd_known hx
    have tl := fun (h : AH) (s : StOk h n) => tail_any hx hg s (k + d + 1)
    cases x <;> first | (simp [known] at hk; done) | skip
    case tup xs =>
      cases xs with
      | nil =>
        obtain ⟨y, h', e1, b⟩ := tl h s
        refine ⟨y, h', bent_run ?_ e1, b⟩
        simp [S0, b__law_bent, evS, evSs, evT, evE, evEs, peek, hasTys, hasTy, truth, opC, eqD_tnil]
      | cons y0 ys =>
        obtain ⟨r, h1, e1, r0, r1, s1⟩ := c_choice s (k + d + 2) (m := 5) (by omega) (by omega)
        by_cases hr : 0 < r
        · obtain ⟨d', ed, hl, hm⟩ := gd_tup hx
          cases ed
          generalize hxs : y0 :: ys = xs at hx hk tl hl hm ⊢
          have hne : (xs.isEmpty) = false := by rw [← hxs]; rfl
          have hpos : 1 ≤ xs.length := by rw [← hxs]; simp
          obtain ⟨a, h2, e2, a0, a1, s2⟩ := c_choice s1 (k + d + 2) (m := xs.length) (by omega) (by omega)
          obtain ⟨A, rfl⟩ : ∃ A : Nat, a = A := ⟨a.toNat, by omega⟩
          have hA : A < xs.length := by omega
          have e3 : opSub (.tup xs) (.int A) h2 = some xs[A] := by
            rw [sub_tup]
            unfold L2.atI L2.ixN
            rw [if_pos (by omega), if_pos (by omega)]
            simp [hA]
          obtain ⟨y, h3, e4, by1, by2, s3⟩ := ih xs[A] k h2 (hm _ (List.getElem_mem hA)) s2
          have f1 : opSlice (.tup xs) none (some (A : Int)) h2 = some (.tup (xs.take A)) := by rw [sl_tup, cut_to, Nat.min_eq_left (by omega)]
          have f2 : opSlice (.tup xs) (some ((A : Int) + 1)) none h3 = some (.tup (xs.drop (A + 1))) := by
            rw [sl_tup, show ((A : Int) + 1) = ((A + 1 : Nat) : Int) by omega, cut_from, drop_min]
          have lt1 : (xs.take A).length ≤ 20 := by rw [List.length_take]; omega
          have f3 : opB .add (.tup (xs.take A)) (.tup [y]) h3 = .ok (.tup (xs.take A ++ [y])) h3 := B_tup (Nat.le_trans (by simp only [List.length_cons, List.length_nil]; omega : (xs.take A).length + [y].length ≤ 1000) sl1000)
          have f4 : opB .add (.tup (xs.take A ++ [y])) (.tup (xs.drop (A + 1))) h3 = .ok (.tup (xs.take A ++ [y] ++ xs.drop (A + 1))) h3 := B_tup (Nat.le_trans (by rw [List.length_append, List.length_drop]; simp only [List.length_cons, List.length_nil]; omega : (xs.take A ++ [y]).length + (xs.drop (A + 1)).length ≤ 1000) sl1000)
          refine ⟨.tup (xs.take A ++ [y] ++ xs.drop (A + 1)), h3, bent_ret ?_, mk_tup ?_ ?_, ?_, s3⟩
          · simp [S0, b__law_bent, evS, evSs, evT, evE, evEs, evPs, evO, peek, hasTys, hasTy, truth, opC, eqD_tnil, hne, e1, opLt, hr, bi_len, e2, setSlot, frz, f1, e3, e4, f3, B_add, f2, f4, sizeLine_eq]
          · simp only [List.length_append, List.length_take, List.length_drop, List.length_cons, List.length_nil]; omega
          · intro z hz
            rcases List.mem_append.mp hz with q | q
            · rcases List.mem_append.mp q with q | q
              · exact gd_mono (by omega) (by omega) (hm z (List.mem_of_mem_take q))
              · simp only [List.mem_cons, List.not_mem_nil, or_false] at q
                subst q
                exact by1
            · exact gd_mono (by omega) (by omega) (hm z (List.mem_of_mem_drop q))
          · have q1 := wts_split xs A
            rw [List.drop_eq_getElem_cons hA] at q1
            simp only [wt, wts_append, wts] at q1 by2 ⊢
            omega
        · obtain ⟨y, h', e2, b⟩ := tl h1 s1
          refine ⟨y, h', bent_run ?_ e2, b⟩
          have hr' : decide (0 < r) = false := decide_eq_false hr
          simp [S0, b__law_bent, evS, evSs, evT, evE, evEs, peek, hasTys, hasTy, truth, opC, eqD_tnil, e1, opLt, hr]
    all_goals
      obtain ⟨y, h', e1, b⟩ := tl h s
      refine ⟨y, h', bent_run ?_ e1, b⟩
      simp [S0, b__law_bent, evS, evSs, evT, evE, peek, hasTys, hasTy, truth]
end K1

set_option linter.all false
set_option maxRecDepth 100000
set_option maxHeartbeats 4000000
namespace K1
open PySem G
theorem forL_inv {i : Nat} {body : ASt → AH → Rs Fl} (I : ASt → AH → Prop) : ∀ {xs : List AV}, (∀ x ∈ xs, ∀ σ h, I σ h → ∃ σ1 σ2 h2, asgT (.nm i) x σ = some σ1 ∧ body σ1 h = .ok (.nx σ2) h2 ∧ I σ2 h2) →
    ∀ σ h, I σ h → ∃ σ' h', forL (.nm i) body xs σ h = .ok (.nx σ') h' ∧ I σ' h'
  | [], _, σ, h, q => ⟨σ, h, rfl, q⟩
  | x :: xs, hs, σ, h, q => by
    obtain ⟨σ1, σ2, h2, e1, e2, q2⟩ := hs x (by simp) σ h q
    obtain ⟨σ', h', e3, q3⟩ := forL_inv I (fun y hy => hs y (List.mem_cons_of_mem _ hy)) σ2 h2 q2
    refine ⟨σ', h', ?_, q3⟩
    rw [forL, e1, lift_some, Rs.bind_ok, e2]
    exact e3
theorem forL_cnt {i : Nat} {body : ASt → AH → Rs Fl} (I : Nat → ASt → AH → Prop) {m : Nat} (hs : ∀ j x σ h, j < m → I j σ h → ∃ σ1 σ2 h2, asgT (.nm i) x σ = some σ1 ∧ body σ1 h = .ok (.nx σ2) h2 ∧ I (j + 1) σ2 h2) :
    ∀ (xs : List AV) (j : Nat), j + xs.length ≤ m → ∀ σ h, I j σ h → ∃ σ' h', forL (.nm i) body xs σ h = .ok (.nx σ') h' ∧ I (j + xs.length) σ' h'
  | [], j, _, σ, h, q => ⟨σ, h, rfl, q⟩
  | x :: xs, j, hj, σ, h, q => by
    simp only [List.length_cons] at hj
    obtain ⟨σ1, σ2, h2, e1, e2, q2⟩ := hs j x σ h (by omega) q
    obtain ⟨σ', h', e3, q3⟩ := forL_cnt I hs xs (j + 1) (by omega) σ2 h2 q2
    refine ⟨σ', h', ?_, by simpa [Nat.add_assoc, Nat.add_comm 1] using q3⟩
    rw [forL, e1, lift_some, Rs.bind_ok, e2]
    exact e3
theorem seq {Φ : CallA} {s : Stm} {ss : List Stm} {σ σ1 : ASt} {h h1 : AH} (e : evS Φ s σ h = .ok (.nx σ1) h1) : evSs Φ (s :: ss) σ h = evSs Φ ss σ1 h1 := by
  rw [evSs, e]
  rfl
theorem evS_set {Φ : CallA} {i : Nat} {e : Exp} {σ : ASt} {h h1 : AH} {v : AV} (hi : i < σ.length) (q : evE Φ e σ h = .ok v h1) : evS Φ (.set i e) σ h = .ok (.nx (σ.set i (.vl v))) h1 := by
  rw [evS, q]
  simp only [Rs.bind_ok, setSlot, hi, if_true, lift_some]
theorem evS_for {Φ : CallA} {tg : Tgt} {it : Itr} {b : List Stm} {σ : ASt} {h h1 : AH} {xs : List AV} {r : Rs Fl} (q : evI Φ it false σ h = .ok xs h1) (q2 : forL tg (evSs Φ b) xs σ h1 = r) : evS Φ (.for tg it b) σ h = r := by
  rw [evS, q]
  exact q2
theorem evS_if {Φ : CallA} {t : Tst} {a : List Stm} {σ : ASt} {h h1 : AH} (q : evT Φ t σ h = .ok false h1) : evS Φ (.ife t a []) σ h = .ok (.nx σ) h1 := by
  rw [evS, q]
  show evSs Φ [] σ h1 = _
  rw [evSs]
def It (v : AV) : Prop := gd 3 20 v = true ∧ wt v ≤ 600000
theorem it_of {g d : Nat} {v : AV} (hg : g ≤ 3) (hd : d ≤ 20) (h : gd g d v = true) (hw : wt v ≤ 600000) : It v := ⟨gd_mono hg hd h, hw⟩
theorem bi_repr {v : AV} {t : Str} {h : AH} (e : opRepr v = some t) : opBi .repr [v] h = .ok (.str t) h := by
  have : opBi .repr [v] h = lift ((opRepr v).map .str) h := by cases v <;> rfl
  rw [this, e]
  rfl
theorem eqD_str (a b : Str) : eqD (.str a) (.str b) = some (a == b) := by
  unfold eqD
  rw [if_pos (by simp [dep])]
  rfl
/-- the look at one thing -/
def itemB : List Stm := match b_law with
  | [.for _ _ [_, .for _ _ [_, _, _, _, _, .for _ _ b]], _] => b
  | _ => []
def lapB : List Stm := match b_law with
  | [.for _ _ [_, .for _ _ [_, _, _, _, .for _ _ b, _]], _] => b
  | _ => []
def turnB : List Stm := match b_law with
  | [.for _ _ [_, .for _ _ b], _] => b
  | _ => []
def cellB : List Stm := match b_law with
  | [.for _ _ b, _] => b
  | _ => []
theorem item_ok {v : AV} (hv : It v) (a0 a1 a2 a3 a4 a5 a6 a8 : Sv) (h : AH) : ∃ t, evSs (callN T 39) itemB [a0, a1, a2, a3, a4, a5, a6, .vl v, a8] h = .ok (.nx [a0, a1, a2, a3, a4, a5, a6, .vl v, .vl (.str t)]) h := by
  obtain ⟨hg, hw⟩ := hv
  obtain ⟨t, et⟩ := repr_some (by omega) (by omega) hg (by omega)
  have e1 : callN T 39 (Str.ofString "is_chart") [v] h = .ok (.bl (chartB v)) h := c_is_chart 35 v h (gd_knownC (by omega) hg)
  have e2 : callN T 39 (Str.ofString "_law_is_chart") [v] h = .ok (.bl (chartB v)) h := c_law_is_chart 37 v h (gd_knownC (by omega) hg) fun rows er xs hm => by
    subst er
    obtain ⟨d', _, _, hr⟩ := gd_tup hg
    obtain ⟨_, _, hl, _⟩ := gd_tup (hr _ hm)
    omega
  obtain ⟨tb, eb⟩ : ∃ tb, opRepr (.bl (chartB v)) = some tb := repr_some (g := 0) (d := 0) (by omega) (by omega) rfl (by simp [wt])
  refine ⟨t, ?_⟩
  rw [show itemB = [(.set 8 (.bi .repr [(.var 7)])), (.ife (.or (.e (.cmp .ne (.bi .repr [(.call "is_chart" [(.var 7)])]) (.bi .repr [(.call "_law_is_chart" [(.var 7)])]))) (.e (.cmp .ne (.bi .repr [(.var 7)]) (.var 8)))) [(.ret (.c (.bl false)))] [])] from rfl]
  rw [seq (evS_set (v := .str t) (h1 := h) (by simp) (by simp [evE, evPs, peek, bi_repr et]))]
  simp only [List.set_cons_succ, List.set_cons_zero]
  rw [seq (evS_if (h1 := h) (by simp [evT, evE, evEs, evPs, peek, e1, e2, bi_repr et, bi_repr eb, opC, eqD_str, truth])), evSs]
theorem lap_step {n : Nat} {ch : AV} (hc : ChartOk ch) {L : List AV} (hL : ∀ v ∈ L, It v) (hl : L.length ≤ 100) {h : AH} (s : StOk h n) (a0 a1 a3 a6 a7 a8 : Sv) :
    ∃ v L' h', evSs (callN T 39) lapB [a0, a1, .vl (.ref n), a3, .vl ch, .vl (.lst L), a6, a7, a8] h = .ok (.nx [a0, a1, .vl (.ref n), a3, .vl ch, .vl (.lst L'), a6, .vl v, a8]) h' ∧ (∀ v ∈ L', It v) ∧ L'.length = L.length + 3 ∧ StOk h' n := by
  obtain ⟨c1, c2, c3⟩ := hc.is
  obtain ⟨x, h1, e1, x1, x2, s1⟩ := c_bent (g := 0) (n := n) (by omega) 2 ch 34 h c2 s
  obtain ⟨y, h2, e2, y1, y2, s2⟩ := c_bent (g := 1) (n := n) (by omega) 4 x 32 h1 x1 s1
  obtain ⟨z, h3, e3, z1, z2, s3⟩ := c_bent (g := 1) (n := n) (by omega) 4 x 32 h2 x1 s2
  obtain ⟨u, h4, e4, u1, u2, s4⟩ := c_bent (g := 2) (n := n) (by omega) 6 z 30 h3 z1 s3
  refine ⟨x, L ++ [x, y, u], h4, ?_, fun v hv => ?_, by simp, s4⟩
  · rw [show lapB = [(.set 7 (.call "_law_bent" [(.var 2), (.var 4)])), (.set 5 (.bin .add (.var 5) (.lst [(.var 7), (.call "_law_bent" [(.var 2), (.var 7)]), (.call "_law_bent" [(.var 2), (.call "_law_bent" [(.var 2), (.var 7)])])])))] from rfl]
    have e1 : callN T 39 (Str.ofString "_law_bent") [.ref n, ch] h = .ok x h1 := e1
    have e2 : callN T 39 (Str.ofString "_law_bent") [.ref n, x] h1 = .ok y h2 := e2
    have e3 : callN T 39 (Str.ofString "_law_bent") [.ref n, x] h2 = .ok z h3 := e3
    have e4 : callN T 39 (Str.ofString "_law_bent") [.ref n, z] h3 = .ok u h4 := e4
    have f : opB .add (.lst L) (.lst [x, y, u]) h4 = .ok (.lst (L ++ [x, y, u])) h4 := B_lst (Nat.le_trans (by simp only [List.length_cons, List.length_nil]; omega : L.length + [x, y, u].length ≤ 1000) sl1000)
    rw [seq (evS_set (v := x) (h1 := h1) (by simp) (by simp [evE, evEs, e1]))]
    simp only [List.set_cons_succ, List.set_cons_zero]
    rw [seq (evS_set (v := .lst (L ++ [x, y, u])) (h1 := h4) (by simp) (by simp [evE, evEs, e2, e3, e4, f, sizeLine_eq]))]
    rw [evSs]
    rfl
  · rcases List.mem_append.mp hv with q | q
    · exact hL v q
    · simp only [List.mem_cons, List.not_mem_nil, or_false] at q
      rcases q with rfl | rfl | rfl
      · exact it_of (by omega) (by omega) x1 (by omega)
      · exact it_of (by omega) (by omega) y1 (by omega)
      · exact it_of (by omega) (by omega) u1 (by omega)
end K1

set_option linter.all false
set_option maxRecDepth 100000
set_option maxHeartbeats 4000000
namespace K1
open PySem G
theorem evI_c {Φ : CallA} {pk : Bool} {σ : ASt} {h : AH} {M : Nat} (hM : M ≤ 1000) : evI Φ (.rg (.c (.int 0)) (.c (.int (M : Int)))) pk σ h = .ok (rangeA 0 (M : Int)) h := evI_rg hM (by rw [evE])
theorem evI_5 {Φ : CallA} {pk : Bool} {σ : ASt} {h : AH} : evI Φ (.rg (.c (.int 0)) (.c (.int 5))) pk σ h = .ok (rangeA 0 ((5 : Nat) : Int)) h := evI_c (M := 5) (by omega)
theorem evI_4 {Φ : CallA} {pk : Bool} {σ : ASt} {h : AH} : evI Φ (.rg (.c (.int 0)) (.c (.int 4))) pk σ h = .ok (rangeA 0 ((4 : Nat) : Int)) h := evI_c (M := 4) (by omega)
theorem turn_step {n : Nat} {h : AH} (s : StOk h n) (a0 a1 a3 a4 a5 a6 a7 a8 : Sv) :
    ∃ b4 b5 b6 b7 b8 h', evSs (callN T 39) turnB [a0, a1, .vl (.ref n), a3, a4, a5, a6, a7, a8] h = .ok (.nx [a0, a1, .vl (.ref n), a3, b4, b5, b6, b7, b8]) h' ∧ StOk h' n := by
  obtain ⟨ch, h1, e1, hc, s1⟩ := c_chart s 37
  obtain ⟨v, h2, e2, mv, s2⟩ := c_odd s1 37
  have e1 : callN T 39 (Str.ofString "_law_chart") [.ref n, .int 12] h = .ok ch h1 := e1
  have e2 : callN T 39 (Str.ofString "_law_odd") [.ref n] h1 = .ok v h2 := e2
  obtain ⟨c1, c2, c3⟩ := hc.is
  have e3 : callN T 39 (Str.ofString "is_chart") [ch] h1 = .ok (.bl true) h1 := by rw [← c1]; exact c_is_chart 35 ch h1 (gd_knownC (g := 0) (by omega) c2)
  obtain ⟨rows, rfl, hl, hr⟩ := id hc
  have f1 : opB .add (.tup rows) (.tup [.tup rows]) h1 = .ok (.tup (rows ++ [.tup rows])) h1 := B_tup (Nat.le_trans (by simp only [List.length_cons, List.length_nil]; omega : rows.length + [AV.tup rows].length ≤ 1000) sl1000)
  have it1 : It (.lst rows) := by
    obtain ⟨d', ed, q1, q2⟩ := gd_tup c2
    cases ed
    exact it_of (by omega) (by omega : 2 ≤ 20) (mk_lst q1 q2) (by simp only [wt] at c3 ⊢; omega)
  have it2 : It (.tup (rows ++ [.tup rows])) := by
    refine it_of (g := 1) (d := 3) (by omega) (by omega) (mk_tup ?_ fun x hx => ?_) ?_
    · simp only [List.length_append, List.length_cons, List.length_nil]; omega
    · rcases List.mem_append.mp hx with q | q
      · obtain ⟨d', ed, q1, q2⟩ := gd_tup c2
        cases ed
        exact gd_mono (by omega) (by omega) (q2 x q)
      · simp only [List.mem_cons, List.not_mem_nil, or_false] at q
        subst q
        exact gd_mono (by omega) (by omega) c2
    · simp only [wt, wts_append, wts] at c3 ⊢
      omega
  have itv : It v := it_of (by omega) (by omega) (odd_gd v mv).1 (by have := (odd_gd v mv).2; omega)
  have itl : It (.tup [.int rows.length]) := by
    refine it_of (g := 0) (d := 1) (by omega) (by omega) (mk_tup (by simp) fun x hx => ?_) (by simp [wt, wts])
    simp only [List.mem_cons, List.not_mem_nil, or_false] at hx
    subst hx
    simp only [gd, sc, decide_eq_true_eq, Int.natAbs_natCast]
    omega
  have its : It (.tup [.int 0]) ∧ It (.tup [.tup [.int 0, .int 0]]) ∧ It (.tup [.tup [.bl true]]) ∧ It (.tup [.tup [.int 1]]) :=
    ⟨⟨by decide +kernel, by decide +kernel⟩, ⟨by decide +kernel, by decide +kernel⟩, ⟨by decide +kernel, by decide +kernel⟩, ⟨by decide +kernel, by decide +kernel⟩⟩
  rw [show turnB = [(.set 4 (.call "_law_chart" [(.var 2), (.c (.int 12))])), (.ife (.e (.cmp .isn (.callK "is_chart" [(.var 4)] [0]) (.c (.bl true)))) [(.ret (.c (.bl false)))] []),
    (.set 5 (.lst [(.bi .list [(.var 4)]), (.bin .add (.var 4) (.tup [(.var 4)])), (.tup [(.c (.int 0))]), (.tup [(.bi .len [(.var 4)])]), (.call "_law_odd" [(.var 2)]), (.tup [(.tup [(.c (.int 0)), (.c (.int 0))])])])),
    (.set 5 (.bin .add (.var 5) (.lst [(.tup [(.tup [(.c (.bl true))])]), (.tup [(.tup [(.c (.int 1))])])]))), (.for (.nm 6) (.rg (.c (.int 0)) (.c (.int 5))) lapB), (.for (.nm 7) (.sq (.var 5)) itemB)] from rfl]
  rw [seq (evS_set (v := .tup rows) (h1 := h1) (by simp) (by simp [evE, evEs, e1]))]
  simp only [List.set_cons_succ, List.set_cons_zero]
  rw [seq (evS_if (h1 := h1) (by simp [evT, evE, evEs, peek, e3, opC, opIs, truth]))]
  rw [seq (evS_set (v := .lst [.lst rows, .tup (rows ++ [.tup rows]), .tup [.int 0], .tup [.int rows.length], v, .tup [.tup [.int 0, .int 0]]]) (h1 := h2) (by simp) (by simp [evE, evEs, evPs, peek, bi_list, bi_len, f1, e2, sizeLine_eq]))]
  simp only [List.set_cons_succ, List.set_cons_zero]
  rw [seq (evS_set (v := .lst [.lst rows, .tup (rows ++ [.tup rows]), .tup [.int 0], .tup [.int rows.length], v, .tup [.tup [.int 0, .int 0]], .tup [.tup [.bl true]], .tup [.tup [.int 1]]]) (h1 := h2) (by simp) (by simp [evE, evEs, opB, sizeLine_eq]))]
  simp only [List.set_cons_succ, List.set_cons_zero]
  obtain ⟨σ3, h3, e4, L, b6, b7, rfl, hL, hlen, s3⟩ := forL_cnt (i := 6) (body := evSs (callN T 39) lapB)
    (fun j σ h => ∃ L a6 a7, σ = [a0, a1, .vl (.ref n), a3, .vl (.tup rows), .vl (.lst L), a6, a7, a8] ∧ (∀ v ∈ L, It v) ∧ L.length = 8 + 3 * j ∧ StOk h n) (m := 5)
    (fun j x σ h hj ⟨L, a6, a7, eσ, hL, hlen, s⟩ => by
      subst eσ
      obtain ⟨w, L', h', e, q1, q2, q3⟩ := lap_step hc hL (by omega) s a0 a1 a3 (.vl x) a7 a8
      exact ⟨_, _, h', rfl, e, L', _, _, rfl, q1, by omega, q3⟩)
    (rangeA 0 ((5 : Nat) : Int)) 0 (by simp [rangeA_length]) [a0, a1, .vl (.ref n), a3, .vl (.tup rows), .vl (.lst [.lst rows, .tup (rows ++ [.tup rows]), .tup [.int 0], .tup [.int rows.length], v, .tup [.tup [.int 0, .int 0]], .tup [.tup [.bl true]], .tup [.tup [.int 1]]]), a6, a7, a8] h2
    ⟨_, a6, a7, rfl, fun u hu => by
      simp only [List.mem_cons, List.not_mem_nil, or_false] at hu
      rcases hu with rfl | rfl | rfl | rfl | rfl | rfl | rfl | rfl
      · exact it1
      · exact it2
      · exact its.1
      · exact itl
      · exact itv
      · exact its.2.1
      · exact its.2.2.1
      · exact its.2.2.2, rfl, s2⟩
  rw [seq (evS_for evI_5 e4)]
  obtain ⟨σ4, h4, e5, c7, c8, rfl, s4⟩ := forL_inv (i := 7) (body := evSs (callN T 39) itemB) (xs := L)
    (fun σ h => ∃ a7 a8, σ = [a0, a1, .vl (.ref n), a3, .vl (.tup rows), .vl (.lst L), b6, a7, a8] ∧ StOk h n)
    (fun x hx σ h ⟨a7, a8, eσ, s⟩ => by
      subst eσ
      obtain ⟨t, e⟩ := item_ok (hL x hx) a0 a1 (.vl (.ref n)) a3 (.vl (.tup rows)) (.vl (.lst L)) b6 a8 h
      exact ⟨_, _, h, rfl, e, _, _, rfl, s⟩)
    [a0, a1, .vl (.ref n), a3, .vl (.tup rows), .vl (.lst L), b6, b7, a8] h3 ⟨_, _, rfl, s3⟩
  rw [seq (evS_for (xs := L) (h1 := h3) (by simp [evI, evE, vitems]) e5), evSs]
  exact ⟨_, _, _, _, _, h4, rfl, s4⟩
theorem cell_step (ns : List Int) (i : Nat) (h : AH) (a2 a3 a4 a5 a6 a7 a8 : Sv) :
    ∃ b2 b3 b4 b5 b6 b7 b8 h', evSs (callN T 39) cellB [.vl (.scr ns), .vl (.int i), a2, a3, a4, a5, a6, a7, a8] h = .ok (.nx [.vl (.scr ns), .vl (.int i), b2, b3, b4, b5, b6, b7, b8]) h' := by
  obtain ⟨n, h1, e1, s1⟩ := c_state ns i 37 h
  have e1 : callN T 39 (Str.ofString "_law_state") [.scr ns, .int i] h = .ok (.ref n) h1 := e1
  rw [show cellB = [(.set 2 (.call "_law_state" [(.var 0), (.var 1)])), (.for (.nm 3) (.rg (.c (.int 0)) (.c (.int 4))) turnB)] from rfl]
  rw [seq (evS_set (v := .ref n) (h1 := h1) (by simp) (by simp [evE, evEs, e1]))]
  simp only [List.set_cons_succ, List.set_cons_zero]
  obtain ⟨σ4, h4, e5, c3, c4, c5, c6, c7, c8, rfl, s4⟩ := forL_inv (i := 3) (body := evSs (callN T 39) turnB) (xs := rangeA 0 ((4 : Nat) : Int))
    (fun σ h => ∃ a3 a4 a5 a6 a7 a8, σ = [.vl (.scr ns), .vl (.int i), .vl (.ref n), a3, a4, a5, a6, a7, a8] ∧ StOk h n)
    (fun x hx σ h ⟨a3, a4, a5, a6, a7, a8, eσ, s⟩ => by
      subst eσ
      obtain ⟨b4, b5, b6, b7, b8, h', e, s'⟩ := turn_step s (.vl (.scr ns)) (.vl (.int i)) (.vl x) a4 a5 a6 a7 a8
      exact ⟨_, _, h', rfl, e, _, _, _, _, _, _, rfl, s'⟩)
    [.vl (.scr ns), .vl (.int i), .vl (.ref n), a3, a4, a5, a6, a7, a8] h1 ⟨_, _, _, _, _, _, rfl, s1⟩
  rw [seq (evS_for evI_4 e5), evSs]
  exact ⟨_, _, _, _, _, _, _, h4, rfl⟩
theorem l_law : T.lookup (Str.ofString "law") = some d_law.fn := by kernel_rfl
theorem rangeA_mem {M : Nat} {x : AV} (h : x ∈ rangeA 0 (M : Int)) : ∃ i : Nat, x = .int i := by
  unfold rangeA at h
  obtain ⟨i, _, rfl⟩ := List.mem_map.mp h
  exact ⟨i, by simp⟩
theorem hlaw (ns : List Int) (hl : ns.length ≤ 63) : ∃ h, callN (tabOf ds) 40 d_law.name [.scr ns] [] = .ok (.bl true) h := by
  rw [show callN (tabOf ds) 40 d_law.name [.scr ns] [] = runFn (callN T 39) d_law.fn [.scr ns] [] from step 39 _ _ _ _ l_law]
  obtain ⟨M, eM, hM⟩ : ∃ M : Nat, evE (callN T 39) (.bi .max [(.c (.int 1)), (.bi .min [(.bi .len [(.var 0)]), (.c (.int 6))])]) [.vl (.scr ns), .un, .un, .un, .un, .un, .un, .un, .un] [] = .ok (.int (M : Int)) [] ∧ M ≤ 1000 := by
    by_cases h6 : (6 : Int) < ns.length
    · exact ⟨6, by simp [evE, evPs, peek, opBi, h6], by omega⟩
    · by_cases h1 : (1 : Int) < ns.length
      · exact ⟨ns.length, by simp [evE, evPs, peek, opBi, h6, h1], by omega⟩
      · exact ⟨1, by simp [evE, evPs, peek, opBi, h6, h1], by omega⟩
  obtain ⟨σ4, h4, e5, _⟩ := forL_inv (i := 1) (body := evSs (callN T 39) cellB) (xs := rangeA 0 (M : Int))
    (fun σ h => ∃ a1 a2 a3 a4 a5 a6 a7 a8, σ = [.vl (.scr ns), a1, a2, a3, a4, a5, a6, a7, a8])
    (fun x hx σ h ⟨a1, a2, a3, a4, a5, a6, a7, a8, eσ⟩ => by
      subst eσ
      obtain ⟨i, rfl⟩ := rangeA_mem hx
      obtain ⟨b2, b3, b4, b5, b6, b7, b8, h', e⟩ := cell_step ns i h a2 a3 a4 a5 a6 a7 a8
      exact ⟨_, _, h', rfl, e, _, _, _, _, _, _, _, _, rfl⟩)
    [.vl (.scr ns), .un, .un, .un, .un, .un, .un, .un, .un] [] ⟨_, _, _, _, _, _, _, _, rfl⟩
  refine ⟨h4, ?_⟩
  show runFn (callN T 39) ⟨9, 1, [(.for (.nm 1) (.rg (.c (.int 0)) (.bi .max [(.c (.int 1)), (.bi .min [(.bi .len [(.var 0)]), (.c (.int 6))])])) cellB), (.ret (.c (.bl true)))]⟩ [.scr ns] [] = _
  unfold runFn
  refine (if_pos rfl).trans ?_
  show (evSs (callN T 39) _ [.vl (.scr ns), .un, .un, .un, .un, .un, .un, .un, .un] []).bind _ = _
  rw [seq (evS_for (evI_rg hM eM) e5), evSs, evS, evE]
  rfl
end K1

set_option linter.all false
set_option maxRecDepth 100000
set_option maxHeartbeats 0
namespace K1
open PySem PySem.Spec PyProof.Rows L2 G
def loose : List Str := ["is_whole", "is_within", "are_points", "is_chart", "_law_cell_at", "_law_state", "_law_choice", "_law_whole", "_law_odd", "_law_bent", "_law_chart", "_law_is_chart"]
abbrev R : PySem.W.OpenRow := PySem.W.OpenLaw.row PySem.Challenge.rw_giveway_k01_charts_looked_at
def fn : List He.DefD := ds.map DefI.dd
def fa : List He.Fa := faOf ds bl ++ []
abbrev hk : PySem.W.Hook := hookS 4 fa fn
def ob (s : PySem.W.SharedT) : AlS := obsS 4 fa fn (HandSHeadRun.getT s)
theorem ob_eq (s : PySem.W.SharedT) : ob s = hk.obs s.abs := obsS_eq (HandSHeadRun.getT_eq s)
theorem run (w : World) : HandSHeadRun.RunEq R (PySem.W.view R.prog [14]) hk ob 20000 loose w := by
  refine PySem.W.byRow2 "special-get-raises" (P := fun w => HandSHeadRun.RunEq R (PySem.W.view R.prog [14]) hk ob 20000 loose w) (fun w os => ?_) (fun w os => ?_) w <;> kernel_rfl
theorem kwok : ∀ d ∈ ds, ∀ sh ∈ d.kw, KwEq d sh := by
  intro d hd
  simp only [ds, List.mem_append, List.mem_cons, List.not_mem_nil, or_false] at hd
  rcases hd with rfl | rfl | rfl | rfl | rfl | rfl | rfl | rfl | rfl | rfl | rfl | rfl | rfl
  · exact fun sh hsh => nomatch hsh
  · exact fun sh hsh => nomatch hsh
  · exact fun sh hsh => nomatch hsh
  · exact (by
    intro sh hsh
    simp only [d_is_chart, List.mem_cons, List.not_mem_nil, or_false] at hsh
    rcases hsh with rfl
    · intro kV doc pm an cdv ct us ws l1 l2
      match us, ws, l1, l2 with
      | [], [_], _, _ => rfl
)
  · exact fun sh hsh => nomatch hsh
  · exact fun sh hsh => nomatch hsh
  · exact fun sh hsh => nomatch hsh
  · exact fun sh hsh => nomatch hsh
  · exact fun sh hsh => nomatch hsh
  · exact fun sh hsh => nomatch hsh
  · exact fun sh hsh => nomatch hsh
  · exact fun sh hsh => nomatch hsh
  · exact fun sh hsh => nomatch hsh
end K1
open PySem PySem.W PySem.Calls PyProof.Rows G
theorem PySem.Challenge.cw_giveway_k01_charts_looked_at_holds : PySem.Challenge.rw_giveway_k01_charts_looked_at.Holds := by
  w_on; o_law
  refine HandSHeadRun.head_any (r := OpenLaw.row PySem.Challenge.rw_giveway_k01_charts_looked_at) (q := view (OpenLaw.row PySem.Challenge.rw_giveway_k01_charts_looked_at).prog [14]) (H := K1.hk) (ob := K1.ob) (M := 20000) (loose := K1.loose) (d := HandSHeadRun.topDef (OpenLaw.row PySem.Challenge.rw_giveway_k01_charts_looked_at).prog 14) (kwd := []) K1.ob_eq
    (by kernel_rfl) (fun s => by kernel_rfl) K1.run (by kernel_rfl) (by kernel_rfl) (by kernel_rfl) (by rfl) (by first | assumption | decide +kernel) (by decide +kernel) ⟨rfl, rfl, rfl, rfl, rfl, by decide +kernel⟩ ?hw ?hc
  case hw => w_witness2
  case hc =>
    exact law_end (l := PySem.Challenge.rw_giveway_k01_charts_looked_at) (k := 40) (n := 63) (x := "_law_script") (ds := K1.ds) (bl := K1.bl) (cs := []) (more := []) (dl := K1.d_law) rfl (by kernel_rfl) ⟨rfl, by decide, by decide⟩ (by simp [K1.ds]) (by kernel_rfl) rfl K1.kwok (by decide +kernel) K1.chk
      (fun _ _ _ _ _ _ x v h => by simp at h) K1.hlaw


import PyProof.Rows.All
import Wide.All
import OpenK.AllK
import Wide.FinOn
import PySem.Challenge.RW_loopgauge_k04_tables_answered
import PyProof.P3Statements
import HandS.ForMost
import HandS.ForExc
import HandS.Wide
import HandS.Conv
import HandS.Style
import HandS.IsInst
import HandS.ExcIs
import HandS.HotCalls
import HandS.TupAny
import HandS.ListEq
import HandS.DictEq
import HandS.DeepEq
import HandS.Text
import HandS.EndBits
set_option Elab.async false
set_option linter.all false
set_option maxRecDepth 100000
/-! What the program's defs compute, told over plain data: no machine in sight. -/
namespace PL
open PySem

abbrev D := PyData
/-- how a reckoning ends: a datum, a refusal by its class's name, or nothing that is told here -/
inductive R (A : Type) where
  | ok (a : A) | err (c : Str) | stk
namespace R
def bind {A B : Type} (r : R A) (f : A → R B) : R B := match r with | .ok a => f a | .err c => .err c | .stk => .stk
@[simp] theorem bind_ok {A B : Type} (a : A) (f : A → R B) : (R.ok a).bind f = f a := rfl
@[simp] theorem bind_err {A B : Type} (c : Str) (f : A → R B) : (R.err c : R A).bind f = .err c := rfl
@[simp] theorem bind_stk {A B : Type} (f : A → R B) : (R.stk : R A).bind f = .stk := rfl
/-- no refusal may come here -/
def calm {A : Type} : R A → R A | .err _ => .stk | r => r
@[simp] theorem calm_ok {A : Type} (a : A) : (R.ok a).calm = .ok a := rfl
@[simp] theorem calm_err {A : Type} (c : Str) : (R.err c : R A).calm = .stk := rfl
@[simp] theorem calm_stk {A : Type} : (R.stk : R A).calm = .stk := rfl
theorem calm_noerr {A : Type} {r : R A} {c : Str} : r.calm ≠ .err c := by cases r <;> simp
end R

/-- what a slot holds: nothing known, a datum, a list of this def's own -/
inductive SV where
  | no | sh (d : D) | ow (xs : List D)
abbrev Env := List SV
abbrev EF := Env → R D
abbrev LF := Env → R (List D)
abbrev TF := Env → R Bool
abbrev GF := D → Env → R Env
/-- a statement's end -/
inductive Out where
  | next (e : Env) | ret (d : D) | brk (e : Env) | cont (e : Env) | err (c : Str) | stk
abbrev SF := Env → Out
def R.out {A : Type} (r : R A) (f : A → Out) : Out := match r with | .ok a => f a | .err c => .err c | .stk => .stk
@[simp] theorem out_ok {A : Type} (a : A) (f : A → Out) : (R.ok a).out f = f a := rfl
@[simp] theorem out_err {A : Type} (c : Str) (f : A → Out) : (R.err c : R A).out f = .err c := rfl
@[simp] theorem out_stk {A : Type} (f : A → Out) : (R.stk : R A).out f = .stk := rfl

abbrev szL : Nat := 16777216
/-- the script that the law is handed: it is looked at alone -/
def scr (xs : List D) : D := .dict [(.none, .list xs)]
/-- an exception that an except suite holds, by its address -/
def adr (a : Nat) : D := .dict [(.bool true, .int (Int.ofNat a))]

/-! ### values -/
def asB : D → R Bool | .bool b => .ok b | _ => .stk
def asL : D → R (List D) | .list xs => .ok xs | _ => .stk
def asI : D → R Int | .int i => .ok i | _ => .stk
def asIs : List D → R (List Int)
  | [] => .ok []
  | .int i :: r => (asIs r).bind fun is => .ok (i :: is)
  | _ :: _ => .stk
def asBs : List D → R (List Bool)
  | [] => .ok []
  | .bool b :: r => (asBs r).bind fun bs => .ok (b :: bs)
  | _ :: _ => .stk
def asSs : List D → R (List Str)
  | [] => .ok []
  | .str b :: r => (asSs r).bind fun bs => .ok (b :: bs)
  | _ :: _ => .stk

mutual
/-- the same datum -/
def same : D → D → Bool
  | .none, .none => true
  | .bool a, .bool b => a == b
  | .int a, .int b => a == b
  | .str a, .str b => decide (a = b)
  | .list a, .list b => sameAll a b
  | .tuple a, .tuple b => sameAll a b
  | .dict [], .dict [] => true
  | _, _ => false
def sameAll : List D → List D → Bool
  | [], [] => true
  | a :: r, b :: q => same a b && sameAll r q
  | _, _ => false
end
mutual
/-- no dict within, no depth without end: == is told for it -/
def flatD : Nat → D → Bool
  | _, .none => true
  | _, .bool _ => true
  | _, .int _ => true
  | _, .str x => x.cps.all (· < 0x110000)
  | n, .list xs => match n with | 0 => false | k + 1 => flatAll k xs
  | n, .tuple xs => match n with | 0 => false | k + 1 => flatAll k xs
  | _, .dict _ => false
def flatAll : Nat → List D → Bool
  | _, [] => true
  | n, x :: r => flatD n x && flatAll n r
end
mutual
/-- of a depth of at most n, dicts empty -/
def lowD : Nat → D → Bool
  | _, .none => true
  | _, .bool _ => true
  | _, .int _ => true
  | _, .str _ => true
  | n, .list xs => match n with | 0 => false | k + 1 => lowAll k xs
  | n, .tuple xs => match n with | 0 => false | k + 1 => lowAll k xs
  | n, .dict kvs => match n with | 0 => false | _ + 1 => kvs.isEmpty
def lowAll : Nat → List D → Bool
  | _, [] => true
  | n, x :: r => lowD n x && lowAll n r
end
def isDic : D → Bool | .dict _ => true | _ => false
/-- a == b -/
def eqD (a b : D) : R Bool :=
  if same a b && lowD 20 a && !isDic a then .ok true else if flatD 20 a && flatD 20 b then .ok (PyData.eqv a b) else .stk

def mulB (a b : Int) : Bool := decide (-(2 ^ 64) < a ∧ a < 2 ^ 64) || decide (-(2 ^ 64) < b ∧ b < 2 ^ 64) || decide (a.natAbs.log2 + b.natAbs.log2 < 1000000)
def reps (xs : List D) (k : Int) : List D := (List.replicate k.toNat xs).flatten

def opAdd : D → D → R D
  | .int a, .int b => .ok (.int (a + b))
  | .list xs, .list ys => if xs.length + ys.length ≤ szL then .ok (.list (xs ++ ys)) else .stk
  | .tuple xs, .tuple ys => if xs.length + ys.length ≤ szL then .ok (.tuple (xs ++ ys)) else .stk
  | .str a, .str b => if a.length + b.length ≤ szL then .ok (.str (a ++ b)) else .stk
  | _, _ => .stk
def opSub : D → D → R D
  | .int a, .int b => .ok (.int (a - b))
  | _, _ => .stk
def opMul : D → D → R D
  | .int a, .int b => if mulB a b then .ok (.int (a * b)) else .stk
  | .list xs, .int k => if -(2 ^ 62) ≤ k ∧ k < 2 ^ 62 ∧ xs.length * k.toNat ≤ szL then .ok (.list (reps xs k)) else .stk
  | .str x, .int k => if k = 0 then .ok (.str Str.empty) else if k = 1 then .ok (.str x) else .stk
  | _, _ => .stk
def opDiv : D → D → R D
  | .int a, .int b => if 0 < b ∧ b.natAbs.log2 < 9000 then .ok (.int (a / b)) else .stk
  | _, _ => .stk
def opMod : D → D → R D
  | .int a, .int b => if 0 < b then .ok (.int (a % b)) else .stk
  | _, _ => .stk
def opPow : D → D → R D
  | .int a, .int b => if 0 ≤ b ∧ b ≤ 1000 ∧ a.natAbs < 2 ^ 64 then .ok (.int (a ^ b.toNat)) else .stk
  | _, _ => .stk
def opNeg : D → R D
  | .int a => .ok (.int (-a))
  | _ => .stk
def opLt : D → D → R D
  | .int a, .int b => .ok (.bool (decide (a < b)))
  | _, _ => .stk
def opLe : D → D → R D
  | .int a, .int b => .ok (.bool (decide (a ≤ b)))
  | _, _ => .stk
def opGt : D → D → R D
  | .int a, .int b => .ok (.bool (decide (b < a)))
  | _, _ => .stk
def opGe : D → D → R D
  | .int a, .int b => .ok (.bool (decide (b ≤ a)))
  | _, _ => .stk
def opEq (a b : D) : R D := (eqD a b).bind fun r => .ok (.bool r)
def opNe (a b : D) : R D := (eqD a b).bind fun r => .ok (.bool (!r))
def isNone : D → Bool | .none => true | _ => false
/-- a is None -/
def opIsN : D → R D := fun a => .ok (.bool (isNone a))
def opNotN : D → R D := fun a => .ok (.bool (!isNone a))
/-- a is b, of truths -/
def opIsB : D → D → R D
  | .bool a, .bool b => .ok (.bool (decide (a = b)))
  | _, _ => .stk
def opNotB : D → D → R D
  | .bool a, .bool b => .ok (.bool (!decide (a = b)))
  | _, _ => .stk

/-- a is None, a is b of truths -/
def opIs : D → D → R D := fun a b => match b with
  | .none => opIsN a
  | .bool k => (match a with | .bool j => .ok (.bool (decide (j = k))) | _ => .stk)
  | _ => .stk
def opIsNot : D → D → R D := fun a b => match b with
  | .none => opNotN a
  | .bool k => (match a with | .bool j => .ok (.bool (!decide (j = k))) | _ => .stk)
  | _ => .stk
/-- xs[i] -/
def ixN (n : Nat) (i : Int) : Option Nat := if 0 ≤ i then (if i < n then some i.toNat else none) else if -(n : Int) ≤ i then some (i + n).toNat else none
def atI {A : Type} (xs : List A) (i : Int) : Option A := (ixN xs.length i).bind fun j => xs[j]?
def toR {A : Type} : Option A → R A | some a => .ok a | none => .stk
def opIx : D → D → R D
  | .list xs, .int i => toR (atI xs i)
  | .tuple xs, .int i => toR (atI xs i)
  | .str z, .int i => if z.length ≤ szL then (toR (atI z.cps.toList i)).bind fun c => .ok (.str ⟨#[c]⟩) else .stk
  | .dict [(.none, .list xs)], .int i => toR (atI xs i)
  | _, _ => .stk
/-- xs[lo:hi] -/
def sIx (n d : Nat) : Option Int → Nat
  | none => d
  | some v => if v < 0 then (v + n).toNat else min v.toNat n
def cut {A : Type} (xs : List A) (lo hi : Option Int) : List A := (xs.drop (sIx xs.length 0 lo)).take (sIx xs.length xs.length hi - sIx xs.length 0 lo)
def opSl (a : D) (lo hi : Option Int) : R D := match a with
  | .list xs => .ok (.list (cut xs lo hi))
  | .tuple xs => .ok (.tuple (cut xs lo hi))
  | .str z => if z.length ≤ szL then .ok (.str ⟨(cut z.cps.toList lo hi).toArray⟩) else .stk
  | .dict [(.none, .list xs)] => .ok (.list (cut xs lo hi))
  | _ => .stk
/-- xs[::-1] -/
def opRev : D → R D
  | .list xs => .ok (.list xs.reverse)
  | _ => .stk

/-- t[::-1] of a tuple -/
def opRevT : D → R D
  | .tuple xs => .ok (.tuple xs.reverse)
  | _ => .stk

/-! ### expressions -/
def eV (i : Nat) : EF := fun e => match e[i]? with | some (.sh d) => .ok d | _ => .stk
/-- a name that is only looked at -/
def eB (i : Nat) : EF := fun e => match e[i]? with | some (.sh d) => .ok d | some (.ow xs) => .ok (.list xs) | _ => .stk
def eK (d : D) : EF := fun _ => .ok d
def e1 (op : D → R D) (f : EF) : EF := fun e => (f e).bind op
def e2 (op : D → D → R D) (f g : EF) : EF := fun e => (f e).bind fun a => (g e).bind fun b => op a b
def aN : LF := fun _ => .ok []
def aC (f : EF) (a : LF) : LF := fun e => (f e).bind fun d => (a e).bind fun ds => .ok (d :: ds)
def eL (a : LF) : EF := fun e => (a e).bind fun xs => .ok (.list xs)
def eT (a : LF) : EF := fun e => (a e).bind fun xs => .ok (.tuple xs)
/-- a call, of a def or a built-in -/
def eC (m : List D → R D) (a : LF) : EF := fun e => (a e).bind m
/-- a call that may look at lists of our own: what comes back holds none -/
def isSc : D → Bool | .list _ => false | .tuple _ => false | .dict _ => false | _ => true
def scal (r : R D) : R D := r.bind fun d => if isSc d then .ok d else .stk
def eCb (m : List D → R D) (a : LF) : EF := fun e => (a e).bind fun ds => scal (m ds)
def eSl (f : EF) (lo hi : Env → R (Option Int)) : EF := fun e => (f e).bind fun d => (lo e).bind fun l => (hi e).bind fun h => opSl d l h
def oN : Env → R (Option Int) := fun _ => .ok none
def oS (f : EF) : Env → R (Option Int) := fun e => (f e).bind fun d => (asI d).bind fun i => .ok (some i)
/-- a op b op' c -/
def eCh (op op' : D → D → R D) (f g h : EF) : EF := fun e => (f e).bind fun a => (g e).bind fun b => (op a b).bind fun r => (asB r).bind fun k => if k then (h e).bind fun c => op' b c else .ok (.bool false)
def eAnd (f g : EF) : EF := fun e => (f e).bind fun a => (asB a).bind fun b => if b then g e else .ok (.bool false)
def eOr (f g : EF) : EF := fun e => (f e).bind fun a => (asB a).bind fun b => if b then .ok (.bool true) else g e
def eNot (f : EF) : EF := fun e => (f e).bind fun a => (asB a).bind fun b => .ok (.bool !b)
def eIf (t : TF) (f g : EF) : EF := fun e => (t e).bind fun b => if b then f e else g e
def qV (f : EF) : TF := fun e => (f e).bind asB
def qAnd (t u : TF) : TF := fun e => (t e).bind fun b => if b then u e else .ok false
def qOr (t u : TF) : TF := fun e => (t e).bind fun b => if b then .ok true else u e
def qNot (t : TF) : TF := fun e => (t e).bind fun b => .ok !b
def qY : TF := fun _ => .ok true

/-! ### what is walked -/
def iL (f : EF) : LF := fun e => (f e).bind asL
def iT (f : EF) : LF := fun e => (f e).bind fun d => match d with | .tuple xs => .ok xs | _ => .stk
def iS (f : EF) : LF := fun e => (f e).bind fun d => match d with | .str z => .ok (z.cps.toList.map fun c => .str ⟨#[c]⟩) | _ => .stk
def rng (lo hi : Int) : List D := (List.range (hi - lo).toNat).map fun (k : Nat) => .int (lo + (k : Int))
def smI (i : Int) : Bool := decide (-(2 ^ 62) ≤ i ∧ i < 2 ^ 62)
def iR1 (f : EF) : LF := fun e => (f e).bind fun a => (asI a).bind fun n => if smI n then .ok (rng 0 n) else .stk
def iR2 (f g : EF) : LF := fun e => (f e).bind fun a => (g e).bind fun b => (asI a).bind fun m => (asI b).bind fun n => if smI m && smI n then .ok (rng m n) else .stk
def zipD : List D → List D → List D
  | a :: r, b :: q => .tuple [a, b] :: zipD r q
  | _, _ => []
def iZ (f g : EF) : LF := fun e => (f e).bind fun a => (g e).bind fun b => (asL a).bind fun xs => (asL b).bind fun ys => .ok (zipD xs ys)
def enD : Nat → List D → List D
  | _, [] => []
  | n, a :: r => .tuple [.int (n : Int), a] :: enD (n + 1) r
def iE (f : EF) : LF := fun e => (f e).bind fun a => (asL a).bind fun xs => .ok (enD 0 xs)

/-! ### stores -/
def gN (i : Nat) : GF := fun d e => .ok (e.set i (.sh d))
def gAll : List GF → List D → Env → R Env
  | [], [], e => .ok e
  | g :: gs, d :: ds, e => (g d e).bind fun e' => gAll gs ds e'
  | _, _, _ => .stk
def gT (gs : List GF) : GF := fun d e => match d with | .tuple ds => gAll gs ds e | _ => .stk

/-! ### comprehensions -/
def wip : List Nat → Env → Env
  | [], e => e
  | i :: r, e => (wip r e).set i .no
def cLoop (g : GF) (t : TF) (f : EF) (e : Env) : List D → R (List D)
  | [] => .ok []
  | x :: xs => ((g x e).calm).bind fun e1 => ((t e1).calm).bind fun b => if b then ((f e1).calm).bind fun d => (cLoop g t f e xs).bind fun ds => .ok (d :: ds) else cLoop g t f e xs
def cmp (it : LF) (vs : List Nat) (g : GF) (t : TF) (f : EF) : LF := fun e => (it e).bind fun xs => if xs.length ≤ szL then cLoop g t f (wip vs e) xs else .stk

/-! ### statements -/
def sNil : SF := fun e => .next e
def sSeq (a b : SF) : SF := fun e => match a e with | .next e' => b e' | r => r
def sSet (g : GF) (f : EF) : SF := fun e => (f e).out fun d => (g d e).out fun e' => .next e'
/-- what a def hands back that nobody else has: a list of our own, or what is no list -/
def svN : D → SV | .list xs => .ow xs | d => .sh d
def sSetN (i : Nat) (f : EF) : SF := fun e => (f e).out fun d => .next (e.set i (svN d))
/-- a list of our own comes to slot i -/
def sOwn (i : Nat) (f : LF) : SF := fun e => (f e).out fun xs => .next (e.set i (.ow xs))
/-- from here on the list at slot i is a datum -/
def frz (i : Nat) (e : Env) : Env := match e[i]? with | some (.ow xs) => e.set i (.sh (.list xs)) | _ => e
def sFrz (i : Nat) (s : SF) : SF := fun e => s (frz i e)
def sDo (f : EF) : SF := fun e => (f e).out fun _ => .next e
def sRet (f : EF) : SF := fun e => (f e).out .ret
def sRetN : SF := fun _ => .ret .none
def sIf (t : TF) (a b : SF) : SF := fun e => (t e).out fun k => if k then a e else b e
def sCont : SF := fun e => .cont e
def sBrk : SF := fun e => .brk e
def sRaise (c : Str) : SF := fun _ => .err c
def fLoop (g : GF) (b : SF) : List D → Env → Out
  | [], e => .next e
  | x :: xs, e => (g x e).out fun e1 => match b e1 with
    | .next e2 => fLoop g b xs e2
    | .cont e2 => fLoop g b xs e2
    | .brk e2 => .next e2
    | .ret d => .ret d
    | .err c => .err c
    | .stk => .stk
def sFor (it : LF) (g : GF) (b : SF) : SF := fun e => (it e).out fun xs => fLoop g b xs e
def wLoop (t : TF) (b : SF) : Nat → Env → Out
  | 0, _ => .stk
  | n + 1, e => (t e).out fun k => if k then (match b e with
    | .next e2 => wLoop t b n e2
    | .cont e2 => wLoop t b n e2
    | .brk e2 => .next e2
    | .ret d => .ret d
    | .err c => .err c
    | .stk => .stk) else .next e
def Out.isStk : Out → Bool | .stk => true | _ => false
open Classical in
noncomputable def sWhile (t : TF) (b : SF) : SF := fun e => if h : ∃ n, (wLoop t b n e).isStk = false then wLoop t b (Classical.choose h) e else .stk
/-- x.append(d), x.extend(ds), x[k] = d of our own list at slot i -/
def sApp (i : Nat) (f : EF) : SF := fun e => match e[i]? with
  | some (.ow xs) => (f e).out fun d => if xs.length < szL then .next (e.set i (.ow (xs ++ [d]))) else .stk
  | _ => .stk
def sExt (i : Nat) (f : EF) : SF := fun e => match e[i]? with
  | some (.ow xs) => (f e).out fun d => (asL d).out fun ys => if xs.length + ys.length ≤ szL then .next (e.set i (.ow (xs ++ ys))) else .stk
  | _ => .stk
def sPut (i : Nat) (k f : EF) : SF := fun e => match e[i]? with
  | some (.ow xs) => (f e).out fun d => (k e).out fun kd => (asI kd).out fun j => (toR (ixN xs.length j)).out fun n => .next (e.set i (.ow (xs.set n d)))
  | _ => .stk

/-- a def: so many slots, its body; its arguments come first -/
def fnR (n : Nat) (b : SF) : List D → R D := fun ds => match b (ds.map .sh ++ List.replicate (n - ds.length) .no) with
  | .next _ => .ok .none
  | .ret d => .ok d
  | .err c => .err c
  | _ => .stk

/-- try: body, except LoopError as error: return name_of(error) -/
def sTry (b : SF) (nm : Str → Option Str) : SF := fun e => match b e with
  | .err c => (match nm c with | some z => .ret (.str z) | none => .stk)
  | r => r
/-- isinstance of the exception at a -/
def isAdr (a : Nat) (b : Bool) : D → R D
  | .dict [(.bool true, .int n)] => if n = Int.ofNat a then .ok (.bool b) else .stk
  | _ => .stk

/-! ### built-ins -/
def bLen : List D → R D
  | [.list xs] => .ok (.int xs.length)
  | [.tuple xs] => .ok (.int xs.length)
  | [.str z] => if z.length ≤ szL then .ok (.int z.length) else .stk
  | [.dict [(.none, .list xs)]] => .ok (.int xs.length)
  | _ => .stk
inductive Ty where | int | bool | str | list | tuple
def isTy : Ty → D → Bool
  | .int, .int _ => true
  | .int, .bool _ => true
  | .bool, .bool _ => true
  | .str, .str _ => true
  | .list, .list _ => true
  | .tuple, .tuple _ => true
  | _, _ => false
def isScr : D → Bool | .dict (_ :: _) => true | _ => false
def bIsi (t : Ty) : List D → R D
  | [d] => if isScr d then .stk else .ok (.bool (isTy t d))
  | _ => .stk
def bInt : List D → R D
  | [.int i] => .ok (.int i)
  | [.bool b] => .ok (.int (if b then 1 else 0))
  | _ => .stk
def bAbs : List D → R D
  | [.int i] => .ok (.int (if i < 0 then -i else i))
  | _ => .stk
def bMax2 : List D → R D
  | [.int i, .int j] => .ok (.int (if j > i then j else i))
  | _ => .stk
def bMin2 : List D → R D
  | [.int i, .int j] => .ok (.int (if j < i then j else i))
  | _ => .stk
def maxL : List Int → Option Int
  | [] => none
  | x :: r => some (r.foldl (fun a b => if b > a then b else a) x)
def minL : List Int → Option Int
  | [] => none
  | x :: r => some (r.foldl (fun a b => if b < a then b else a) x)
def bMaxL : List D → R D
  | [.list xs] => (asIs xs).bind fun ns => (toR (maxL ns)).bind fun m => .ok (.int m)
  | _ => .stk
def bMinL : List D → R D
  | [.list xs] => (asIs xs).bind fun ns => (toR (minL ns)).bind fun m => .ok (.int m)
  | _ => .stk
def bSum : List D → R D
  | [.list xs] => (asIs xs).bind fun ns => .ok (.int ns.sum)
  | _ => .stk
def bAll : List D → R D
  | [.list xs] => (asBs xs).bind fun bs => .ok (.bool (bs.all id))
  | _ => .stk
def bList : List D → R D
  | [.list xs] => .ok (.list xs)
  | [.tuple xs] => .ok (.list xs)
  | _ => .stk
def bTup : List D → R D
  | [.list xs] => .ok (.tuple xs)
  | [.tuple xs] => .ok (.tuple xs)
  | _ => .stk
/-- str(n) -/
def bStr : List D → R D
  | [.int i] => if i.natAbs < 2 ^ 200 then .ok (.str (toString i)) else .stk
  | _ => .stk
/-- sep.join(texts) -/
def opJoin : D → D → R D
  | .str a, .list xs => (asSs xs).bind fun ys => if (ys.map (·.length)).sum + ys.length * a.length ≤ szL then .ok (.str (Str.join a ys)) else .stk
  | _, _ => .stk
def eJn (f g : EF) : EF := fun e => (f e).bind fun a => match a with
  | .str s => (g e).bind fun b => opJoin (.str s) b
  | _ => .stk
/-- a list of new lists -/
def cLoopT (g : GF) (l : LF) (e : Env) : List D → R (List (List D))
  | [] => .ok []
  | x :: xs => ((g x e).calm).bind fun e1 => ((l e1).calm).bind fun d => (cLoopT g l e xs).bind fun ds => .ok (d :: ds)
def cmpT (it : LF) (vs : List Nat) (g : GF) (l : LF) : Env → R (List (List D)) := fun e => (it e).bind fun xs => if xs.length ≤ szL then cLoopT g l (wip vs e) xs else .stk
def eTr (f : Env → R (List (List D))) : EF := fun e => (f e).bind fun xss => .ok (.list (xss.map .list))
/-- list(x), a new list -/
def lLst (f : EF) : LF := fun e => (f e).bind fun d => match d with | .list xs => .ok xs | _ => .stk
/-- a def that hands back such a list -/
def fnRT (n : Nat) (b : SF) : List D → R D := fun ds => match b (ds.map .sh ++ List.replicate (n - ds.length) .no) with
  | .ret d => .ok d
  | .err c => .err c
  | _ => .stk
/-- how a statement ends where slot i holds such a list -/
inductive OutT where
  | next (e : Env) (xss : List (List D)) | ret (d : D) | err (c : Str) | stk
abbrev STF := Nat → List (List D) → Env → OutT
abbrev STR := Nat → List (List D) → Env → Out
def tree (xss : List (List D)) : D := .list (xss.map .list)
def rCons (f : STF) (g : STR) : STR := fun p xss e => match f p xss e with | .next e' xss' => g p xss' e' | .ret d => .ret d | .err c => .err c | .stk => .stk
/-- from here on it is a datum -/
def rFrz (i : Nat) (g : SF) : STR := fun _ xss e => g (e.set i (.sh (tree xss)))
/-- any statement that leaves slot i alone -/
def tFrame (i : Nat) (f : SF) : STF := fun p xss e => match f e with
  | .next e' => (match e'[i]? with | some (.sh (.dict [(.bool true, .int n)])) => if n = Int.ofNat p then .next e' xss else .stk | _ => .stk)
  | .ret d => .ret d
  | .err c => .err c
  | _ => .stk
/-- if t: a, t sees the list as a datum -/
def tIf (i : Nat) (t : TF) (a : SF) : STF := fun _ xss e => match t (e.set i (.sh (tree xss))) with
  | .ok true => (match a e with | .ret d => .ret d | .err c => .err c | _ => .stk)
  | .ok false => .next e xss
  | .err c => .err c
  | .stk => .stk
/-- for x in the list: if t: a; x.append(f); nothing is known of slot j around -/
def tForL (j : Nat) (t : TF) (a : SF) (f : EF) (e : Env) : List (List D) → List (List D) → OutT
  | done, [] => .next e done
  | done, xs :: rest => match t (e.set j (.ow xs)) with
    | .ok true => (match a (e.set j (.ow xs)) with | .ret d => .ret d | .err c => .err c | _ => .stk)
    | .ok false => (match f (e.set j (.ow xs)) with
      | .ok d => if xs.length < szL then tForL j t a f e (done ++ [xs ++ [d]]) rest else .stk
      | .err c => .err c
      | .stk => .stk)
    | .err c => .err c
    | .stk => .stk
def tFor (j : Nat) (t : TF) (a : SF) (f : EF) : STF := fun _ xss e => match e[j]? with | some .no => tForL j t a f e [] xss | _ => .stk
def unL : List D → Option (List (List D))
  | [] => some []
  | .list xs :: r => if xs.all isSc then (unL r).map (xs :: ·) else none
  | _ => none
open Classical in
/-- slot i = such a list, then the rest -/
noncomputable def sTree (i : Nat) (m : List D → R D) (fs : LF) (g : STR) : SF := fun e => (fs e).out fun ds => (m ds).out fun d => match d with
  | .list ls => (match unL ls with
    | some xss => if h : i < e.length ∧ ∃ o, ∀ p, g p xss (e.set i (.sh (adr p))) = o then Classical.choose h.2 else .stk
    | none => .stk)
  | _ => .stk
/-- what isn't told -/
def sStk : SF := fun _ => .stk
/-- list(range(a, b)) -/
def bLR (f g : EF) : LF := fun e => (f e).bind fun a => (g e).bind fun b => (asI a).bind fun m => (asI b).bind fun n => if smI m && smI n && decide ((n - m).toNat ≤ szL) then .ok (rng m n) else .stk
/-- xs * n, a new list -/
def lMul (f g : EF) : LF := fun e => (e2 opMul f g e).bind asL
theorem isAdr_eV (a : Nat) (b : Bool) (x : SV) : e1 (isAdr a b) (eV 0) [.sh (adr a), x] = .ok (.bool b) := by
  show (if Int.ofNat a = Int.ofNat a then R.ok (PyData.bool b) else .stk) = _
  rw [if_pos rfl]
theorem str0 (s : Str) : opMul (.str s) (.int 0) = .ok (.str Str.empty) := rfl
theorem str1 (s : Str) : opMul (.str s) (.int 1) = .ok (.str s) := rfl
theorem add_str (s t : Str) (h : s.length + t.length ≤ szL) : opAdd (.str s) (.str t) = .ok (.str (s ++ t)) := if_pos h
theorem eB1 (x : SV) (d : D) : eB 1 [x, .sh d] = .ok d := rfl
theorem ix0 (a b : D) : opIx (.list [a, b]) (.int 0) = .ok a := rfl
end PL

namespace PL
open PySem
/-! ### a slot holds a tree of lists and tuples that are nobody else's -/
inductive OutO where
  | next (e : Env) (d : D) | ret (d : D) | err (c : Str) | stk
abbrev OTF := D → Env → OutO
abbrev OTR := D → Env → Out
def oCons (f : OTF) (g : OTR) : OTR := fun d e => match f d e with
  | .next e' d' => g d' e'
  | .ret r => .ret r
  | .err c => .err c
  | .stk => .stk
/-- from here on it is a datum -/
def oFrz (i : Nat) (g : SF) : OTR := fun d e => g (e.set i (.sh d))
/-- if t: f; t sees it as a datum -/
def oIf (i : Nat) (t : TF) (f : OTF) : OTF := fun d e => match t (e.set i (.sh d)) with
  | .ok true => f d e
  | .ok false => .next e d
  | .err c => .err c
  | .stk => .stk
/-- what only goes away from here -/
def oAway (a : SF) : OTF := fun _ e => match a e with
  | .ret d => .ret d
  | .err c => .err c
  | _ => .stk
/-- the list at place j -/
def inL (d : D) (j : Int) : Option (Nat × List D) := match d with
  | .list xs => (ixN xs.length j).bind fun m => match xs[m]? with | some (.list ys) => if ys.all isSc then some (m, ys) else none | _ => none
  | .tuple xs => (ixN xs.length j).bind fun m => match xs[m]? with | some (.list ys) => if ys.all isSc then some (m, ys) else none | _ => none
  | _ => none
def putL (d : D) (m : Nat) (ys : List D) : D := match d with
  | .list xs => .list (xs.set m (.list ys))
  | .tuple xs => .tuple (xs.set m (.list ys))
  | d => d
/-- x[j][k] = f -/
def oPut (i : Nat) (j : Int) (k f : EF) : OTF := fun d e => match inL d j with
  | some (m, ys) => (match f (e.set i (.sh d)) with
    | .ok x => if isSc x then (match k (e.set i (.sh d)) with
      | .ok (.int n) => (match ixN ys.length n with
        | some l => .next e (putL d m (ys.set l x))
        | none => .stk)
      | .ok _ => .stk
      | .err c => .err c
      | .stk => .stk) else .stk
    | .err c => .err c
    | .stk => .stk)
  | none => .stk
/-- x[j].append(f) -/
def oApp (i : Nat) (j : Int) (f : EF) : OTF := fun d e => match inL d j with
  | some (m, ys) => (match f (e.set i (.sh d)) with
    | .ok x => if isSc x ∧ ys.length < szL then .next e (putL d m (ys ++ [x])) else .stk
    | .err c => .err c
    | .stk => .stk)
  | none => .stk
/-- slot i = a list of new lists, then the rest -/
def sOwnT (i : Nat) (f : Env → R (List (List D))) (g : OTR) : SF := fun e => (f e).out fun xss => if xss.all (·.all isSc) ∧ i < e.length then g (.list (xss.map .list)) (e.set i .no) else .stk
/-- return (s, x), x a list of our own -/
def sRetO (i : Nat) (s : Str) : SF := fun e => match e[i]? with
  | some (.ow xs) => .ret (.tuple [.str s, .list xs])
  | _ => .stk
/-- a tuple whose second part is a list, of numbers and the like all -/
def deepB : D → Bool
  | .tuple (.str _ :: .list ys :: rest) => ys.all isSc && rest.all isSc
  | _ => false
/-- slot i = what a def hands back, all of it nobody else's; then the rest -/
def sOwnC (i : Nat) (m : List D → R D) (fs : LF) (g : OTR) : SF := fun e => (fs e).out fun ds => (m ds).out fun d => if i < e.length ∧ deepB d = true then g d (e.set i .no) else .stk
end PL

namespace PL
open PySem PySem.Spec PyProof.Rows L2
abbrev St := L2.St

/-! ### data in the heap -/
mutual
/-- the value stands for the datum -/
inductive Rp (K : PySem.W.Frag) (H : Hp) : V → D → Prop
  | non : Rp K H .non .none
  | bl (b : Bool) : Rp K H (.bl b) (.bool b)
  | int (i : Int) : Rp K H (.int i) (.int i)
  | str (x : Str) : Rp K H (.str x) (.str x)
  | lst {a : Addr} {xs : List V} {ds : List D} : H a = some (.lst xs) → RpA K H xs ds → Rp K H (.ref a) (.list ds)
  | tup {a : Addr} {xs : List V} {ds : List D} : H a = some (.tup xs) → RpA K H xs ds → Rp K H (.ref a) (.tuple ds)
  | dic {a : Addr} : H a = some (.dK []) → Rp K H (.ref a) (.dict [])
  | scr {a : Addr} {xs : List V} {ds : List D} : SqL K H a xs → RpA K H xs ds → Rp K H (.ref a) (PL.scr ds)
  | adr (a : Addr) : Rp K H (.ref a) (PL.adr a)
inductive RpA (K : PySem.W.Frag) (H : Hp) : List V → List D → Prop
  | nil : RpA K H [] []
  | cons {v : V} {vs : List V} {d : D} {ds : List D} : Rp K H v d → RpA K H vs ds → RpA K H (v :: vs) (d :: ds)
end
section
variable {K : PySem.W.Frag} {H H' : Hp}
mutual
theorem Rp.mono (e : Same H H') : ∀ (d : D) (v : V), Rp K H v d → Rp K H' v d
  | .none, _, h => by cases h; exact .non
  | .bool _, _, h => by cases h; exact .bl _
  | .int _, _, h => by cases h; exact .int _
  | .str _, _, h => by cases h; exact .str _
  | .list ds, _, h => by cases h with | lst h1 h2 => exact .lst (e _ _ h1) (RpA.mono e ds _ h2)
  | .tuple ds, _, h => by cases h with | tup h1 h2 => exact .tup (e _ _ h1) (RpA.mono e ds _ h2)
  | .dict [], _, h => by cases h with | dic h1 => exact .dic (e _ _ h1)
  | .dict [(.none, .list ds)], _, h => by cases h with | scr h1 h2 => exact .scr (e.seq h1) (RpA.mono e ds _ h2)
  | .dict [(.bool true, .int n)], _, h => by cases h with | adr a => exact .adr a
theorem RpA.mono (e : Same H H') : ∀ (ds : List D) (vs : List V), RpA K H vs ds → RpA K H' vs ds
  | [], _, h => by cases h; exact .nil
  | d :: ds, _, h => by cases h with | cons h1 h2 => exact .cons (Rp.mono e d _ h1) (RpA.mono e ds _ h2)
end
theorem Rp.up {v : V} {d : D} (h : Rp K H v d) (e : Same H H') : Rp K H' v d := Rp.mono e d v h
theorem RpA.up {vs : List V} {ds : List D} (h : RpA K H vs ds) (e : Same H H') : RpA K H' vs ds := RpA.mono e ds vs h
theorem RpA.length {vs : List V} {ds : List D} (h : RpA K H vs ds) : vs.length = ds.length := by
  induction ds generalizing vs with
  | nil => cases h; rfl
  | cons d ds ih => cases h with | cons h1 h2 => simp [ih h2]
theorem RpA.append : ∀ {ds es : List D} {vs ws : List V}, RpA K H vs ds → RpA K H ws es → RpA K H (vs ++ ws) (ds ++ es)
  | [], _, _, _, h, g => by cases h; exact g
  | _ :: _, _, _, _, h, g => by cases h with | cons h1 h2 => exact .cons h1 (RpA.append h2 g)
theorem RpA.get : ∀ {ds : List D} {vs : List V} {i : Nat} {d : D}, RpA K H vs ds → ds[i]? = some d → ∃ v, vs[i]? = some v ∧ Rp K H v d
  | [], _, _, _, _, e => by simp at e
  | _ :: _, _, 0, _, h, e => by cases h with | cons h1 h2 => simp at e; subst e; exact ⟨_, rfl, h1⟩
  | _ :: _, _, i + 1, _, h, e => by cases h with | cons h1 h2 => exact RpA.get (i := i) h2 (by simpa using e)
theorem RpA.getV : ∀ {ds : List D} {vs : List V} {i : Nat} {v : V}, RpA K H vs ds → vs[i]? = some v → ∃ d, ds[i]? = some d ∧ Rp K H v d
  | [], _, _, _, h, e => by cases h; simp at e
  | _ :: _, _, 0, _, h, e => by cases h with | cons h1 h2 => simp at e; subst e; exact ⟨_, rfl, h1⟩
  | _ :: _, _, i + 1, _, h, e => by cases h with | cons h1 h2 => exact RpA.getV (i := i) h2 (by simpa using e)
theorem RpA.set : ∀ {ds : List D} {vs : List V} {i : Nat} {d : D} {v : V}, RpA K H vs ds → Rp K H v d → RpA K H (vs.set i v) (ds.set i d)
  | [], _, _, _, _, h, _ => by cases h; exact .nil
  | _ :: _, _, 0, _, _, h, g => by cases h with | cons h1 h2 => exact .cons g h2
  | _ :: _, _, i + 1, _, _, h, g => by cases h with | cons h1 h2 => exact .cons h1 (RpA.set h2 g)
theorem RpA.drop : ∀ {ds : List D} {vs : List V} (n : Nat), RpA K H vs ds → RpA K H (vs.drop n) (ds.drop n)
  | _, _, 0, h => h
  | [], _, _ + 1, h => by cases h; exact .nil
  | _ :: _, _, n + 1, h => by cases h with | cons h1 h2 => exact RpA.drop n h2
theorem RpA.take : ∀ {ds : List D} {vs : List V} (n : Nat), RpA K H vs ds → RpA K H (vs.take n) (ds.take n)
  | _, _, 0, _ => .nil
  | [], _, _ + 1, h => by cases h; exact .nil
  | _ :: _, _, n + 1, h => by cases h with | cons h1 h2 => exact .cons h1 (RpA.take n h2)
theorem RpA.reverse : ∀ {ds : List D} {vs : List V}, RpA K H vs ds → RpA K H vs.reverse ds.reverse
  | [], _, h => by cases h; exact .nil
  | _ :: _, _, h => by cases h with | cons h1 h2 => rw [List.reverse_cons, List.reverse_cons]; exact (RpA.reverse h2).append (.cons h1 .nil)
theorem RpA.reps {ds : List D} {vs : List V} (h : RpA K H vs ds) : ∀ k : Nat, RpA K H (List.replicate k vs).flatten (List.replicate k ds).flatten
  | 0 => .nil
  | k + 1 => by rw [List.replicate_succ, List.flatten_cons, List.replicate_succ, List.flatten_cons]; exact h.append (RpA.reps h k)
theorem Rp.scal {v : V} {d : D} (h : Rp K H v d) (s : isSc d = true) (H' : Hp) : Rp K H' v d := by
  cases h with
  | non => exact .non
  | bl b => exact .bl b
  | int i => exact .int i
  | str x => exact .str x
  | lst _ _ => exact absurd (show false = true from s) Bool.false_ne_true
  | tup _ _ => exact absurd (show false = true from s) Bool.false_ne_true
  | dic _ => exact absurd (show false = true from s) Bool.false_ne_true
  | scr _ _ => exact absurd (show false = true from s) Bool.false_ne_true
  | adr _ => exact absurd (show false = true from s) Bool.false_ne_true
end

/-! ### how heaps grow: H the whole, Hs the part that stays for good -/
structure Grow (H Hs H' Hs' : Hp) : Prop where
  all : Same H H'
  sh : Same Hs Hs'
  sub : Same Hs' H'
  own : ∀ p o, H p = some o → Hs p = none → Hs' p = none
section
variable {H Hs H1 Hs1 H2 Hs2 : Hp} {p : Addr} {o : HO}
theorem Grow.refl (s : Same Hs H) : Grow H Hs H Hs := ⟨Same.refl _, Same.refl _, s, fun _ _ _ n => n⟩
theorem Grow.trans (a : Grow H Hs H1 Hs1) (b : Grow H1 Hs1 H2 Hs2) : Grow H Hs H2 Hs2 :=
  ⟨a.all.trans b.all, a.sh.trans b.sh, b.sub, fun p o h n => b.own p o (a.all p o h) (a.own p o h n)⟩
theorem same_upd (n : H p = none) : Same H (upd H p o) := fun b x e => by rw [upd_ne (ne_of_none e n)]; exact e
theorem free_sub (s : Same Hs H) (n : H p = none) : Hs p = none := s.free n
theorem Grow.new (s : Same Hs H) (n : H p = none) : Grow H Hs (upd H p o) (upd Hs p o) := by
  refine ⟨same_upd n, same_upd (free_sub s n), fun b x e => ?_, fun b x e m => ?_⟩
  · by_cases hb : b = p
    · subst hb; rw [upd_same] at e ⊢; exact e
    · rw [upd_ne hb] at e ⊢; exact s _ _ e
  · rw [upd_ne (ne_of_none e n)]; exact m
/-- something new that we don't count -/
theorem Grow.gar (s : Same Hs H) (n : H p = none) : Grow H Hs (upd H p o) Hs :=
  ⟨same_upd n, Same.refl _, s.trans (same_upd n), fun _ _ _ m => m⟩
end

/-! ### a def's slots -/
structure SR (K : PySem.W.Frag) (e : Env) (σ : St) (H Hs : Hp) : Prop where
  sub : Same Hs H
  len : e.length = σ.length
  sh : ∀ (i : Nat) (d : D), e[i]? = some (SV.sh d) → ∃ v, σ[i]? = some (some v) ∧ Rp K Hs v d
  ow : ∀ (i : Nat) (xs : List D), e[i]? = some (SV.ow xs) → ∃ p vs, σ[i]? = some (some (V.ref p)) ∧ H p = some (.lst vs) ∧ Hs p = none ∧ RpA K Hs vs xs
  ne : ∀ (i j : Nat) (xs ys : List D) (p : Addr), e[i]? = some (SV.ow xs) → e[j]? = some (SV.ow ys) → σ[i]? = some (some (V.ref p)) → σ[j]? = some (some (V.ref p)) → i = j
section
variable {K : PySem.W.Frag} {e : Env} {σ : St} {H Hs H' Hs' : Hp}
theorem SR.grow (s : SR K e σ H Hs) (g : Grow H Hs H' Hs') : SR K e σ H' Hs' :=
  ⟨g.sub, s.len, fun i d h => let ⟨v, a, b⟩ := s.sh i d h; ⟨v, a, b.up g.sh⟩,
    fun i xs h => let ⟨p, vs, a, b, c, d⟩ := s.ow i xs h; ⟨p, vs, a, g.all _ _ b, g.own _ _ b c, d.up g.sh⟩, s.ne⟩
end

/-! ### what holds behind an expression -/
abbrev clsV (mg : Str → Option Value) (c : Str) : Value := (mg c).getD .none
/-- Rep: how what comes back stands for the answer -/
def Post {A B : Type} (X : Cx) (W : WX) (σ : St) (H Hs : Hp) (Rep : Hp → Hp → Hp → B → A → Prop) (r : R A) (Q : B → Hp → Prop) : Prop :=
  match r with
  | .ok a => ∀ b H' Hs', Grow H Hs H' Hs' → Rep H H' Hs' b a → Q b H'
  | .err c => ∀ H', Same H H' → W (clsV X.mg c) none σ H'
  | .stk => False
abbrev RepE (K : PySem.W.Frag) : Hp → Hp → Hp → V → D → Prop := fun _ _ Hs' v d => Rp K Hs' v d
/-- looked at: a datum, or a list of our own -/
def Bo (K : PySem.W.Frag) (H Hs : Hp) (v : V) (d : D) : Prop := Rp K Hs v d ∨ ∃ p vs xs, v = .ref p ∧ d = .list xs ∧ H p = some (.lst vs) ∧ RpA K Hs vs xs
abbrev RepB (K : PySem.W.Frag) : Hp → Hp → Hp → V → D → Prop := fun _ H' Hs' v d => Bo K H' Hs' v d
/-- a new list -/
abbrev RepF (K : PySem.W.Frag) : Hp → Hp → Hp → V → List D → Prop := fun H H' Hs' v xs => ∃ p vs, v = .ref p ∧ H p = none ∧ H' p = some (.lst vs) ∧ Hs' p = none ∧ RpA K Hs' vs xs
abbrev RepA (K : PySem.W.Frag) : Hp → Hp → Hp → List V → List D → Prop := fun _ _ Hs' vs ds => RpA K Hs' vs ds
/-- looked at, each of them -/
inductive BoA (K : PySem.W.Frag) (H Hs : Hp) : List V → List D → Prop
  | nil : BoA K H Hs [] []
  | cons {v : V} {vs : List V} {d : D} {ds : List D} : Bo K H Hs v d → BoA K H Hs vs ds → BoA K H Hs (v :: vs) (d :: ds)
abbrev RepBA (K : PySem.W.Frag) : Hp → Hp → Hp → List V → List D → Prop := fun _ H' Hs' vs ds => BoA K H' Hs' vs ds
abbrev RepT : Hp → Hp → Hp → Bool → Bool → Prop := fun _ _ _ b k => b = k
abbrev RepO : Hp → Hp → Hp → Option Int → Option Int → Prop := fun _ _ _ b k => b = k
section
variable {K : PySem.W.Frag} {H Hs H' Hs' : Hp} {v : V} {d : D}
theorem Bo.up (h : Bo K H Hs v d) (g : Grow H Hs H' Hs') : Bo K H' Hs' v d := by
  rcases h with h | ⟨p, vs, xs, a, b, c, e⟩
  · exact .inl (h.up g.sh)
  · exact .inr ⟨p, vs, xs, a, b, g.all _ _ c, e.up g.sh⟩
theorem Bo.rp (h : Bo K H Hs v d) (s : Same Hs H) : Rp K H v d := by
  rcases h with h | ⟨p, vs, xs, rfl, rfl, c, e⟩
  · exact h.up s
  · exact .lst c (e.up s)
theorem Bo.list {xs : List D} (h : Bo K H Hs v (.list xs)) (s : Same Hs H) : ∃ p vs, v = .ref p ∧ H p = some (.lst vs) ∧ RpA K Hs vs xs := by
  rcases h with h | ⟨p, vs, xs', rfl, e1, c, e⟩
  · cases h with | lst h1 h2 => exact ⟨_, _, rfl, s _ _ h1, h2⟩
  · cases e1; exact ⟨p, vs, rfl, c, e⟩
theorem Bo.tuple {xs : List D} (h : Bo K H Hs v (.tuple xs)) (s : Same Hs H) : ∃ p vs, v = .ref p ∧ H p = some (.tup vs) ∧ RpA K Hs vs xs := by
  rcases h with h | ⟨p, vs, xs', rfl, e1, c, e⟩
  · cases h with | tup h1 h2 => exact ⟨_, _, rfl, s _ _ h1, h2⟩
  · cases e1
theorem Bo.scr {xs : List D} (h : Bo K H Hs v (PL.scr xs)) (s : Same Hs H) : ∃ p vs, v = .ref p ∧ SqL K H p vs ∧ RpA K Hs vs xs := by
  rcases h with h | ⟨p, vs, xs', rfl, e1, c, e⟩
  · cases h with | scr h1 h2 => exact ⟨_, _, rfl, s.seq h1, h2⟩
  · cases e1
theorem Bo.dict (h : Bo K H Hs v (.dict [])) (s : Same Hs H) : ∃ p, v = .ref p ∧ H p = some (.dK []) := by
  rcases h with h | ⟨p, vs, xs', rfl, e1, c, e⟩
  · cases h with | dic h1 => exact ⟨_, rfl, s _ _ h1⟩
  · cases e1
theorem Bo.int {i : Int} (h : Bo K H Hs v (.int i)) : v = .int i := by
  rcases h with h | ⟨p, vs, xs', rfl, e1, c, e⟩
  · cases h; rfl
  · cases e1
theorem Bo.str {i : Str} (h : Bo K H Hs v (.str i)) : v = .str i := by
  rcases h with h | ⟨p, vs, xs', rfl, e1, c, e⟩
  · cases h; rfl
  · cases e1
theorem Bo.bool {i : Bool} (h : Bo K H Hs v (.bool i)) : v = .bl i := by
  rcases h with h | ⟨p, vs, xs', rfl, e1, c, e⟩
  · cases h; rfl
  · cases e1
theorem Bo.none (h : Bo K H Hs v .none) : v = .non := by
  rcases h with h | ⟨p, vs, xs', rfl, e1, c, e⟩
  · cases h; rfl
  · cases e1
theorem Rp.int' {i : Int} (h : Rp K H v (.int i)) : v = .int i := by cases h; rfl
theorem Rp.bool' {i : Bool} (h : Rp K H v (.bool i)) : v = .bl i := by cases h; rfl
theorem BoA.up {vs : List V} {ds : List D} (h : BoA K H Hs vs ds) (g : Grow H Hs H' Hs') : BoA K H' Hs' vs ds := by
  induction h with
  | nil => exact .nil
  | cons a _ ih => exact .cons (a.up g) ih
theorem BoA.rp {vs : List V} {ds : List D} (h : BoA K H Hs vs ds) (s : Same Hs H) : RpA K H vs ds := by
  induction h with
  | nil => exact .nil
  | cons a _ ih => exact .cons (a.rp s) ih
theorem RpA.bo : ∀ {ds : List D} {vs : List V}, RpA K Hs vs ds → BoA K H Hs vs ds
  | [], _, h => by cases h; exact .nil
  | _ :: _, _, h => by cases h with | cons h1 h2 => exact .cons (.inl h1) (RpA.bo h2)
end
section
variable {X : Cx} {W : WX} {σ : St} {H Hs H1 Hs1 : Hp}
theorem Post.grow {A B : Type} {Rep : Hp → Hp → Hp → B → A → Prop} {r : R A} {Q : B → Hp → Prop} (h : Post X W σ H Hs Rep r Q) (g : Grow H Hs H1 Hs1)
    (an : ∀ H' Hs' b a, Rep H1 H' Hs' b a → Rep H H' Hs' b a) : Post X W σ H1 Hs1 Rep r Q := by
  cases r with
  | ok a => exact fun b H' Hs' g' rp => h b H' Hs' (g.trans g') (an _ _ _ _ rp)
  | err c => exact fun H' s' => h H' (g.all.trans s')
  | stk => exact h
theorem Post.bind {A B C E : Type} {Rep1 : Hp → Hp → Hp → B → A → Prop} {Rep2 : Hp → Hp → Hp → E → C → Prop} {r : R A} {k : A → R C} {Q : E → Hp → Prop} (hp : Post X W σ H Hs Rep2 (r.bind k) Q)
    {T : B → Hp → Prop} (an : ∀ H1, Same H H1 → ∀ H' Hs' b a, Rep2 H1 H' Hs' b a → Rep2 H H' Hs' b a)
    (h : ∀ a b H1 Hs1, r = .ok a → Grow H Hs H1 Hs1 → Rep1 H H1 Hs1 b a → Post X W σ H1 Hs1 Rep2 (k a) Q → T b H1) : Post X W σ H Hs Rep1 r T := by
  cases r with
  | ok a => exact fun b H1 Hs1 g rp => h a b H1 Hs1 rfl g rp (Post.grow (A := C) hp g (an H1 g.all))
  | err c => exact hp
  | stk => exact hp
theorem anE {B A : Type} {G : Hp → Hp → B → A → Prop} : ∀ H1, Same H H1 → ∀ H' Hs' b a, (fun (_ : Hp) H' Hs' b a => G H' Hs' b a) H1 H' Hs' b a → (fun (_ : Hp) H' Hs' b a => G H' Hs' b a) H H' Hs' b a := fun _ _ _ _ _ _ h => h
end

/-! ### the judgements -/
structure PPE (X : Cx) (W : WX) (ex : Expr) (f : EF) : Prop where
  out : ∃ t : TE, PE X ex t ∧ ∀ e σ H Hs Q, SR X.K e σ H Hs → Post X W σ H Hs (RepE X.K) (f e) Q → t σ H Q
/-- looked at -/
structure PPB (X : Cx) (W : WX) (ex : Expr) (f : EF) : Prop where
  out : ∃ t : TE, PE X ex t ∧ ∀ e σ H Hs Q, SR X.K e σ H Hs → Post X W σ H Hs (RepB X.K) (f e) Q → t σ H Q
/-- a new list -/
structure PPF (X : Cx) (W : WX) (ex : Expr) (f : LF) : Prop where
  out : ∃ t : TE, PE X ex t ∧ ∀ e σ H Hs Q, SR X.K e σ H Hs → Post X W σ H Hs (RepF X.K) (f e) Q → t σ H Q
structure PPA (X : Cx) (W : WX) (es : List Expr) (f : LF) : Prop where
  out : ∃ t : TA, PA X es t ∧ ∀ e σ H Hs Q, SR X.K e σ H Hs → Post X W σ H Hs (RepA X.K) (f e) Q → t σ H Q
  len : ∀ e ds, f e = .ok ds → ds.length = es.length
structure PPBA (X : Cx) (W : WX) (es : List Expr) (f : LF) : Prop where
  out : ∃ t : TA, PA X es t ∧ ∀ e σ H Hs Q, SR X.K e σ H Hs → Post X W σ H Hs (RepBA X.K) (f e) Q → t σ H Q
structure PPT (X : Cx) (W : WX) (ex : Expr) (f : TF) : Prop where
  out : ∃ t : TT, PT X ex t ∧ ∀ e σ H Hs Q, SR X.K e σ H Hs → Post X W σ H Hs RepT (f e) Q → t σ H Q
structure PPW (X : Cx) (W : WX) (ex : Expr) (f : TF) : Prop where
  out : ∃ t : TT, PW X ex t ∧ ∀ e σ H Hs Q, SR X.K e σ H Hs → Post X W σ H Hs RepT (f e) Q → t σ H Q
structure PPO (X : Cx) (W : WX) (ex : Option Expr) (f : Env → R (Option Int)) : Prop where
  out : ∃ t : TO, PO X ex t ∧ ∀ e σ H Hs Q, SR X.K e σ H Hs → Post X W σ H Hs RepO (f e) Q → t σ H Q

section
variable {X : Cx} {W : WX} {a b c : Expr} {f g h : EF} {pos : Pos}
theorem PPE.bo (p : PPE X W a f) : PPB X W a f := by
  obtain ⟨t, pa, ha⟩ := p.out
  refine ⟨t, pa, fun e σ H Hs Q s hp => ha e σ H Hs Q s ?_⟩
  revert hp
  cases f e with
  | ok d => exact fun hp v H' Hs' g rp => hp v H' Hs' g (.inl rp)
  | err c => exact fun hp => hp
  | stk => exact fun hp => hp
theorem PPW.pt (p : PPW X W a q) : PPT X W a q := let ⟨t, pa, ha⟩ := p.out; ⟨t, pa.pt, ha⟩

/-! ### names and constants -/
theorem ppe_v (i : Nat) {x : Str} (hN : X.N[i]? = some x := by rfl) (hv : Vis X.env.scope x := by first | exact Or.inl rfl | exact Or.inr (Or.inl rfl) | exact Or.inr (Or.inr rfl)) (hd : (x == ("__debug__" : Str)) = false := by decide)
    (hcd : (x == ("__classdict__" : Str)) = false := by decide) : PPE X W (.Name x pos) (eV i) := by
  refine ⟨tVar i, pe_var hN hv hd hcd, fun e σ H Hs Q s hp => ?_⟩
  unfold eV at hp
  split at hp
  · rename_i d hd
    obtain ⟨v, h1, h2⟩ := s.sh i d hd
    exact ⟨v, h1, hp v H Hs (Grow.refl s.sub) h2⟩
  · exact hp.elim
theorem ppb_v (i : Nat) {x : Str} (hN : X.N[i]? = some x := by rfl) (hv : Vis X.env.scope x := by first | exact Or.inl rfl | exact Or.inr (Or.inl rfl) | exact Or.inr (Or.inr rfl)) (hd : (x == ("__debug__" : Str)) = false := by decide)
    (hcd : (x == ("__classdict__" : Str)) = false := by decide) : PPB X W (.Name x pos) (eB i) := by
  refine ⟨tVar i, pe_var hN hv hd hcd, fun e σ H Hs Q s hp => ?_⟩
  unfold eB at hp
  split at hp
  · rename_i d hd
    obtain ⟨v, h1, h2⟩ := s.sh i d hd
    exact ⟨v, h1, hp v H Hs (Grow.refl s.sub) (.inl h2)⟩
  · rename_i xs hd
    obtain ⟨p, vs, h1, h2, h3, h4⟩ := s.ow i xs hd
    exact ⟨_, h1, hp _ H Hs (Grow.refl s.sub) (.inr ⟨p, vs, xs, rfl, rfl, h2, h4⟩)⟩
  · exact hp.elim
theorem ppe_k {ex : Expr} {v : V} {d : D} (hp : PE X ex (tC v)) (hr : ∀ Hs, Rp X.K Hs v d) : PPE X W ex (eK d) :=
  ⟨tC v, hp, fun e σ H Hs Q s hp => hp v H Hs (Grow.refl s.sub) (hr Hs)⟩
theorem ppe_int {i : Int} {j} : PPE X W (.Constant (.int i) j pos) (eK (.int i)) := ppe_k pe_int fun _ => .int i
theorem ppe_bl {i : Bool} {j} : PPE X W (.Constant (.bool i) j pos) (eK (.bool i)) := ppe_k pe_bl fun _ => .bl i
theorem ppe_str {i : Str} {j} : PPE X W (.Constant (.str i) j pos) (eK (.str i)) := ppe_k pe_str fun _ => .str i
theorem ppe_non {j} : PPE X W (.Constant .none j pos) (eK .none) := ppe_k pe_non fun _ => .non
/-- a module's constant -/
theorem ppe_gi {x : Str} {i : Int} (hm : ∃ t, X.mg x = some (.int i t)) (hg : Gl X x := by rfl) (hd : (x == ("__debug__" : Str)) = false := by decide) : PPE X W (.Name x pos) (eK (.int i)) := by
  obtain ⟨t, hm⟩ := hm
  exact ppe_k (pe_glob hg hm (v := .int i) ⟨_, rfl⟩ hd) fun _ => .int i
theorem ppe_gs {x : Str} {i : Str} (hm : ∃ t, X.mg x = some (.str i t)) (hg : Gl X x := by rfl) (hd : (x == ("__debug__" : Str)) = false := by decide) : PPE X W (.Name x pos) (eK (.str i)) := by
  obtain ⟨t, hm⟩ := hm
  exact ppe_k (pe_glob hg hm (v := .str i) ⟨_, rfl⟩ hd) fun _ => .str i

/-! ### operators: their rules over data -/
/-- f, a two-place operation of the machine, does what op tells -/
def OpS (X : Cx) (f : Value → Value → Sem Value) (op : D → D → R D) : Prop :=
  ∃ r : R2, OpR X f r ∧ ∀ (W : WX) (σ : St) (H Hs : Hp) (x y : V) (d1 d2 : D) (Q : VK), Same Hs H → Bo X.K H Hs x d1 → Bo X.K H Hs y d2 → Post X W σ H Hs (RepE X.K) (op d1 d2) Q → r x y H Q
def UnS (X : Cx) (f : Value → Sem Value) (op : D → R D) : Prop :=
  ∃ r : V → Hp → VK → Prop, UnR X f r ∧ ∀ (W : WX) (σ : St) (H Hs : Hp) (x : V) (d : D) (Q : VK), Same Hs H → Bo X.K H Hs x d → Post X W σ H Hs (RepE X.K) (op d) Q → r x H Q
def CaS (X : Cx) (f : Value) (m : List D → R D) : Prop :=
  ∃ r : List V → Hp → VK → Prop, CallR X f r ∧ ∀ (W : WX) (σ : St) (H Hs : Hp) (xs : List V) (ds : List D) (Q : VK), Same Hs H → BoA X.K H Hs xs ds → Post X W σ H Hs (RepE X.K) (m ds) Q → r xs H Q

theorem ppe_op {op : Operator} {o : D → D → R D} (ho : OpS X (binaryOp op) o) (ha : PPB X W a f) (hb : PPB X W b g) : PPE X W (.BinOp a op b pos) (e2 o f g) := by
  obtain ⟨ta, pa, ha⟩ := ha.out
  obtain ⟨tb, pb, hb⟩ := hb.out
  obtain ⟨r, ho, hr⟩ := ho
  refine ⟨tOp r ta tb, pe_op ho pa pb, fun e σ H Hs Q s hp => ?_⟩
  refine ha e σ H Hs _ s (Post.bind hp anE fun d1 x H1 Hs1 _ g1 r1 hp1 => ?_)
  refine hb e σ H1 Hs1 _ (s.grow g1) (Post.bind hp1 anE fun d2 y H2 Hs2 _ g2 r2 hp2 => ?_)
  exact hr W σ H2 Hs2 x y d1 d2 Q g2.sub (r1.up g2) r2 hp2
theorem ppe_un {op : UnaryOp} {o : D → R D} (ho : UnS X (unaryOp op) o) (ha : PPB X W a f) : PPE X W (.UnaryOp op a pos) (e1 o f) := by
  obtain ⟨ta, pa, ha⟩ := ha.out
  obtain ⟨r, ho, hr⟩ := ho
  refine ⟨tUn r ta, pe_un ho pa, fun e σ H Hs Q s hp => ?_⟩
  refine ha e σ H Hs _ s (Post.bind hp anE fun d1 x H1 Hs1 _ g1 r1 hp1 => ?_)
  exact hr W σ H1 Hs1 x d1 Q g1.sub r1 hp1
/-- a comparison as a value; as a test -/
theorem ppe_cmp {op : CmpOp} {o : D → D → R D} (ho : OpS X (compareOp op) o) (ha : PPB X W a f) (hb : PPB X W b g) (hm : behindInMarks op b = false) : PPE X W (.Compare a [op] [b] pos) (e2 o f g) := by
  obtain ⟨ta, pa, ha⟩ := ha.out
  obtain ⟨tb, pb, hb⟩ := hb.out
  obtain ⟨r, ho, hr⟩ := ho
  refine ⟨tOp r ta tb, pe_cmpR ho pa pb hm, fun e σ H Hs Q s hp => ?_⟩
  refine ha e σ H Hs _ s (Post.bind hp anE fun d1 x H1 Hs1 _ g1 r1 hp1 => ?_)
  refine hb e σ H1 Hs1 _ (s.grow g1) (Post.bind hp1 anE fun d2 y H2 Hs2 _ g2 r2 hp2 => ?_)
  exact hr W σ H2 Hs2 x y d1 d2 Q g2.sub (r1.up g2) r2 hp2
theorem post_asB {σ : St} {H Hs : Hp} {Q : Bool → Hp → Prop} {d : D} {v : V} {H1 Hs1 : Hp} (g1 : Grow H Hs H1 Hs1) (s : Same Hs H) (hp : Post X W σ H Hs RepT (asB d) Q) (rv : Rp X.K Hs1 v d) : ∃ k, v = .bl k ∧ Q k H1 := by
  cases d with
  | bool k => exact ⟨k, rv.bool', hp k H1 Hs1 g1 rfl⟩
  | _ => exact (show False from hp).elim
theorem ppt_cmp {op : CmpOp} {o : D → D → R D} (ho : OpS X (compareOp op) o) (ha : PPB X W a f) (hb : PPB X W b g) (hm : behindInMarks op b = false) : PPT X W (.Compare a [op] [b] pos) (qV (e2 o f g)) := by
  obtain ⟨ta, pa, ha⟩ := ha.out
  obtain ⟨tb, pb, hb⟩ := hb.out
  obtain ⟨r, ho, hr⟩ := ho
  refine ⟨tTest (tOp r ta tb), pt_cmpR ho pa pb hm, fun e σ H Hs Q s hp => ?_⟩
  have hp' : Post X W σ H Hs (RepE X.K) (e2 o f g e) (fun x H' => ∃ k, x = V.bl k ∧ Q k H') :=
    Post.bind hp anE fun d x H1 Hs1 _ g1 r1 hp1 => post_asB (Grow.refl g1.sub) g1.sub hp1 r1
  refine ha e σ H Hs _ s (Post.bind hp' anE fun d1 x H1 Hs1 _ g1 r1 hp1 => ?_)
  refine hb e σ H1 Hs1 _ (s.grow g1) (Post.bind hp1 anE fun d2 y H2 Hs2 _ g2 r2 hp2 => ?_)
  exact hr W σ H2 Hs2 x y d1 d2 _ g2.sub (r1.up g2) r2 hp2
/-- any expression as a test whose value is a truth -/
theorem ppt_v (ha : PPE X W a f) (he : ∀ whole, isTrue a X.env whole = (do let v ← whole; standAt a.pos; holding [v] (truthy v)) := by intro _; rfl) : PPT X W a (qV f) := by
  obtain ⟨ta, pa, ha⟩ := ha.out
  refine ⟨tB ta, pt_val pa he, fun e σ H Hs Q s hp => ?_⟩
  exact ha e σ H Hs _ s (Post.bind hp anE fun d x H1 Hs1 _ g1 r1 hp1 => post_asB (Grow.refl g1.sub) g1.sub hp1 r1)
end
end PL

namespace PL
open PySem PySem.Spec PyProof.Rows L2

section
variable {X : Cx} {W : WX} {a b c : Expr} {f g h : EF} {pos : Pos} {t u : TF} {rest : List Expr}
/-! ### and, or, not, if-else, chains -/
theorem ppt_not (ha : PPT X W a t) : PPT X W (.UnaryOp .Not a pos) (qNot t) := by
  obtain ⟨ta, pa, ha⟩ := ha.out
  refine ⟨_, pt_not pa, fun e σ H Hs Q s hp => ?_⟩
  refine ha e σ H Hs _ s (Post.bind hp anE fun d x H1 Hs1 _ g1 r1 hp1 => ?_)
  subst r1
  exact hp1 _ H1 Hs1 (Grow.refl g1.sub) rfl
theorem ppw_and1 (ha : PPT X W a t) : PPW X W (.BoolOp .And [a] pos) t := let ⟨ta, pa, ha⟩ := ha.out; ⟨ta, pw_and1 pa, ha⟩
theorem ppw_or1 (ha : PPT X W a t) : PPW X W (.BoolOp .Or [a] pos) t := let ⟨ta, pa, ha⟩ := ha.out; ⟨ta, pw_or1 pa, ha⟩
theorem ppw_and (ha : PPT X W a t) (hb : PPW X W (.BoolOp .And (b :: rest) pos) u) : PPW X W (.BoolOp .And (a :: b :: rest) pos) (qAnd t u) := by
  obtain ⟨ta, pa, ha⟩ := ha.out
  obtain ⟨tb, pb, hb⟩ := hb.out
  refine ⟨_, pw_and pa pb, fun e σ H Hs Q s hp => ?_⟩
  refine ha e σ H Hs _ s (Post.bind hp anE fun d x H1 Hs1 _ g1 r1 hp1 => ?_)
  subst r1
  cases x with
  | true => exact hb e σ H1 Hs1 Q (s.grow g1) hp1
  | false => exact hp1 _ H1 Hs1 (Grow.refl g1.sub) rfl
theorem ppw_or (ha : PPT X W a t) (hb : PPW X W (.BoolOp .Or (b :: rest) pos) u) : PPW X W (.BoolOp .Or (a :: b :: rest) pos) (qOr t u) := by
  obtain ⟨ta, pa, ha⟩ := ha.out
  obtain ⟨tb, pb, hb⟩ := hb.out
  refine ⟨_, pw_or pa pb, fun e σ H Hs Q s hp => ?_⟩
  refine ha e σ H Hs _ s (Post.bind hp anE fun d x H1 Hs1 _ g1 r1 hp1 => ?_)
  subst r1
  cases x with
  | false => exact hb e σ H1 Hs1 Q (s.grow g1) hp1
  | true => exact hp1 _ H1 Hs1 (Grow.refl g1.sub) rfl
theorem ppe_not (ha : PPE X W a f) : PPE X W (.UnaryOp .Not a pos) (eNot f) := by
  obtain ⟨ta, pa, ha⟩ := ha.out
  refine ⟨_, pe_not pa, fun e σ H Hs Q s hp => ?_⟩
  refine ha e σ H Hs _ s (Post.bind hp anE fun d x H1 Hs1 _ g1 r1 hp1 => ?_)
  cases d with
  | bool k => exact ⟨k, r1.bool', hp1 _ H1 Hs1 (Grow.refl g1.sub) (.bl _)⟩
  | _ => exact (show False from hp1).elim
theorem ppe_one {op} (ha : PPE X W a f) : PPE X W (.BoolOp op [a] pos) f := let ⟨ta, pa, ha⟩ := ha.out; ⟨ta, pe_one pa, ha⟩
theorem ppe_and (ha : PPE X W a f) (hb : PPE X W (.BoolOp .And (b :: rest) pos) g) : PPE X W (.BoolOp .And (a :: b :: rest) pos) (eAnd f g) := by
  obtain ⟨ta, pa, ha⟩ := ha.out
  obtain ⟨tb, pb, hb⟩ := hb.out
  refine ⟨_, pe_and pa pb, fun e σ H Hs Q s hp => ?_⟩
  refine ha e σ H Hs _ s (Post.bind hp anE fun d x H1 Hs1 _ g1 r1 hp1 => ?_)
  cases d with
  | bool k =>
    refine ⟨k, r1.bool', ?_⟩
    cases k with
    | true => exact hb e σ H1 Hs1 Q (s.grow g1) hp1
    | false => exact hp1 _ H1 Hs1 (Grow.refl g1.sub) (.bl _)
  | _ => exact (show False from hp1).elim
theorem ppe_or (ha : PPE X W a f) (hb : PPE X W (.BoolOp .Or (b :: rest) pos) g) : PPE X W (.BoolOp .Or (a :: b :: rest) pos) (eOr f g) := by
  obtain ⟨ta, pa, ha⟩ := ha.out
  obtain ⟨tb, pb, hb⟩ := hb.out
  refine ⟨_, pe_or pa pb, fun e σ H Hs Q s hp => ?_⟩
  refine ha e σ H Hs _ s (Post.bind hp anE fun d x H1 Hs1 _ g1 r1 hp1 => ?_)
  cases d with
  | bool k =>
    refine ⟨k, r1.bool', ?_⟩
    cases k with
    | false => exact hb e σ H1 Hs1 Q (s.grow g1) hp1
    | true => exact hp1 _ H1 Hs1 (Grow.refl g1.sub) (.bl _)
  | _ => exact (show False from hp1).elim
theorem ppe_if (hc : PPT X W c t) (ha : PPE X W a f) (hb : PPE X W b g) : PPE X W (.IfExp c a b pos) (eIf t f g) := by
  obtain ⟨tc, pc, hc⟩ := hc.out
  obtain ⟨ta, pa, ha⟩ := ha.out
  obtain ⟨tb, pb, hb⟩ := hb.out
  refine ⟨_, pe_ifExp pc pa pb, fun e σ H Hs Q s hp => ?_⟩
  refine hc e σ H Hs _ s (Post.bind hp anE fun d x H1 Hs1 _ g1 r1 hp1 => ?_)
  subst r1
  cases x with
  | true => exact ha e σ H1 Hs1 Q (s.grow g1) hp1
  | false => exact hb e σ H1 Hs1 Q (s.grow g1) hp1
theorem chain_post {op op' : D → D → R D} {r r' : R2} {tc : TE} {σ : St} {H Hs : Hp} {e : Env} {Q : VK} {x y : V} {d1 d2 : D} (s : SR X.K e σ H Hs) (hx : Bo X.K H Hs x d1) (hy : Bo X.K H Hs y d2)
    (hr : ∀ (W : WX) (σ : St) (H Hs : Hp) (x y : V) (d1 d2 : D) (Q : VK), Same Hs H → Bo X.K H Hs x d1 → Bo X.K H Hs y d2 → Post X W σ H Hs (RepE X.K) (op d1 d2) Q → r x y H Q)
    (hr' : ∀ (W : WX) (σ : St) (H Hs : Hp) (x y : V) (d1 d2 : D) (Q : VK), Same Hs H → Bo X.K H Hs x d1 → Bo X.K H Hs y d2 → Post X W σ H Hs (RepE X.K) (op' d1 d2) Q → r' x y H Q)
    (hc : ∀ e σ H Hs Q, SR X.K e σ H Hs → Post X W σ H Hs (RepB X.K) (h e) Q → tc σ H Q)
    (hp : Post X W σ H Hs (RepE X.K) ((op d1 d2).bind fun r => (asB r).bind fun k => if k then (h e).bind fun c => op' d2 c else .ok (.bool false)) Q) :
    r x y H fun z H3 => ∃ k, z = .bl k ∧ (if k = true then tc σ H3 fun w' H4 => r' y w' H4 Q else Q (.bl false) H3) := by
  refine hr W σ H Hs x y d1 d2 _ s.sub hx hy (Post.bind hp anE fun d z H3 Hs3 _ g3 r3 hp3 => ?_)
  cases d with
  | bool k =>
    refine ⟨k, r3.bool', ?_⟩
    cases k with
    | true =>
      have hp4 : Post X W σ H3 Hs3 (RepE X.K) ((h e).bind fun c => op' d2 c) Q := hp3
      refine hc e σ H3 Hs3 _ (s.grow g3) (Post.bind hp4 anE fun d3 w H4 Hs4 _ g4 r4 hp4 => ?_)
      exact hr' W σ H4 Hs4 y w d2 d3 Q g4.sub ((hy.up g3).up g4) r4 hp4
    | false => exact hp3 _ H3 Hs3 (Grow.refl g3.sub) (.bl _)
  | _ => exact (show False from hp3).elim
theorem ppe_chain {op op' : CmpOp} {o o' : D → D → R D} (ho : OpS X (compareOp op) o) (ho' : OpS X (compareOp op') o') (ha : PPB X W a f) (hb : PPB X W b g) (hc : PPB X W c h)
    (hm : lastMarks [op, op'] [b, c] = false := by with_unfolding_all rfl) : PPE X W (.Compare a [op, op'] [b, c] pos) (eCh o o' f g h) := by
  obtain ⟨ta, pa, ha⟩ := ha.out
  obtain ⟨tb, pb, hb⟩ := hb.out
  obtain ⟨tc, pc, hc⟩ := hc.out
  obtain ⟨r, ho, hr⟩ := ho
  obtain ⟨r', ho', hr'⟩ := ho'
  refine ⟨tChain r r' ta tb tc, pe_chain ho ho' pa pb pc hm, fun e σ H Hs Q s hp => ?_⟩
  refine ha e σ H Hs _ s (Post.bind hp anE fun d1 x H1 Hs1 _ g1 r1 hp1 => ?_)
  refine hb e σ H1 Hs1 _ (s.grow g1) (Post.bind hp1 anE fun d2 y H2 Hs2 _ g2 r2 hp2 => ?_)
  exact chain_post (s.grow (g1.trans g2)) (r1.up g2) r2 hr hr' hc hp2
theorem ppt_chain {op op' : CmpOp} {o o' : D → D → R D} (ho : OpS X (compareOp op) o) (ho' : OpS X (compareOp op') o') (ha : PPB X W a f) (hb : PPB X W b g) (hc : PPB X W c h)
    (hm : lastMarks [op, op'] [b, c] = false := by with_unfolding_all rfl) : PPT X W (.Compare a [op, op'] [b, c] pos) (qV (eCh o o' f g h)) := by
  obtain ⟨ta, pa, ha⟩ := ha.out
  obtain ⟨tb, pb, hb⟩ := hb.out
  obtain ⟨tc, pc, hc⟩ := hc.out
  obtain ⟨r, ho, hr⟩ := ho
  obtain ⟨r', ho', hr'⟩ := ho'
  refine ⟨tTest (tChain r r' ta tb tc), pt_chain ho ho' pa pb pc hm, fun e σ H Hs Q s hp => ?_⟩
  have hp' : Post X W σ H Hs (RepE X.K) (eCh o o' f g h e) (fun x H' => ∃ k, x = V.bl k ∧ Q k H') :=
    Post.bind hp anE fun d x H1 Hs1 _ g1 r1 hp1 => post_asB (Grow.refl g1.sub) g1.sub hp1 r1
  refine ha e σ H Hs _ s (Post.bind hp' anE fun d1 x H1 Hs1 _ g1 r1 hp1 => ?_)
  refine hb e σ H1 Hs1 _ (s.grow g1) (Post.bind hp1 anE fun d2 y H2 Hs2 _ g2 r2 hp2 => ?_)
  exact chain_post (s.grow (g1.trans g2)) (r1.up g2) r2 hr hr' hc hp2
end

/-! ### the operators over data -/
section
variable {X : Cx}
theorem ops_of {F : Value → Value → Sem Value} {op : D → D → R D} (r : R2) (ho : OpR X F r)
    (h : ∀ (W : WX) (σ : St) (H Hs : Hp) (x y : V) (d1 d2 : D) (Q : VK), Same Hs H → Bo X.K H Hs x d1 → Bo X.K H Hs y d2 → Post X W σ H Hs (RepE X.K) (op d1 d2) Q → r x y H Q) : OpS X F op := ⟨r, ho, h⟩
theorem os_sub : OpS X (binaryOp .Sub) opSub := by
  refine ops_of _ op_sub fun W σ H Hs x y d1 d2 Q s hx hy hp => ?_
  cases d1 <;> cases d2 <;> first
    | exact (show False from hp).elim
    | (rename_i i j; exact ⟨i, j, hx.int, hy.int, hp _ H Hs (Grow.refl s) (.int _)⟩)
theorem cmul_of {i j : Int} (h : mulB i j = true) : CMul i j ∨ CMulW i j := by
  unfold mulB at h
  simp only [Bool.or_eq_true, decide_eq_true_eq] at h
  rcases h with (h | h) | h
  · exact .inl (.inl h)
  · exact .inl (.inr h)
  · exact .inr h
theorem HT_sIx (n d : Nat) (o : Option Int) : HT.sIx n d o = sIx n d o := by
  cases o with
  | none => rfl
  | some v =>
    unfold HT.sIx sIx
    first
      | rfl
      | (simp only []; split <;> simp <;> omega)
theorem cut_eq {A : Type} (xs : List A) (lo hi : Option Int) : cut xs lo hi = (xs.drop (HT.sIx xs.length 0 lo)).take (HT.sIx xs.length xs.length hi - HT.sIx xs.length 0 lo) := by
  unfold cut
  rw [HT_sIx, HT_sIx]

theorem os_add : OpS X (binaryOp .Add) opAdd := by
  refine ops_of _ (op_add.or (op_cat.or (op_catA.or op_add_str))) fun W σ H Hs x y d1 d2 Q s hx hy hp => ?_
  cases d1 <;> cases d2 <;> first
    | exact (show False from hp).elim
    | skip
  · rename_i i j
    exact .inl ⟨i, j, hx.int, hy.int, hp _ H Hs (Grow.refl s) (.int _)⟩
  · rename_i i j
    dsimp only [opAdd] at hp
    split at hp
    · rename_i hz
      exact .inr (.inr (.inr ⟨i, j, hx.str, hy.str, hz, hp _ H Hs (Grow.refl s) (.str _)⟩))
    · exact hp.elim
  · rename_i i j
    dsimp only [opAdd] at hp
    split at hp
    · rename_i hz
      obtain ⟨p, vs, rfl, h1, r1⟩ := hx.list s
      obtain ⟨q, ws, rfl, h2, r2⟩ := hy.list s
      refine .inr (.inl ⟨p, q, vs, ws, rfl, rfl, h1, h2, by rw [r1.length, r2.length]; exact hz, fun l hl => hp _ _ _ (Grow.new s hl) (.lst upd_same ((r1.append r2).up (Grow.new (o := .lst (vs ++ ws)) s hl).sh))⟩)
    · exact hp.elim
  · rename_i i j
    dsimp only [opAdd] at hp
    split at hp
    · rename_i hz
      obtain ⟨p, vs, rfl, h1, r1⟩ := hx.tuple s
      obtain ⟨q, ws, rfl, h2, r2⟩ := hy.tuple s
      refine .inr (.inr (.inl ⟨p, q, vs, ws, rfl, rfl, SqT.of h1, SqT.of h2, by rw [r1.length, r2.length]; exact hz, fun e => ?_, fun _ e => ?_, fun _ _ l hl => hp _ _ _ (Grow.new s hl) (.tup upd_same ((r1.append r2).up (Grow.new (o := .tup (vs ++ ws)) s hl).sh))⟩))
      · subst e
        cases r1
        rcases hy with hy | ⟨_, _, _, _, z, _⟩
        · exact hp _ H Hs (Grow.refl s) hy
        · cases z
      · subst e
        cases r2
        rcases hx with hx | ⟨_, _, _, _, z, _⟩
        · rw [List.append_nil] at hp
          exact hp _ H Hs (Grow.refl s) hx
        · cases z
    · exact hp.elim
theorem rep_str_ok : OpR X (binaryOp .Mult) (fun x y H Q => ∃ z k, x = .str z ∧ y = .int k ∧ ((k = 0 ∧ Q (.str Str.empty) H) ∨ (k = 1 ∧ Q (.str z) H))) := by
  intro pins s σ H x y v u Q I rx ry h
  obtain ⟨z, k, rfl, rfl, h⟩ := h
  obtain ⟨t, rfl⟩ := rx
  obtain ⟨t', rfl⟩ := ry
  rcases h with ⟨rfl, q⟩ | ⟨rfl, q⟩
  · exact PySem.P.mul_str_none (by decide) (by decide) ⟨.str _, H, I.tok _, ⟨_, rfl⟩, q⟩
  · refine PySem.P.mul_str (by decide) (fun _ e => ?_) (fun _ e => ?_) ?_
    · exact absurd e (by simp)
    · exact absurd e (by simp)
    · rw [if_neg (by decide), if_pos (by simp)]
      exact ⟨.str _, H, I, ⟨_, rfl⟩, q⟩
theorem os_mul : OpS X (binaryOp .Mult) opMul := by
  refine ops_of _ (op_mul.or (op_mulW.or (op_rep.or rep_str_ok))) fun W σ H Hs x y d1 d2 Q s hx hy hp => ?_
  cases d1 <;> cases d2 <;> first
    | exact (show False from hp).elim
    | skip
  · rename_i i j
    dsimp only [opMul] at hp
    split at hp
    · rename_i hz
      rcases cmul_of hz with h | h
      · exact .inl ⟨i, j, hx.int, hy.int, h, hp _ H Hs (Grow.refl s) (.int _)⟩
      · exact .inr (.inl ⟨i, j, hx.int, hy.int, h, hp _ H Hs (Grow.refl s) (.int _)⟩)
    · exact hp.elim
  · rename_i z k
    dsimp only [opMul] at hp
    split at hp
    · rename_i hz
      exact .inr (.inr (.inr ⟨z, k, hx.str, hy.int, .inl ⟨hz, hp _ H Hs (Grow.refl s) (.str _)⟩⟩))
    · split at hp
      · rename_i hz
        exact .inr (.inr (.inr ⟨z, k, hx.str, hy.int, .inr ⟨hz, hp _ H Hs (Grow.refl s) (.str _)⟩⟩))
      · exact hp.elim
  · rename_i i k
    dsimp only [opMul] at hp
    split at hp
    · rename_i hz
      obtain ⟨p, vs, rfl, h1, r1⟩ := hx.list s
      refine .inr (.inr (.inl ⟨p, k, vs, rfl, hy.int, h1, by omega, by omega, by rw [r1.length]; exact hz.2.2, fun l hl => hp _ _ _ (Grow.new s hl) (.lst upd_same ((r1.reps _).up (Grow.new (o := .lst (List.replicate k.toNat vs).flatten) s hl).sh))⟩))
    · exact hp.elim
theorem os_div : OpS X (binaryOp .FloorDiv) opDiv := by
  refine ops_of _ op_fdivW fun W σ H Hs x y d1 d2 Q s hx hy hp => ?_
  cases d1 <;> cases d2 <;> first
    | exact (show False from hp).elim
    | skip
  rename_i i j
  dsimp only [opDiv] at hp
  split at hp
  · rename_i hz
    exact ⟨i, j, hx.int, hy.int, hz, hp _ H Hs (Grow.refl s) (.int _)⟩
  · exact hp.elim
theorem os_mod : OpS X (binaryOp .Mod) opMod := by
  refine ops_of _ op_mod fun W σ H Hs x y d1 d2 Q s hx hy hp => ?_
  cases d1 <;> cases d2 <;> first
    | exact (show False from hp).elim
    | skip
  rename_i i j
  dsimp only [opMod] at hp
  split at hp
  · rename_i hz
    exact ⟨i, j, hx.int, hy.int, hz, hp _ H Hs (Grow.refl s) (.int _)⟩
  · exact hp.elim
theorem os_pow : OpS X (binaryOp .Pow) opPow := by
  refine ops_of _ op_pow fun W σ H Hs x y d1 d2 Q s hx hy hp => ?_
  cases d1 <;> cases d2 <;> first
    | exact (show False from hp).elim
    | skip
  rename_i i j
  dsimp only [opPow] at hp
  split at hp
  · rename_i hz
    exact ⟨i, j, hx.int, hy.int, ⟨hz.1, by omega, hz.2.2⟩, hp _ H Hs (Grow.refl s) (.int _)⟩
  · exact hp.elim
theorem us_neg : UnS X (unaryOp .USub) opNeg := by
  refine ⟨_, un_neg, fun W σ H Hs x d Q s hx hp => ?_⟩
  cases d <;> first
    | exact (show False from hp).elim
    | skip
  exact ⟨_, hx.int, hp _ H Hs (Grow.refl s) (.int _)⟩
theorem cmp_of {F : Value → Value → Sem Value} {g : Int → Int → Bool} {op : D → D → R D} (ho : OpR X F (rI0 fun i j => .bl (g i j))) (h1 : ∀ i j, op (.int i) (.int j) = .ok (.bool (g i j))) (h2 : ∀ d1 d2, op d1 d2 = .stk ∨ ∃ i j, d1 = .int i ∧ d2 = .int j) : OpS X F op := by
  refine ops_of _ ho fun W σ H Hs x y d1 d2 Q s hx hy hp => ?_
  rcases h2 d1 d2 with e | ⟨i, j, rfl, rfl⟩
  · rw [e] at hp; exact (show False from hp).elim
  · rw [h1] at hp
    exact ⟨i, j, hx.int, hy.int, hp _ H Hs (Grow.refl s) (.bl _)⟩
theorem os_lt : OpS X (compareOp .Lt) opLt := cmp_of op_lt (fun _ _ => rfl) fun d1 d2 => by cases d1 <;> cases d2 <;> first | exact .inl rfl | exact .inr ⟨_, _, rfl, rfl⟩
theorem os_le : OpS X (compareOp .LtE) opLe := cmp_of op_le (fun _ _ => rfl) fun d1 d2 => by cases d1 <;> cases d2 <;> first | exact .inl rfl | exact .inr ⟨_, _, rfl, rfl⟩
theorem os_gt : OpS X (compareOp .Gt) opGt := cmp_of op_gt (fun _ _ => rfl) fun d1 d2 => by cases d1 <;> cases d2 <;> first | exact .inl rfl | exact .inr ⟨_, _, rfl, rfl⟩
theorem os_ge : OpS X (compareOp .GtE) opGe := cmp_of op_ge (fun _ _ => rfl) fun d1 d2 => by cases d1 <;> cases d2 <;> first | exact .inl rfl | exact .inr ⟨_, _, rfl, rfl⟩
/-- x is None -/
theorem isNone_v {K : PySem.W.Frag} {H Hs : Hp} {x : V} {d : D} (h : Bo K H Hs x d) (s : Same Hs H) : decide (x = .non) = isNone d := by
  have h := h.rp s
  cases h <;> rfl
theorem os_is : OpS X (compareOp .Is) opIs := by
  refine ops_of _ (op_isN.or op_isBl) fun W σ H Hs x y d1 d2 Q s hx hy hp => ?_
  unfold opIs at hp
  split at hp
  · refine .inl ⟨hy.none, ?_⟩
    rw [isNone_v hx s]
    exact hp _ H Hs (Grow.refl s) (.bl _)
  · split at hp
    · exact .inr ⟨_, _, hx.bool, hy.bool, hp _ H Hs (Grow.refl s) (.bl _)⟩
    · exact (show False from hp).elim
  · exact (show False from hp).elim
theorem os_isnot : OpS X (compareOp .IsNot) opIsNot := by
  refine ops_of _ (op_notN.or op_notBl) fun W σ H Hs x y d1 d2 Q s hx hy hp => ?_
  unfold opIsNot at hp
  split at hp
  · refine .inl ⟨hy.none, ?_⟩
    rw [isNone_v hx s]
    exact hp _ H Hs (Grow.refl s) (.bl _)
  · split at hp
    · exact .inr ⟨_, _, hx.bool, hy.bool, hp _ H Hs (Grow.refl s) (.bl _)⟩
    · exact (show False from hp).elim
  · exact (show False from hp).elim
end
end PL

namespace PL
open PySem PySem.Spec PyProof.Rows L2

/-! ### == at any depth -/
section
variable {X : Cx} {pins : List (Addr × Obj)} {σ : St} {H : Hp} {s : Shared}
theorem dict_eqAt (I : Inv X pins σ H s) {A : Around} (hu : A.units < cLine) {a b : Addr} (ha : H a = some (.dK [])) (hb : H b = some (.dK [])) : SeqAt.EqAt A s (.ref a) (.ref b) true := by
  by_cases e : a = b
  · subst e
    exact SeqAt.EqAt.same _
  · refine SeqAt.EqAt.of_refs e fun prog w E Q q => ?_
    obtain ⟨_, ya, va, ra, da⟩ := (show ObjOk X.prog X.w H s.heap a (.dK []) from I.hok a _ ha)
    obtain ⟨_, yb, vb, rb, db⟩ := (show ObjOk X.prog X.w H s.heap b (.dK []) from I.hok b _ hb)
    cases ra
    cases rb
    have cv : ∀ {c : Addr}, s.heap.DictOf (mixKind X.prog X.w) c [] → s.heap.DictOf (mixKind prog w) c [] := fun {c} h => by
      obtain ⟨o, es, ep, h1, h2, h3, h4, h5, h6⟩ := h
      have e0 : es.toList = [] := by
        cases q : es.toList with
        | nil => rfl
        | cons x r =>
          rw [q] at h5
          first
            | cases h5
            | exact absurd (congrArg List.length h5) (by simp)
            | simp at h5
      have e1 : es = #[] := by
        cases es
        simp at e0
        rw [e0]
      subst e1
      refine ⟨o, #[], ep, h1, h2, h3, ?_, ?_, h6⟩
      · first
          | exact fun e he => absurd he (by simp)
          | simp [KeysOf]
      · first
          | exact .nil
          | simp [Pairs]
    refine PySem.W.rcP_dicts (knd := mixKind prog w) (r := true) ya yb (cv da) (cv db) hu (fun _ => .nil) E Q ?_
    exact q
theorem sameAll_len : ∀ {a b : List D}, sameAll a b = true → a.length = b.length
  | [], [], _ => rfl
  | [], _ :: _, h => by simp [sameAll] at h
  | _ :: _, [], h => by simp [sameAll] at h
  | _ :: r, _ :: q, h => by
    unfold sameAll at h
    rw [Bool.and_eq_true] at h
    rw [List.length_cons, List.length_cons, sameAll_len h.2]
theorem range_all_true (n : Nat) : ((List.range n).all fun _ => true) = true := List.all_eq_true.mpr fun _ _ => rfl
mutual
theorem eqAt_same (I : Inv X pins σ H s) : ∀ (d e : D) (n : Nat) (A : Around) (x y : V) (v u : Value), A.units + n < cLine → same d e = true → lowD n d = true → Rp X.K H x d → Rp X.K H y e → RelV x v → RelV y u → SeqAt.EqAt A s v u true
  | .none, e, _, A, x, y, v, u, _, hs, _, h1, h2, r1, r2 => by
    cases e <;> first | exact absurd (show false = true from hs) Bool.false_ne_true | skip
    cases h1; cases h2; cases r1; cases r2
    exact SeqAt.EqAt.same _
  | .bool a, e, _, A, x, y, v, u, _, hs, _, h1, h2, r1, r2 => by
    cases e <;> first | exact absurd (show false = true from hs) Bool.false_ne_true | skip
    rename_i b
    have hs' : (a == b) = true := hs
    cases h1; cases h2; cases r1; cases r2
    rw [← hs']
    exact SeqAt.EqAt.bool_bool a b
  | .int a, e, _, A, x, y, v, u, _, hs, _, h1, h2, r1, r2 => by
    cases e <;> first | exact absurd (show false = true from hs) Bool.false_ne_true | skip
    rename_i b
    have hs' : (a == b) = true := hs
    cases h1; cases h2
    obtain ⟨t, rfl⟩ := r1
    obtain ⟨t', rfl⟩ := r2
    rw [← hs']
    exact SeqAt.EqAt.int_int a t b t'
  | .str a, e, _, A, x, y, v, u, _, hs, _, h1, h2, r1, r2 => by
    cases e <;> first | exact absurd (show false = true from hs) Bool.false_ne_true | skip
    rename_i b
    have hs' : decide (a = b) = true := hs
    have e' := of_decide_eq_true hs'
    subst e'
    cases h1; cases h2
    obtain ⟨t, rfl⟩ := r1
    obtain ⟨t', rfl⟩ := r2
    have z := SeqAt.EqAt.str_str (A := A) (s := s) a t a t'
    rwa [beq_self_eq_true] at z
  | .list ds, e, 0, A, x, y, v, u, _, hs, hl, h1, h2, r1, r2 => absurd (show false = true from by simpa [lowD] using hl) Bool.false_ne_true
  | .list ds, e, n + 1, A, x, y, v, u, hu, hs, hl, h1, h2, r1, r2 => by
    cases e <;> first | exact absurd (show false = true from by simpa [same] using hs) Bool.false_ne_true | skip
    rename_i es
    cases h1 with
    | lst h1 g1 =>
      cases h2 with
      | lst h2 g2 =>
        rename_i a xs b ys
        cases r1
        cases r2
        by_cases e : a = b
        · subst e
          exact SeqAt.EqAt.same _
        · refine SeqAt.EqAt.of_refs e ?_
          obtain ⟨us, k1, p1, _⟩ := I.list (SqL.of h1)
          obtain ⟨ws, k2, p2, _⟩ := I.list (SqL.of h2)
          have hs' : sameAll ds es = true := by simpa [same] using hs
          have hsz : us.toArray.size = ws.toArray.size := by
            rw [List.size_toArray, List.size_toArray, ← k1.length, ← k2.length, g1.length, g2.length, sameAll_len hs']
          have z := SeqAt.RcAt.lists (A := A) (e := fun _ => true) p1.isList p2.isList hsz (by omega) (fun j h1 h2 => by
            have k := eqAt_sameAll I ds es n A.in1 xs ys us ws (by show A.units + 1 + n < cLine; omega) hs' (by simpa [lowD] using hl) g1 g2 k1 k2 j (by simpa using h1) (by simpa using h2)
            simpa using k)
          rwa [range_all_true] at z
  | .tuple ds, e, 0, A, x, y, v, u, _, hs, hl, h1, h2, r1, r2 => absurd (show false = true from by simpa [lowD] using hl) Bool.false_ne_true
  | .tuple ds, e, n + 1, A, x, y, v, u, hu, hs, hl, h1, h2, r1, r2 => by
    cases e <;> first | exact absurd (show false = true from by simpa [same] using hs) Bool.false_ne_true | skip
    rename_i es
    cases h1 with
    | tup h1 g1 =>
      cases h2 with
      | tup h2 g2 =>
        rename_i a xs b ys
        cases r1
        cases r2
        by_cases e : a = b
        · subst e
          exact SeqAt.EqAt.same _
        · refine SeqAt.EqAt.of_refs e ?_
          obtain ⟨us, k1, p1, _⟩ := I.tuple (SqT.of h1)
          obtain ⟨ws, k2, p2, _⟩ := I.tuple (SqT.of h2)
          have hs' : sameAll ds es = true := by simpa [same] using hs
          have hsz : us.toArray.size = ws.toArray.size := by
            rw [List.size_toArray, List.size_toArray, ← k1.length, ← k2.length, g1.length, g2.length, sameAll_len hs']
          have z := SeqAt.RcAt.tuples (A := A) (s := s) (e := fun _ => true) (show s.heap.IsTuple a us.toArray from p1) (show s.heap.IsTuple b ws.toArray from p2) (by omega) (fun j h1 h2 => by
            have k := eqAt_sameAll I ds es n A.in1 xs ys us ws (by show A.units + 1 + n < cLine; omega) hs' (by simpa [lowD] using hl) g1 g2 k1 k2 j (by simpa using h1) (by simpa using h2)
            simpa using k)
          rw [range_all_true, hsz] at z
          simpa using z
  | .dict kvs, e, 0, A, x, y, v, u, _, hs, hl, h1, h2, r1, r2 => absurd (show false = true from by simpa [lowD] using hl) Bool.false_ne_true
  | .dict [], e, n + 1, A, x, y, v, u, hu, hs, hl, h1, h2, r1, r2 => by
    cases e with
    | dict k2 =>
      cases k2 with
      | nil =>
        cases h1 with
        | dic h1 =>
          cases h2 with
          | dic h2 =>
            cases r1
            cases r2
            exact dict_eqAt I (by omega) h1 h2
      | cons _ _ => exact absurd (show false = true from by simpa [same] using hs) Bool.false_ne_true
    | _ => exact absurd (show false = true from by simpa [same] using hs) Bool.false_ne_true
  | .dict (_ :: _), e, n + 1, A, x, y, v, u, hu, hs, hl, h1, h2, r1, r2 => absurd (show false = true from by simpa [lowD] using hl) Bool.false_ne_true
theorem eqAt_sameAll (I : Inv X pins σ H s) : ∀ (ds es : List D) (n : Nat) (A : Around) (xs ys : List V) (us ws : List Value), A.units + n < cLine → sameAll ds es = true → lowAll n ds = true → RpA X.K H xs ds → RpA X.K H ys es → Vals xs us → Vals ys ws →
    ∀ j (h1 : j < us.length) (h2 : j < ws.length), SeqAt.EqAt A s us[j] ws[j] true
  | [], es, n, A, xs, ys, us, ws, _, _, _, g1, _, k1, _, j, h1, _ => by cases g1; cases k1; exact absurd h1 (Nat.not_lt_zero j)
  | d :: ds, [], n, A, xs, ys, us, ws, _, hs, _, _, _, _, _, j, _, _ => absurd (show false = true from by simpa [sameAll] using hs) Bool.false_ne_true
  | d :: ds, e :: es, n, A, xs, ys, us, ws, hu, hs, hl, g1, g2, k1, k2, j, h1, h2 => by
    unfold sameAll at hs
    unfold lowAll at hl
    rw [Bool.and_eq_true] at hs hl
    cases g1 with
    | cons a1 b1 =>
      cases g2 with
      | cons a2 b2 =>
        cases k1 with
        | cons p1 q1 =>
          cases k2 with
          | cons p2 q2 =>
            cases j with
            | zero => exact eqAt_same I d e n A _ _ _ _ hu hs.1 hl.1 a1 a2 p1 p2
            | succ j => exact eqAt_sameAll I ds es n A _ _ _ _ hu hs.2 hl.2 b1 b2 q1 q2 j (Nat.lt_of_succ_lt_succ h1) (Nat.lt_of_succ_lt_succ h2)
end
/-- at the top: no dict -/
theorem rcAt_same (I : Inv X pins σ H s) (d e : D) (n : Nat) (A : Around) (x y : V) (v u : Value) (hu : A.units + (n + 1) < cLine) (hs : same d e = true) (hl : lowD (n + 1) d = true) (hd : isDic d = false) (h1 : Rp X.K H x d) (h2 : Rp X.K H y e) (r1 : RelV x v) (r2 : RelV y u) :
    SeqAt.RcAt A s v u true ∧ SeqAt.RcNeAt A s v u false := by
  cases d with
  | none =>
    cases e <;> first | exact absurd (show false = true from hs) Bool.false_ne_true | skip
    cases h1; cases h2; cases r1; cases r2
    exact ⟨SeqAt.RcAt.none_none, SeqAt.RcNeAt.none_none⟩
  | bool a =>
    cases e <;> first | exact absurd (show false = true from hs) Bool.false_ne_true | skip
    rename_i b
    have hs' : (a == b) = true := hs
    cases h1; cases h2; cases r1; cases r2
    have z1 := SeqAt.RcAt.bool_bool (A := A) (s := s) a b
    have z2 := SeqAt.RcNeAt.bool_bool (A := A) (s := s) a b
    rw [hs'] at z1 z2
    exact ⟨z1, z2⟩
  | int a =>
    cases e <;> first | exact absurd (show false = true from hs) Bool.false_ne_true | skip
    rename_i b
    have hs' : (a == b) = true := hs
    cases h1; cases h2
    obtain ⟨t, rfl⟩ := r1
    obtain ⟨t', rfl⟩ := r2
    have z1 := SeqAt.RcAt.int_int (A := A) (s := s) a t b t'
    have z2 := SeqAt.RcNeAt.int_int (A := A) (s := s) a t b t'
    rw [hs'] at z1 z2
    exact ⟨z1, z2⟩
  | str a =>
    cases e <;> first | exact absurd (show false = true from hs) Bool.false_ne_true | skip
    rename_i b
    have hs' : decide (a = b) = true := hs
    have e' := of_decide_eq_true hs'
    subst e'
    cases h1; cases h2
    obtain ⟨t, rfl⟩ := r1
    obtain ⟨t', rfl⟩ := r2
    have z1 := SeqAt.RcAt.str_str (A := A) (s := s) a t a t'
    have z2 := SeqAt.RcNeAt.str_str (A := A) (s := s) a t a t'
    rw [beq_self_eq_true] at z1 z2
    exact ⟨z1, z2⟩
  | list ds =>
    cases e <;> first | exact absurd (show false = true from by simpa [same] using hs) Bool.false_ne_true | skip
    rename_i es
    cases h1 with
    | lst h1 g1 =>
      cases h2 with
      | lst h2 g2 =>
        rename_i a xs b ys
        cases r1
        cases r2
        obtain ⟨us, k1, p1, _⟩ := I.list (SqL.of h1)
        obtain ⟨ws, k2, p2, _⟩ := I.list (SqL.of h2)
        have hs' : sameAll ds es = true := by simpa [same] using hs
        have hsz : us.toArray.size = ws.toArray.size := by
          rw [List.size_toArray, List.size_toArray, ← k1.length, ← k2.length, g1.length, g2.length, sameAll_len hs']
        have el : ∀ j (h1 : j < us.toArray.size) (h2 : j < ws.toArray.size), SeqAt.EqAt A.in1 s us.toArray[j] ws.toArray[j] ((fun _ => true) j) := fun j h1 h2 => by
          have k := eqAt_sameAll I ds es n A.in1 xs ys us ws (by show A.units + 1 + n < cLine; omega) hs' (by simpa [lowD] using hl) g1 g2 k1 k2 j (by simpa using h1) (by simpa using h2)
          simpa using k
        have z1 := SeqAt.RcAt.lists (A := A) (e := fun _ => true) p1.isList p2.isList hsz (by omega) el
        have z2 := SeqAt.RcNeAt.lists (A := A) (e := fun _ => true) p1.isList p2.isList hsz (by omega) el
        rw [range_all_true] at z1 z2
        exact ⟨z1, z2⟩
  | tuple ds =>
    cases e <;> first | exact absurd (show false = true from by simpa [same] using hs) Bool.false_ne_true | skip
    rename_i es
    cases h1 with
    | tup h1 g1 =>
      cases h2 with
      | tup h2 g2 =>
        rename_i a xs b ys
        cases r1
        cases r2
        obtain ⟨us, k1, p1, _⟩ := I.tuple (SqT.of h1)
        obtain ⟨ws, k2, p2, _⟩ := I.tuple (SqT.of h2)
        have hs' : sameAll ds es = true := by simpa [same] using hs
        have hsz : us.toArray.size = ws.toArray.size := by
          rw [List.size_toArray, List.size_toArray, ← k1.length, ← k2.length, g1.length, g2.length, sameAll_len hs']
        have el : ∀ j (h1 : j < us.toArray.size) (h2 : j < ws.toArray.size), SeqAt.EqAt A.in1 s us.toArray[j] ws.toArray[j] ((fun _ => true) j) := fun j h1 h2 => by
          have k := eqAt_sameAll I ds es n A.in1 xs ys us ws (by show A.units + 1 + n < cLine; omega) hs' (by simpa [lowD] using hl) g1 g2 k1 k2 j (by simpa using h1) (by simpa using h2)
          simpa using k
        have z1 := SeqAt.RcAt.tuples (A := A) (s := s) (e := fun _ => true) (show s.heap.IsTuple a us.toArray from p1) (show s.heap.IsTuple b ws.toArray from p2) (by omega) el
        have z2 := SeqAt.RcNeAt.tuples (A := A) (s := s) (e := fun _ => true) (show s.heap.IsTuple a us.toArray from p1) (show s.heap.IsTuple b ws.toArray from p2) (by omega) el
        rw [range_all_true, hsz] at z1 z2
        exact ⟨by simpa using z1, by simpa using z2⟩
  | dict kvs => exact absurd (show true = false from hd) (by decide)
end

mutual
theorem dp_of {K : PySem.W.Frag} {H : Hp} : ∀ (n : Nat) (d : D) (v : V), flatD n d = true → Rp K H v d → Dp K H v d
  | _, .none, _, _, h => by cases h; exact .non
  | _, .bool b, _, _, h => by cases h; exact .bl b
  | _, .int b, _, _, h => by cases h; exact .int b
  | _, .str b, _, _, h => by cases h; exact .str b
  | 0, .list ds, _, f, _ => absurd (show false = true from by simpa [flatD] using f) Bool.false_ne_true
  | n + 1, .list ds, _, f, h => by cases h with | lst h1 h2 => exact .lst (SqL.of h1) (dpAll_of n ds _ (by simpa [flatD] using f) h2)
  | 0, .tuple ds, _, f, _ => absurd (show false = true from by simpa [flatD] using f) Bool.false_ne_true
  | n + 1, .tuple ds, _, f, h => by cases h with | tup h1 h2 => exact .tup (SqT.of h1) (dpAll_of n ds _ (by simpa [flatD] using f) h2)
  | _, .dict _, _, f, _ => absurd (show false = true from by simpa [flatD] using f) Bool.false_ne_true
theorem dpAll_of {K : PySem.W.Frag} {H : Hp} : ∀ (n : Nat) (ds : List D) (vs : List V), flatAll n ds = true → RpA K H vs ds → DpAll K H vs ds
  | _, [], _, _, h => by cases h; exact .nil
  | n, d :: ds, _, f, h => by
    unfold flatAll at f
    rw [Bool.and_eq_true] at f
    cases h with
    | cons h1 h2 => exact .cons (dp_of n d _ f.1 h1) (dpAll_of n ds _ f.2 h2)
end
mutual
theorem flat_shape : ∀ (n : Nat) (d : D), flatD n d = true → d.canLay0 = true ∧ d.depth ≤ n
  | _, .none, _ => ⟨by simp [PyData.canLay0], by simp [PyData.depth]⟩
  | _, .bool b, _ => ⟨by simp [PyData.canLay0], by simp [PyData.depth]⟩
  | _, .int b, _ => ⟨by simp [PyData.canLay0], by simp [PyData.depth]⟩
  | _, .str b, h => ⟨by unfold flatD at h; unfold PyData.canLay0 PyData.strOk; exact h, by simp [PyData.depth]⟩
  | 0, .list ds, f => absurd (show false = true from by simpa [flatD] using f) Bool.false_ne_true
  | n + 1, .list ds, f => by
    obtain ⟨a, b⟩ := flat_shapes n ds (by simpa [flatD] using f)
    exact ⟨by simpa [PyData.canLay0] using a, by simpa [PyData.depth] using b⟩
  | 0, .tuple ds, f => absurd (show false = true from by simpa [flatD] using f) Bool.false_ne_true
  | n + 1, .tuple ds, f => by
    obtain ⟨a, b⟩ := flat_shapes n ds (by simpa [flatD] using f)
    exact ⟨by simpa [PyData.canLay0] using a, by simpa [PyData.depth] using b⟩
  | _, .dict _, f => absurd (show false = true from by simpa [flatD] using f) Bool.false_ne_true
theorem flat_shapes : ∀ (n : Nat) (ds : List D), flatAll n ds = true → PyData.canLayAll0 ds = true ∧ PyData.depthAll ds ≤ n
  | _, [], _ => ⟨by simp [PyData.canLayAll0], by simp [PyData.depthAll]⟩
  | n, d :: ds, f => by
    unfold flatAll at f
    rw [Bool.and_eq_true] at f
    obtain ⟨a, b⟩ := flat_shape n d f.1
    obtain ⟨a2, b2⟩ := flat_shapes n ds f.2
    refine ⟨by simp [PyData.canLayAll0, a, a2], ?_⟩
    simp only [PyData.depthAll]
    omega
end
section
variable {X : Cx}
def rEqW (K : PySem.W.Frag) (neg : Bool) : R2 := fun x y H Q => ∃ d e b, Rp K H x d ∧ Rp K H y e ∧ eqD d e = .ok b ∧ Q (.bl (if neg then !b else b)) H
theorem shaped_of {n : Nat} {d : D} (h : flatD n d = true) (hn : n ≤ 64) : SeqAt.shaped d = true := by
  obtain ⟨a, b⟩ := flat_shape n d h
  unfold SeqAt.shaped
  rw [a, Bool.true_and, decide_eq_true (by omega)]
theorem op_eqW (hu : X.A.units + 64 < cLine) : OpR X (compareOp .Eq) (rEqW X.K false) := by
  intro pins s σ H x y v u Q I rx ry h
  obtain ⟨d, e, b, h1, h2, he, q⟩ := h
  unfold eqD at he
  split at he
  · rename_i hc
    simp only [Bool.and_eq_true, Bool.not_eq_true'] at hc
    cases he
    exact (rcAt_same I d e 19 X.A x y v u (by omega) hc.1.1 hc.1.2 hc.2 h1 h2 rx ry).1 _ _ _ _ ⟨.bl true, H, I, rfl, q⟩
  · split at he
    · rename_i hc
      simp only [Bool.and_eq_true] at hc
      cases he
      exact op_eqD hu pins s σ H x y v u Q I rx ry ⟨d, e, dp_of 20 d x hc.1 h1, dp_of 20 e y hc.2 h2, shaped_of hc.1 (by decide), shaped_of hc.2 (by decide), q⟩
    · cases he
theorem op_neW (hu : X.A.units + 64 < cLine) : OpR X (compareOp .NotEq) (rEqW X.K true) := by
  intro pins s σ H x y v u Q I rx ry h
  obtain ⟨d, e, b, h1, h2, he, q⟩ := h
  unfold eqD at he
  split at he
  · rename_i hc
    simp only [Bool.and_eq_true, Bool.not_eq_true'] at hc
    cases he
    exact (rcAt_same I d e 19 X.A x y v u (by omega) hc.1.1 hc.1.2 hc.2 h1 h2 rx ry).2 _ _ _ _ ⟨.bl false, H, I, rfl, q⟩
  · split at he
    · rename_i hc
      simp only [Bool.and_eq_true] at hc
      cases he
      exact op_neD hu pins s σ H x y v u Q I rx ry ⟨d, e, dp_of 20 d x hc.1 h1, dp_of 20 e y hc.2 h2, shaped_of hc.1 (by decide), shaped_of hc.2 (by decide), q⟩
    · cases he
theorem os_eq (hu : X.A.units + 64 < cLine) : OpS X (compareOp .Eq) opEq := by
  refine ops_of _ (op_eqW hu) fun W σ H Hs x y d1 d2 Q s hx hy hp => ?_
  unfold opEq at hp
  cases e : eqD d1 d2 with
  | ok b => rw [e] at hp; exact ⟨d1, d2, b, hx.rp s, hy.rp s, e, hp _ H Hs (Grow.refl s) (.bl _)⟩
  | err c => unfold eqD at e; split at e <;> first | cases e | (split at e <;> cases e)
  | stk => rw [e] at hp; exact (show False from hp).elim
theorem os_ne (hu : X.A.units + 64 < cLine) : OpS X (compareOp .NotEq) opNe := by
  refine ops_of _ (op_neW hu) fun W σ H Hs x y d1 d2 Q s hx hy hp => ?_
  unfold opNe at hp
  cases e : eqD d1 d2 with
  | ok b => rw [e] at hp; exact ⟨d1, d2, b, hx.rp s, hy.rp s, e, hp _ H Hs (Grow.refl s) (.bl _)⟩
  | err c => unfold eqD at e; split at e <;> first | cases e | (split at e <;> cases e)
  | stk => rw [e] at hp; exact (show False from hp).elim
end
end PL

namespace PL
open PySem PySem.Spec PyProof.Rows L2

section
variable {X : Cx} {W : WX} {a b c : Expr} {f g h : EF} {pos p2 : Pos} {es : List Expr} {fs gs : LF}
/-! ### xs[i], xs[lo:hi], xs[::-1] -/
theorem atI_rp {K : PySem.W.Frag} {H : Hp} {vs : List V} {ds : List D} {i : Int} {d : D} (r : RpA K H vs ds) (h : PL.atI ds i = some d) : ∃ v, L2.atI vs i = some v ∧ Rp K H v d := by
  unfold PL.atI at h
  unfold L2.atI
  cases e : PL.ixN ds.length i with
  | none => rw [e] at h; cases h
  | some j =>
    rw [e] at h
    obtain ⟨v, h1, h2⟩ := r.get (show ds[j]? = some d from h)
    refine ⟨v, ?_, h2⟩
    have e' : L2.ixN vs.length i = some j := by rw [r.length]; exact e
    rw [e']
    exact h1
theorem toR_ok {A : Type} {o : Option A} {σ : St} {H Hs : Hp} {B : Type} {Rep : Hp → Hp → Hp → B → A → Prop} {Q : B → Hp → Prop} (h : Post X W σ H Hs Rep (toR o) Q) : ∃ d, o = some d ∧ Post X W σ H Hs Rep (.ok d) Q := by
  cases o with
  | none => exact (show False from h).elim
  | some d => exact ⟨d, rfl, h⟩
theorem ix_post {σ : St} {H Hs : Hp} {x y : V} {d1 d2 : D} {Q : VK} (s : Same Hs H) (hx : Bo X.K H Hs x d1) (hy : Bo X.K H Hs y d2) (hp : Post X W σ H Hs (RepE X.K) (opIx d1 d2) Q) : rIx X.K x y H Q := by
  unfold opIx at hp
  split at hp
  · rename_i xs i
    obtain ⟨d, e, hp⟩ := toR_ok hp
    obtain ⟨p, vs, rfl, h1, r1⟩ := hx.list s
    obtain ⟨v, h2, h3⟩ := atI_rp r1 e
    exact .inl ⟨p, vs, i, v, rfl, hy.int, SqL.of h1, h2, hp v H Hs (Grow.refl s) h3⟩
  · rename_i xs i
    obtain ⟨d, e, hp⟩ := toR_ok hp
    obtain ⟨p, vs, rfl, h1, r1⟩ := hx.tuple s
    obtain ⟨v, h2, h3⟩ := atI_rp r1 e
    exact .inr (.inl ⟨p, vs, i, v, rfl, hy.int, SqT.of h1, h2, hp v H Hs (Grow.refl s) h3⟩)
  · rename_i z i
    split at hp
    · rename_i hz
      cases e : PL.atI z.cps.toList i with
      | none => rw [e] at hp; exact (show False from hp).elim
      | some c =>
        rw [e] at hp
        exact .inr (.inr ⟨z, i, c, hx.str, hy.int, hz, e, hp _ H Hs (Grow.refl s) (.str _)⟩)
    · exact (show False from hp).elim
  · rename_i xs i
    obtain ⟨d, e, hp⟩ := toR_ok hp
    obtain ⟨p, vs, rfl, h1, r1⟩ := Bo.scr (xs := xs) hx s
    obtain ⟨v, h2, h3⟩ := atI_rp r1 e
    exact .inl ⟨p, vs, i, v, rfl, hy.int, h1, h2, hp v H Hs (Grow.refl s) h3⟩
  · exact (show False from hp).elim
theorem ppe_ix (ha : PPB X W a f) (hb : PPE X W b g) (hs : PlainIx b) : PPE X W (.Subscript a b pos) (e2 opIx f g) := by
  obtain ⟨ta, pa, ha⟩ := ha.out
  obtain ⟨tb, pb, hb⟩ := hb.out
  refine ⟨_, pe_ix ix_seq pa pb hs, fun e σ H Hs Q s hp => ?_⟩
  refine ha e σ H Hs _ s (Post.bind hp anE fun d1 x H1 Hs1 _ g1 r1 hp1 => ?_)
  refine hb e σ H1 Hs1 _ (s.grow g1) (Post.bind hp1 anE fun d2 y H2 Hs2 _ g2 r2 hp2 => ?_)
  exact ix_post g2.sub (r1.up g2) (.inl r2) hp2
theorem ppo_none : PPO X W none oN := ⟨_, po_none, fun e σ H Hs Q s hp => hp _ H Hs (Grow.refl s.sub) rfl⟩
theorem ppo_some (ha : PPE X W a f) : PPO X W (some a) (oS f) := by
  obtain ⟨ta, pa, ha⟩ := ha.out
  refine ⟨_, po_some pa, fun e σ H Hs Q s hp => ?_⟩
  refine ha e σ H Hs _ s (Post.bind hp anE fun d1 x H1 Hs1 _ g1 r1 hp1 => ?_)
  cases d1 <;> first
    | exact (show False from hp1).elim
    | skip
  exact ⟨_, r1.int', hp1 _ H1 Hs1 (Grow.refl g1.sub) rfl⟩
theorem cut_rp {K : PySem.W.Frag} {H : Hp} {vs : List V} {ds : List D} {lo hi : Option Int} (r : RpA K H vs ds) : RpA K H (cutV vs lo hi) (cut ds lo hi) := by
  rw [cut_eq]
  unfold cutV
  rw [r.length]
  exact (r.drop _).take _
theorem sl_post {σ : St} {H Hs : Hp} {x : V} {d : D} {lo hi : Option Int} {Q : VK} (s : Same Hs H) (hx : Bo X.K H Hs x d) (hp : Post X W σ H Hs (RepE X.K) (opSl d lo hi) Q) :
    rSlL X.K x lo hi H Q ∨ rSlA X.K x lo hi H Q ∨ rSlS x lo hi H Q := by
  unfold opSl at hp
  split at hp
  · obtain ⟨p, vs, rfl, h1, r1⟩ := hx.list s
    exact .inl ⟨p, vs, rfl, SqL.of h1, fun l hl => hp _ _ _ (Grow.new s hl) (.lst upd_same ((cut_rp r1).up (Grow.new (o := .lst (cutV vs lo hi)) s hl).sh))⟩
  · rename_i xs
    obtain ⟨p, vs, rfl, h1, r1⟩ := hx.tuple s
    refine .inr (.inl ⟨p, vs, rfl, SqT.of h1, fun hw => ?_, fun _ l hl => hp _ _ _ (Grow.new s hl) (.tup upd_same ((cut_rp r1).up (Grow.new (o := .tup (cutV vs lo hi)) s hl).sh))⟩)
    have e : cut xs lo hi = xs := by
      rw [cut_eq, ← r1.length, hw.1, hw.2, List.drop_zero, Nat.sub_zero, r1.length, List.take_length]
    rw [e] at hp
    rcases hx with hx | ⟨_, _, _, _, z, _⟩
    · exact hp _ H Hs (Grow.refl s) hx
    · cases z
  · rename_i z
    split at hp
    · rename_i hz
      refine .inr (.inr ⟨z, hx.str, hz, ?_⟩)
      have e : cutS z lo hi = ⟨(cut z.cps.toList lo hi).toArray⟩ := by
        unfold cutS
        rw [cut_eq]
        rfl
      rw [e]
      exact hp _ H Hs (Grow.refl s) (.str _)
    · exact (show False from hp).elim
  · rename_i xs
    obtain ⟨p, vs, rfl, h1, r1⟩ := Bo.scr (xs := xs) hx s
    exact .inl ⟨p, vs, rfl, h1, fun l hl => hp _ _ _ (Grow.new s hl) (.lst upd_same ((cut_rp r1).up (Grow.new (o := .lst (cutV vs lo hi)) s hl).sh))⟩
  · exact (show False from hp).elim
theorem ppe_sl {lo hi : Option Expr} {l u : Env → R (Option Int)} (ha : PPB X W a f) (hl : PPO X W lo l) (hh : PPO X W hi u) : PPE X W (.Subscript a (.Slice lo hi none p2) pos) (eSl f l u) := by
  obtain ⟨ta, pa, ha⟩ := ha.out
  obtain ⟨tl, pl, hl⟩ := hl.out
  obtain ⟨th, ph, hh⟩ := hh.out
  refine ⟨_, pe_slice (sl_list.or (sl_tupA.or sl_str)) pa pl ph, fun e σ H Hs Q s hp => ?_⟩
  refine ha e σ H Hs _ s (Post.bind hp anE fun d1 x H1 Hs1 _ g1 r1 hp1 => ?_)
  refine hl e σ H1 Hs1 _ (s.grow g1) (Post.bind hp1 anE fun d2 y H2 Hs2 _ g2 r2 hp2 => ?_)
  subst r2
  refine hh e σ H2 Hs2 _ (s.grow (g1.trans g2)) (Post.bind hp2 anE fun d3 z H3 Hs3 _ g3 r3 hp3 => ?_)
  subst r3
  exact sl_post g3.sub ((r1.up g2).up g3) hp3
theorem ppe_rev {k : Nat} {p1 p3 p4 : Pos} (ha : PPB X W a f) : PPE X W (.Subscript a (.Slice none none (some (.UnaryOp .USub (.Constant (.int 1) k p1) p3)) p4) pos) (e1 opRev f) := by
  obtain ⟨ta, pa, ha⟩ := ha.out
  refine ⟨_, pe_revL pa, fun e σ H Hs Q s hp => ?_⟩
  refine ha e σ H Hs _ s (Post.bind hp anE fun d1 x H1 Hs1 _ g1 r1 hp1 => ?_)
  cases d1 <;> first
    | exact (show False from hp1).elim
    | skip
  obtain ⟨p, vs, rfl, h1, r1⟩ := r1.list g1.sub
  exact ⟨p, vs, rfl, SqL.of h1, fun l hl => hp1 _ _ _ (Grow.new g1.sub hl) (.lst upd_same (r1.reverse.up (Grow.new (o := .lst vs.reverse) g1.sub hl).sh))⟩

/-! ### arguments and displays -/
theorem ppa_nil : PPA X W [] aN := ⟨⟨_, pa_nil, fun e σ H Hs Q s hp => hp _ H Hs (Grow.refl s.sub) .nil⟩, fun e ds h => by cases h; rfl⟩
theorem ppa_cons (ha : PPE X W a f) (hr : PPA X W es fs) (hs : starEach (a :: es) X.env = (false, eval a X.env) :: starEach es X.env := by rfl) : PPA X W (a :: es) (aC f fs) := by
  obtain ⟨ta, pa, ha⟩ := ha.out
  obtain ⟨⟨tr, pr, hr⟩, hl⟩ := hr
  refine ⟨⟨_, pa_cons pa pr hs, fun e σ H Hs Q s hp => ?_⟩, fun e ds h => ?_⟩
  · refine ha e σ H Hs _ s (Post.bind hp anE fun d1 x H1 Hs1 _ g1 r1 hp1 => ?_)
    refine hr e σ H1 Hs1 _ (s.grow g1) (Post.bind hp1 anE fun d2 y H2 Hs2 _ g2 r2 hp2 => ?_)
    exact hp2 _ H2 Hs2 (Grow.refl g2.sub) (.cons (r1.up g2.sh) r2)
  · unfold aC at h
    cases e1 : f e with
    | ok d =>
      rw [e1] at h
      cases e2 : fs e with
      | ok ds' =>
        rw [R.bind_ok, e2] at h
        cases h
        rw [List.length_cons, List.length_cons, hl e ds' e2]
      | err c => rw [R.bind_ok, e2] at h; cases h
      | stk => rw [R.bind_ok, e2] at h; cases h
    | err c => rw [e1] at h; cases h
    | stk => rw [e1] at h; cases h
theorem ppba_nil : PPBA X W [] aN := ⟨_, pa_nil, fun e σ H Hs Q s hp => hp _ H Hs (Grow.refl s.sub) .nil⟩
theorem ppba_cons (ha : PPB X W a f) (hr : PPBA X W es fs) (hs : starEach (a :: es) X.env = (false, eval a X.env) :: starEach es X.env := by rfl) : PPBA X W (a :: es) (aC f fs) := by
  obtain ⟨ta, pa, ha⟩ := ha.out
  obtain ⟨tr, pr, hr⟩ := hr.out
  refine ⟨_, pa_cons pa pr hs, fun e σ H Hs Q s hp => ?_⟩
  refine ha e σ H Hs _ s (Post.bind hp anE fun d1 x H1 Hs1 _ g1 r1 hp1 => ?_)
  refine hr e σ H1 Hs1 _ (s.grow g1) (Post.bind hp1 anE fun d2 y H2 Hs2 _ g2 r2 hp2 => ?_)
  exact hp2 _ H2 Hs2 (Grow.refl g2.sub) (.cons (r1.up g2) r2)
theorem ppe_list (ha : PPA X W es fs) (hz : es.length ≤ sizeLine := by decide) : PPE X W (.List es pos) (eL fs) := by
  obtain ⟨⟨ta, pa, ha⟩, hl⟩ := ha
  refine ⟨_, pe_lst pa, fun e σ H Hs Q s hp => ?_⟩
  refine ha e σ H Hs _ s (Post.bind hp anE fun d1 x H1 Hs1 he g1 r1 hp1 => ?_)
  exact ⟨by rw [r1.length, hl _ _ he]; exact hz, fun l nl => hp1 _ _ _ (Grow.new g1.sub nl) (.lst upd_same (r1.up (Grow.new (o := .lst x) g1.sub nl).sh))⟩
theorem ppf_list (ha : PPA X W es fs) (hz : es.length ≤ sizeLine := by decide) : PPF X W (.List es pos) fs := by
  obtain ⟨⟨ta, pa, ha⟩, hl⟩ := ha
  refine ⟨_, pe_lst pa, fun e σ H Hs Q s hp => ?_⟩
  have hp' : Post X W σ H Hs (RepF X.K) ((fs e).bind .ok) Q := by
    cases e1 : fs e with
    | ok a => rw [e1] at hp; exact hp
    | err c => rw [e1] at hp; exact hp
    | stk => rw [e1] at hp; exact hp
  refine ha e σ H Hs _ s (Post.bind (Rep2 := RepF X.K) hp' (fun H1 s1 H' Hs' v xs ⟨p, vs, h1, h2, h3⟩ => ⟨p, vs, h1, s1.free h2, h3⟩) fun d1 x H1 Hs1 he g1 r1 hp1 => ?_)
  refine ⟨by rw [r1.length, hl _ _ he]; exact hz, fun l nl => hp1 _ _ _ (Grow.gar g1.sub nl) ⟨l, x, rfl, nl, upd_same, g1.sub.free nl, r1⟩⟩
theorem ppe_tup {x1} (ha : PPA X W es fs) (hz : es.length ≤ sizeLine := by decide) : PPE X W (.Tuple es x1 pos) (eT fs) := by
  obtain ⟨⟨ta, pa, ha⟩, hl⟩ := ha
  refine ⟨_, pe_tup pa, fun e σ H Hs Q s hp => ?_⟩
  refine ha e σ H Hs _ s (Post.bind hp anE fun d1 x H1 Hs1 he g1 r1 hp1 => ?_)
  exact ⟨by rw [r1.length, hl _ _ he]; exact hz, fun l nl => hp1 _ _ _ (Grow.new g1.sub nl) (.tup upd_same (r1.up (Grow.new (o := .tup x) g1.sub nl).sh))⟩
theorem ppe_dic : PPE X W (.Dict [] [] pos) (eK (.dict [])) :=
  ⟨_, pe_dnewK, fun e σ H Hs Q s hp d hd => hp _ _ _ (Grow.new s.sub hd) (.dic upd_same)⟩

/-! ### calls -/
variable {x : Str} {p : Pos} {id T : String} {m : List D → R D}
theorem ppe_callB (hc : CaS X (.builtin id) m) (hm : X.mg x = none) (hv : bootBuiltins x = some (.builtin id)) (ha : PPBA X W (a :: es) fs) (hg : Gl X x := by rfl) (hn : x ≠ "__name__" := by decide) (hdb : (x == ("__debug__" : Str)) = false := by decide)
    (he : starEach (a :: es) X.env = (false, eval a X.env) :: starEach es X.env := by rfl) (hpl : (backTo pos (starEach es X.env)).any (·.1) = false := by rfl) : PPE X W (.Call (.Name x p) (a :: es) [] pos) (eC m fs) := by
  obtain ⟨ta, pa, ha⟩ := ha.out
  obtain ⟨r, hc, hr⟩ := hc
  refine ⟨_, pe_callB hc hg hm hv pa hn hdb he hpl, fun e σ H Hs Q s hp => ?_⟩
  refine ha e σ H Hs _ s (Post.bind hp anE fun d1 x H1 Hs1 _ g1 r1 hp1 => ?_)
  exact hr W σ H1 Hs1 x d1 Q g1.sub r1 hp1
theorem ppe_callTy (hc : CaS X (.type T) m) (hm : X.mg x = none) (hv : bootBuiltins x = some (.type T)) (ha : PPBA X W (a :: es) fs) (hg : Gl X x := by rfl) (hn : x ≠ "__name__" := by decide) (hdb : (x == ("__debug__" : Str)) = false := by decide)
    (he : starEach (a :: es) X.env = (false, eval a X.env) :: starEach es X.env := by rfl) (hpl : (backTo pos (starEach es X.env)).any (·.1) = false := by rfl) : PPE X W (.Call (.Name x p) (a :: es) [] pos) (eC m fs) := by
  obtain ⟨ta, pa, ha⟩ := ha.out
  obtain ⟨r, hc, hr⟩ := hc
  refine ⟨_, pe_callTy hc hg hm hv pa hn hdb he hpl, fun e σ H Hs Q s hp => ?_⟩
  refine ha e σ H Hs _ s (Post.bind hp anE fun d1 x H1 Hs1 _ g1 r1 hp1 => ?_)
  exact hr W σ H1 Hs1 x d1 Q g1.sub r1 hp1
theorem boA1 {K : PySem.W.Frag} {H Hs : Hp} {xs : List V} {d : D} (h : BoA K H Hs xs [d]) : ∃ v, xs = [v] ∧ Bo K H Hs v d := by
  cases h with | cons h1 h2 => cases h2; exact ⟨_, rfl, h1⟩
theorem boA2 {K : PySem.W.Frag} {H Hs : Hp} {xs : List V} {d e : D} (h : BoA K H Hs xs [d, e]) : ∃ v w, xs = [v, w] ∧ Bo K H Hs v d ∧ Bo K H Hs w e := by
  cases h with | cons h1 h2 => cases h2 with | cons h3 h4 => cases h4; exact ⟨_, _, rfl, h1, h3⟩
theorem cs_len : CaS X (.builtin "len") bLen := by
  refine ⟨_, call_len, fun W σ H Hs xs ds Q s hx hp => ?_⟩
  unfold bLen at hp
  split at hp
  · obtain ⟨v, rfl, hv⟩ := boA1 hx
    obtain ⟨p, vs, rfl, h1, r1⟩ := hv.list s
    exact ⟨_, vs.length, rfl, .inl ⟨vs, SqL.of h1, rfl⟩, by rw [r1.length]; exact hp _ H Hs (Grow.refl s) (.int _)⟩
  · obtain ⟨v, rfl, hv⟩ := boA1 hx
    obtain ⟨p, vs, rfl, h1, r1⟩ := hv.tuple s
    exact ⟨_, vs.length, rfl, .inr ⟨vs, SqT.of h1, rfl⟩, by rw [r1.length]; exact hp _ H Hs (Grow.refl s) (.int _)⟩
  · rename_i z
    split at hp
    · rename_i hz
      obtain ⟨v, rfl, hv⟩ := boA1 hx
      have e := hv.str
      subst e
      exact ⟨_, z.length, rfl, ⟨hz, rfl⟩, hp _ H Hs (Grow.refl s) (.int _)⟩
    · exact (show False from hp).elim
  · rename_i ys
    obtain ⟨v, rfl, hv⟩ := boA1 hx
    obtain ⟨p, vs, rfl, h1, r1⟩ := Bo.scr (xs := ys) hv s
    exact ⟨_, vs.length, rfl, .inl ⟨vs, h1, rfl⟩, by rw [r1.length]; exact hp _ H Hs (Grow.refl s) (.int _)⟩
  · exact (show False from hp).elim
theorem cs_int : CaS X (.type "int") bInt := by
  refine ⟨_, call_int1, fun W σ H Hs xs ds Q s hx hp => ?_⟩
  unfold bInt at hp
  split at hp
  · obtain ⟨v, rfl, hv⟩ := boA1 hx
    exact .inl ⟨_, by rw [hv.int], hp _ H Hs (Grow.refl s) (.int _)⟩
  · obtain ⟨v, rfl, hv⟩ := boA1 hx
    exact .inr ⟨_, by rw [hv.bool], hp _ H Hs (Grow.refl s) (.int _)⟩
  · exact (show False from hp).elim
theorem cs_abs : CaS X (.builtin "abs") bAbs := by
  refine ⟨_, call_abs, fun W σ H Hs xs ds Q s hx hp => ?_⟩
  unfold bAbs at hp
  split at hp
  · obtain ⟨v, rfl, hv⟩ := boA1 hx
    exact ⟨_, by rw [hv.int], hp _ H Hs (Grow.refl s) (.int _)⟩
  · exact (show False from hp).elim
theorem cs_max2 (hc : X.calm = true) : CaS X (.builtin "max") bMax2 := by
  refine ⟨_, call_max2 hc, fun W σ H Hs xs ds Q s hx hp => ?_⟩
  unfold bMax2 at hp
  split at hp
  · obtain ⟨v, w, rfl, hv, hw⟩ := boA2 hx
    exact ⟨_, _, by rw [hv.int, hw.int], hp _ H Hs (Grow.refl s) (.int _)⟩
  · exact (show False from hp).elim
theorem cs_min2 (hc : X.calm = true) : CaS X (.builtin "min") bMin2 := by
  refine ⟨_, call_min2 hc, fun W σ H Hs xs ds Q s hx hp => ?_⟩
  unfold bMin2 at hp
  split at hp
  · obtain ⟨v, w, rfl, hv, hw⟩ := boA2 hx
    exact ⟨_, _, by rw [hv.int, hw.int], hp _ H Hs (Grow.refl s) (.int _)⟩
  · exact (show False from hp).elim
theorem asIs_eq : ∀ {ds : List D} {ns : List Int}, asIs ds = .ok ns → ds = ns.map .int
  | [], ns, h => by cases h; rfl
  | .int i :: r, ns, h => by
    unfold asIs at h
    cases e : asIs r with
    | ok is => rw [e] at h; cases h; rw [asIs_eq e]; rfl
    | err c => rw [e] at h; cases h
    | stk => rw [e] at h; cases h
  | .none :: _, _, h => nomatch h
  | .bool _ :: _, _, h => nomatch h
  | .str _ :: _, _, h => nomatch h
  | .list _ :: _, _, h => nomatch h
  | .tuple _ :: _, _, h => nomatch h
  | .dict _ :: _, _, h => nomatch h
theorem asBs_eq : ∀ {ds : List D} {ns : List Bool}, asBs ds = .ok ns → ds = ns.map .bool
  | [], ns, h => by cases h; rfl
  | .bool i :: r, ns, h => by
    unfold asBs at h
    cases e : asBs r with
    | ok is => rw [e] at h; cases h; rw [asBs_eq e]; rfl
    | err c => rw [e] at h; cases h
    | stk => rw [e] at h; cases h
  | .none :: _, _, h => nomatch h
  | .int _ :: _, _, h => nomatch h
  | .str _ :: _, _, h => nomatch h
  | .list _ :: _, _, h => nomatch h
  | .tuple _ :: _, _, h => nomatch h
  | .dict _ :: _, _, h => nomatch h
theorem rp_ints {K : PySem.W.Frag} {H : Hp} : ∀ {ns : List Int} {vs : List V}, RpA K H vs (ns.map .int) → vs = ns.map V.int
  | [], _, h => by cases h; rfl
  | _ :: _, _, h => by cases h with | cons h1 h2 => rw [h1.int', rp_ints h2]; rfl
theorem rp_bools {K : PySem.W.Frag} {H : Hp} : ∀ {ns : List Bool} {vs : List V}, RpA K H vs (ns.map .bool) → vs = ns.map V.bl
  | [], _, h => by cases h; rfl
  | _ :: _, _, h => by cases h with | cons h1 h2 => rw [h1.bool', rp_bools h2]; rfl
theorem ints_post {σ : St} {H Hs : Hp} {ds : List D} {A B : Type} {Rep : Hp → Hp → Hp → B → A → Prop} {Q : B → Hp → Prop} {k : List Int → R A} (hp : Post X W σ H Hs Rep ((asIs ds).bind k) Q) : ∃ ns, ds = ns.map .int ∧ Post X W σ H Hs Rep (k ns) Q := by
  have no : ∀ (l : List D) (c : Str), asIs l ≠ .err c := fun l => by
    induction l with
    | nil => intro c h; cases h
    | cons d r ih =>
      intro c h
      cases d <;> first | (cases h; done) | skip
      unfold asIs at h
      cases e : asIs r with
      | ok is => rw [e] at h; cases h
      | err c' => exact ih c' e
      | stk => rw [e] at h; cases h
  cases e : asIs ds with
  | ok ns => rw [e] at hp; exact ⟨ns, asIs_eq e, hp⟩
  | err c => exact absurd e (no ds c)
  | stk => rw [e] at hp; exact (show False from hp).elim
theorem bools_post {σ : St} {H Hs : Hp} {ds : List D} {A B : Type} {Rep : Hp → Hp → Hp → B → A → Prop} {Q : B → Hp → Prop} {k : List Bool → R A} (hp : Post X W σ H Hs Rep ((asBs ds).bind k) Q) : ∃ ns, ds = ns.map .bool ∧ Post X W σ H Hs Rep (k ns) Q := by
  have no : ∀ (l : List D) (c : Str), asBs l ≠ .err c := fun l => by
    induction l with
    | nil => intro c h; cases h
    | cons d r ih =>
      intro c h
      cases d <;> first | (cases h; done) | skip
      unfold asBs at h
      cases e : asBs r with
      | ok is => rw [e] at h; cases h
      | err c' => exact ih c' e
      | stk => rw [e] at h; cases h
  cases e : asBs ds with
  | ok ns => rw [e] at hp; exact ⟨ns, asBs_eq e, hp⟩
  | err c => exact absurd e (no ds c)
  | stk => rw [e] at hp; exact (show False from hp).elim
theorem cs_sum (hc : X.calm = true) : CaS X (.builtin "sum") bSum := by
  refine ⟨_, cr_sum hc, fun W σ H Hs xs ds Q s hx hp => ?_⟩
  unfold bSum at hp
  split at hp
  · obtain ⟨v, rfl, hv⟩ := boA1 hx
    obtain ⟨ns, rfl, hq⟩ := ints_post hp
    obtain ⟨p, vs, rfl, h1, r1⟩ := hv.list s
    have e := rp_ints r1
    subst e
    exact ⟨p, ns, rfl, SqL.of h1, hq _ H Hs (Grow.refl s) (.int _)⟩
  · exact (show False from hp).elim
theorem cs_all (hc : X.calm = true) : CaS X (.builtin "all") bAll := by
  refine ⟨_, cr_all hc, fun W σ H Hs xs ds Q s hx hp => ?_⟩
  unfold bAll at hp
  split at hp
  · obtain ⟨v, rfl, hv⟩ := boA1 hx
    obtain ⟨ns, rfl, hq⟩ := bools_post hp
    obtain ⟨p, vs, rfl, h1, r1⟩ := hv.list s
    have e := rp_bools r1
    subst e
    exact ⟨p, ns, rfl, SqL.of h1, hq _ H Hs (Grow.refl s) (.bl _)⟩
  · exact (show False from hp).elim
theorem foldl_max : ∀ (r : List Int) (x : Int), (r.foldl (fun a b => if b > a then b else a) x = x ∨ r.foldl (fun a b => if b > a then b else a) x ∈ r) ∧ x ≤ r.foldl (fun a b => if b > a then b else a) x ∧ ∀ y ∈ r, y ≤ r.foldl (fun a b => if b > a then b else a) x
  | [], x => ⟨.inl rfl, Int.le_refl _, fun y h => nomatch h⟩
  | z :: r, x => by
    obtain ⟨h1, h2, h3⟩ := foldl_max r (if z > x then z else x)
    rw [List.foldl_cons]
    by_cases hz : z > x
    · rw [if_pos hz] at h1 h2 h3 ⊢
      refine ⟨.inr ?_, by omega, fun y hy => ?_⟩
      · rcases h1 with h1 | h1
        · rw [h1]; exact List.mem_cons_self
        · exact List.mem_cons_of_mem _ h1
      · rcases List.mem_cons.mp hy with e | hy
        · rw [e]; exact h2
        · exact h3 y hy
    · rw [if_neg hz] at h1 h2 h3 ⊢
      refine ⟨?_, h2, fun y hy => ?_⟩
      · rcases h1 with h1 | h1
        · exact .inl h1
        · exact .inr (List.mem_cons_of_mem _ h1)
      · rcases List.mem_cons.mp hy with e | hy
        · rw [e]; omega
        · exact h3 y hy
theorem foldl_min : ∀ (r : List Int) (x : Int), (r.foldl (fun a b => if b < a then b else a) x = x ∨ r.foldl (fun a b => if b < a then b else a) x ∈ r) ∧ r.foldl (fun a b => if b < a then b else a) x ≤ x ∧ ∀ y ∈ r, r.foldl (fun a b => if b < a then b else a) x ≤ y
  | [], x => ⟨.inl rfl, Int.le_refl _, fun y h => nomatch h⟩
  | z :: r, x => by
    obtain ⟨h1, h2, h3⟩ := foldl_min r (if z < x then z else x)
    rw [List.foldl_cons]
    by_cases hz : z < x
    · rw [if_pos hz] at h1 h2 h3 ⊢
      refine ⟨.inr ?_, by omega, fun y hy => ?_⟩
      · rcases h1 with h1 | h1
        · rw [h1]; exact List.mem_cons_self
        · exact List.mem_cons_of_mem _ h1
      · rcases List.mem_cons.mp hy with e | hy
        · rw [e]; exact h2
        · exact h3 y hy
    · rw [if_neg hz] at h1 h2 h3 ⊢
      refine ⟨?_, h2, fun y hy => ?_⟩
      · rcases h1 with h1 | h1
        · exact .inl h1
        · exact .inr (List.mem_cons_of_mem _ h1)
      · rcases List.mem_cons.mp hy with e | hy
        · rw [e]; omega
        · exact h3 y hy
theorem maxL_ok {ns : List Int} {m : Int} (h : maxL ns = some m) : 0 < ns.length ∧ m ∈ ns ∧ ∀ y ∈ ns, y ≤ m := by
  cases ns with
  | nil => cases h
  | cons x r =>
    obtain ⟨h1, h2, h3⟩ := foldl_max r x
    have e : r.foldl (fun a b => if b > a then b else a) x = m := Option.some.inj h
    rw [e] at h1 h2 h3
    refine ⟨Nat.succ_pos _, ?_, fun y hy => ?_⟩
    · rcases h1 with h1 | h1
      · rw [h1]; exact List.mem_cons_self
      · exact List.mem_cons_of_mem _ h1
    · rcases List.mem_cons.mp hy with q | hy
      · rw [q]; exact h2
      · exact h3 y hy
theorem minL_ok {ns : List Int} {m : Int} (h : minL ns = some m) : 0 < ns.length ∧ m ∈ ns ∧ ∀ y ∈ ns, m ≤ y := by
  cases ns with
  | nil => cases h
  | cons x r =>
    obtain ⟨h1, h2, h3⟩ := foldl_min r x
    have e : r.foldl (fun a b => if b < a then b else a) x = m := Option.some.inj h
    rw [e] at h1 h2 h3
    refine ⟨Nat.succ_pos _, ?_, fun y hy => ?_⟩
    · rcases h1 with h1 | h1
      · rw [h1]; exact List.mem_cons_self
      · exact List.mem_cons_of_mem _ h1
    · rcases List.mem_cons.mp hy with q | hy
      · rw [q]; exact h2
      · exact h3 y hy
theorem cs_maxL (hc : X.calm = true) : CaS X (.builtin "max") bMaxL := by
  refine ⟨_, cr_max hc, fun W σ H Hs xs ds Q s hx hp => ?_⟩
  unfold bMaxL at hp
  split at hp
  · obtain ⟨v, rfl, hv⟩ := boA1 hx
    obtain ⟨ns, rfl, hq⟩ := ints_post hp
    cases e : maxL ns with
    | none => rw [e] at hq; exact (show False from hq).elim
    | some m =>
      rw [e] at hq
      obtain ⟨p, vs, rfl, h1, r1⟩ := hv.list s
      have e2 := rp_ints r1
      subst e2
      obtain ⟨k1, k2, k3⟩ := maxL_ok e
      refine ⟨p, ns, rfl, SqL.of h1, k1, fun z hz hle => ?_⟩
      have ez : z = m := Int.le_antisymm (k3 z hz) (hle m k2)
      subst ez
      exact hq _ H Hs (Grow.refl s) (.int _)
  · exact (show False from hp).elim
theorem cs_minL (hc : X.calm = true) : CaS X (.builtin "min") bMinL := by
  refine ⟨_, cr_min hc, fun W σ H Hs xs ds Q s hx hp => ?_⟩
  unfold bMinL at hp
  split at hp
  · obtain ⟨v, rfl, hv⟩ := boA1 hx
    obtain ⟨ns, rfl, hq⟩ := ints_post hp
    cases e : minL ns with
    | none => rw [e] at hq; exact (show False from hq).elim
    | some m =>
      rw [e] at hq
      obtain ⟨p, vs, rfl, h1, r1⟩ := hv.list s
      have e2 := rp_ints r1
      subst e2
      obtain ⟨k1, k2, k3⟩ := minL_ok e
      refine ⟨p, ns, rfl, SqL.of h1, k1, fun z hz hle => ?_⟩
      have ez : z = m := Int.le_antisymm (hle m k2) (k3 z hz)
      subst ez
      exact hq _ H Hs (Grow.refl s) (.int _)
  · exact (show False from hp).elim
theorem cs_list : CaS X (.type "list") bList := by
  refine ⟨_, call_list_of, fun W σ H Hs xs ds Q s hx hp => ?_⟩
  unfold bList at hp
  split at hp
  · obtain ⟨v, rfl, hv⟩ := boA1 hx
    obtain ⟨p, vs, rfl, h1, r1⟩ := hv.list s
    exact ⟨p, vs, rfl, .inl (SqL.of h1), fun l hl => hp _ _ _ (Grow.new s hl) (.lst upd_same (r1.up (Grow.new (o := .lst vs) s hl).sh))⟩
  · obtain ⟨v, rfl, hv⟩ := boA1 hx
    obtain ⟨p, vs, rfl, h1, r1⟩ := hv.tuple s
    exact ⟨p, vs, rfl, .inr (SqT.of h1), fun l hl => hp _ _ _ (Grow.new s hl) (.lst upd_same (r1.up (Grow.new (o := .lst vs) s hl).sh))⟩
  · exact (show False from hp).elim
theorem cs_tup : CaS X (.type "tuple") bTup := by
  refine ⟨_, call_tuple_of, fun W σ H Hs xs ds Q s hx hp => ?_⟩
  unfold bTup at hp
  split at hp
  · obtain ⟨v, rfl, hv⟩ := boA1 hx
    obtain ⟨p, vs, rfl, h1, r1⟩ := hv.list s
    exact ⟨p, vs, rfl, .inl ⟨SqL.of h1, fun l hl => hp _ _ _ (Grow.new s hl) (.tup upd_same (r1.up (Grow.new (o := .tup vs) s hl).sh))⟩⟩
  · obtain ⟨v, rfl, hv⟩ := boA1 hx
    obtain ⟨p, vs, rfl, h1, r1⟩ := hv.tuple s
    refine ⟨p, vs, rfl, .inr ⟨SqT.of h1, ?_⟩⟩
    rcases hv with hx | ⟨_, _, _, _, z, _⟩
    · exact hp _ H Hs (Grow.refl s) hx
    · cases z
  · exact (show False from hp).elim
end
end PL

namespace PL
open PySem PySem.Spec PyProof.Rows L2

section
variable {X : Cx} {W : WX} {a b c : Expr} {f g h : EF} {pos p2 : Pos} {es : List Expr} {fs gs : LF} {x : Str} {p : Pos}
/-! ### isinstance with a built-in class -/
def kindN : D → String
  | .none => "NoneType" | .bool _ => "bool" | .int _ => "int" | .str _ => "str" | .list _ => "list" | .tuple _ => "tuple" | .dict _ => "dict"
def tyN : Ty → String | .int => "int" | .bool => "bool" | .str => "str" | .list => "list" | .tuple => "tuple"
theorem kit_tab : ∀ n ∈ ["NoneType", "bool", "int", "str", "list", "tuple", "dict"], ∀ t ∈ [Ty.int, .bool, .str, .list, .tuple], kitB n (tyN t) = some (match n, t with
    | "int", .int => true | "bool", .int => true | "bool", .bool => true | "str", .str => true | "list", .list => true | "tuple", .tuple => true | _, _ => false) := by decide +kernel
theorem kit_D (d : D) (t : Ty) : kitB (kindN d) (tyN t) = some (isTy t d) := by
  have h := kit_tab (kindN d) (by cases d <;> simp [kindN]) t (by cases t <;> simp)
  rw [h]
  cases d <;> cases t <;> rfl
theorem tyX_D {K : PySem.W.Frag} {H : Hp} {v : V} {d : D} (h : Rp K H v d) (hs : isScr d = false) : TyX K H v (.type (kindN d)) := by
  cases h with
  | non => exact .base .non
  | bl b => exact .base (.bl b)
  | int i => exact .base (.int i)
  | str s => exact .base (.str s)
  | lst h1 _ => exact .base (.lst h1)
  | tup h1 _ => exact .base (.tup h1)
  | dic h1 => exact .base (.dK h1)
  | scr _ _ => exact absurd (show true = false from hs) (by decide)
  | adr _ => exact absurd (show true = false from hs) (by decide)
theorem ppe_isi (t : Ty) {T : Str} {pT : Pos} (ha : PPB X W a f) (hm : X.mg x = none) (hv : bootBuiltins x = some (.builtin "isinstance")) (hmT : X.mg T = none) (hvT : bootBuiltins T = some (.type (tyN t)))
    (hg : Gl X x := by rfl) (hgT : Gl X T := by rfl) (hn : x ≠ "__name__" := by decide) (hdb : (x == ("__debug__" : Str)) = false := by decide) (hnT : T ≠ "__name__" := by decide) (hdbT : (T == ("__debug__" : Str)) = false := by decide)
    (he : starEach [a, .Name T pT] X.env = (false, eval a X.env) :: starEach [.Name T pT] X.env := by rfl) (he2 : starEach [.Name T pT] X.env = (false, eval (.Name T pT) X.env) :: starEach [] X.env := by rfl)
    (hpl : (backTo pos (starEach [.Name T pT] X.env)).any (·.1) = false := by rfl) : PPE X W (.Call (.Name x p) [a, .Name T pT] [] pos) (eC (bIsi t) (aC f aN)) := by
  obtain ⟨ta, pa, ha⟩ := ha.out
  refine ⟨_, pe_callB call_isi hg hm hv (pa_cons pa (pa_cons (pe_bltn hgT hmT hvT (v := .ty (tyN t)) rfl hnT hdbT) pa_nil he2) he) hn hdb he hpl, fun e σ H Hs Q s hp => ?_⟩
  have hp' : Post X W σ H Hs (RepE X.K) ((f e).bind fun d => bIsi t [d]) Q := by
    unfold eC aC aN at hp
    cases e1 : f e with
    | ok d => rw [e1] at hp; exact hp
    | err c => rw [e1] at hp; exact hp
    | stk => rw [e1] at hp; exact hp
  refine ha e σ H Hs _ s (Post.bind hp' anE fun d1 v H1 Hs1 _ g1 r1 hp1 => ?_)
  unfold bIsi at hp1
  dsimp only at hp1
  split at hp1
  · exact (show False from hp1).elim
  · rename_i hns
    have hns' : isScr d1 = false := by simpa using hns
    exact ⟨v, .ty (tyN t), .type (kindN d1), .type (tyN t), isTy t d1, rfl, .ty _, tyX_D (r1.rp g1.sub) hns', kit_ty (kit_D d1 t), hp1 _ H1 Hs1 (Grow.refl g1.sub) (.bl _)⟩

/-! ### a def's promise -/
/-- called with values that stand for data ds it answers m ds; all that stood stands; what comes back is apart from what the caller keeps for itself -/
def pureSp (K : PySem.W.Frag) (mg : Str → Option Value) (n : Nat) (m : List D → R D) : Sp := fun vs H Q E => ∃ Hs ds, Same Hs H ∧ RpA K Hs vs ds ∧ ds.length = n ∧
  (match m ds with
    | .ok d => ∀ v H' Hs', Grow H Hs H' Hs' → Rp K Hs' v d → Q v H'
    | .err c => ∀ H', Same H H' → E (clsV mg c) none H'
    | .stk => False)
abbrev FnP (P : Program) (w : World) (K : PySem.W.Frag) (mg : Str → Option Value) (base : Heap) (k : Nat) (f : Addr) (fd : FuncData) (ps : List Str) (m : List D → R D) : Prop :=
  FnOk P w K mg base (L2.CX P w) k f fd ps (pureSp K mg ps.length m)
variable {k : Nat} {fa : Addr} {fd : FuncData} {ps : List Str} {m : List D → R D}
theorem aC_len {e : Env} {ds : List D} (ha : PPA X W es fs) (h : fs e = .ok ds) : ds.length = es.length := ha.len e ds h
theorem ppe_call (F : FnP X.prog X.w X.K X.mg X.base k fa fd ps m) (hr : Room k X.A) (hm : X.mg x = some (.ref fa)) (hk : PySem.W.keepIn X.K (.ref fa) = true) (hb : Binds X.K fd ps []) (tk : Takes X W) (ha : PPA X W (a :: es) fs)
    (hl : (a :: es).length = ps.length := by rfl) (hg : Gl X x := by rfl) (hdb : (x == ("__debug__" : Str)) = false := by decide)
    (he : starEach (a :: es) X.env = (false, eval a X.env) :: starEach es X.env := by rfl) (hpl : (backTo pos (starEach es X.env)).any (·.1) = false := by rfl) : PPE X W (.Call (.Name x p) (a :: es) [] pos) (eC m fs) := by
  have hA := ha
  obtain ⟨⟨ta, pa, ha⟩, _⟩ := ha
  refine ⟨_, pe_callS F hr hg hm hk hb (passAt tk) pa hdb he hpl, fun e σ H Hs Q s hp => ?_⟩
  refine ha e σ H Hs _ s (Post.bind hp anE fun d1 vs H1 Hs1 hd g1 r1 hp1 => ?_)
  refine ⟨Hs1, d1, g1.sub, r1, by rw [hA.len e d1 hd]; exact hl, ?_⟩
  cases e2 : m d1 with
  | ok d => rw [e2] at hp1; exact hp1
  | err c => rw [e2] at hp1; exact hp1
  | stk => rw [e2] at hp1; exact hp1
/-- lists of our own may be looked at by the def that is called, where a scalar comes back -/
theorem ppe_callL (F : FnP X.prog X.w X.K X.mg X.base k fa fd ps m) (hr : Room k X.A) (hm : X.mg x = some (.ref fa)) (hk : PySem.W.keepIn X.K (.ref fa) = true) (hb : Binds X.K fd ps []) (tk : Takes X W) (ha : PPBA X W (a :: es) fs) (hn : ∀ e ds, fs e = .ok ds → ds.length = ps.length)
    (hg : Gl X x := by rfl) (hdb : (x == ("__debug__" : Str)) = false := by decide)
    (he : starEach (a :: es) X.env = (false, eval a X.env) :: starEach es X.env := by rfl) (hpl : (backTo pos (starEach es X.env)).any (·.1) = false := by rfl) : PPE X W (.Call (.Name x p) (a :: es) [] pos) (eCb m fs) := by
  obtain ⟨ta, pa, ha⟩ := ha.out
  refine ⟨_, pe_callS F hr hg hm hk hb (passAt tk) pa hdb he hpl, fun e σ H Hs Q s hp => ?_⟩
  refine ha e σ H Hs _ s (Post.bind hp anE fun d1 vs H1 Hs1 hd g1 r1 hp1 => ?_)
  refine ⟨H1, d1, Same.refl _, r1.rp g1.sub, hn e d1 hd, ?_⟩
  unfold scal at hp1
  cases e2 : m d1 with
  | ok d =>
    rw [e2] at hp1
    dsimp only [R.bind] at hp1
    intro v H' Hs' g rv
    cases e3 : isSc d with
    | true =>
      rw [e3, if_pos rfl] at hp1
      exact hp1 v H' Hs1 ⟨g.all, Same.refl _, g1.sub.trans g.all, fun _ _ _ n => n⟩ (rv.scal e3 Hs1)
    | false =>
      rw [e3, if_neg (by decide)] at hp1
      exact (show False from hp1).elim
  | err c => rw [e2] at hp1; exact hp1
  | stk => rw [e2] at hp1; exact hp1

/-! ### what is walked -/
/-- at each turn the i-th of xs comes, as long as Ht (a part of the heap) stands -/
def ItOk (K : PySem.W.Frag) (J : It) (Ht Hs : Hp) (xs : List D) : Prop :=
  ∀ i H2 Hs2, Same Ht H2 → Same Hs Hs2 → Same Hs2 H2 → (∀ (hi : i < xs.length), J.go i H2 ∧ ∀ x H3, J.yld i H2 x H3 → ∃ Hs3, Grow H2 Hs2 H3 Hs3 ∧ Rp K Hs3 x xs[i]) ∧ (i = xs.length → J.stop i H2)
def PostI (X : Cx) (W : WX) (sh : Bool) (σ : St) (H Hs : Hp) (r : R (List D)) (Rr : It → Hp → Prop) : Prop :=
  match r with
  | .ok xs => ∀ J H1 Hs1, Grow H Hs H1 Hs1 → ItOk X.K J (if sh then Hs1 else H1) Hs1 xs → Rr J H1
  | .err c => ∀ H', Same H H' → W (clsV X.mg c) none σ H'
  | .stk => False
/-- sh: what is walked stays for good (for a loop whose body stores) -/
structure PPI (X : Cx) (W : WX) (sh : Bool) (tg it : Expr) (f : LF) : Prop where
  out : ∃ t : TI, PI X tg it t ∧ ∀ e σ H Hs Rr, SR X.K e σ H Hs → PostI X W sh σ H Hs (f e) Rr → t σ H Rr
variable {tg : Expr}
theorem postI_bind {A : Type} {B : Type} {sh : Bool} {σ : St} {H Hs : Hp} {Rep1 : Hp → Hp → Hp → B → A → Prop} {r : R A} {k : A → R (List D)} {Rr : It → Hp → Prop} (hp : PostI X W sh σ H Hs (r.bind k) Rr)
    {T : B → Hp → Prop} (h : ∀ a b H1 Hs1, r = .ok a → Grow H Hs H1 Hs1 → Rep1 H H1 Hs1 b a → PostI X W sh σ H1 Hs1 (k a) Rr → T b H1) : Post X W σ H Hs Rep1 r T := by
  cases r with
  | ok a =>
    intro b H1 Hs1 g rp
    refine h a b H1 Hs1 rfl g rp ?_
    have hp' : PostI X W sh σ H Hs (k a) Rr := hp
    cases e : k a with
    | ok xs => rw [e] at hp'; exact fun J H2 Hs2 g2 io => hp' J H2 Hs2 (g.trans g2) io
    | err c => rw [e] at hp'; exact fun H' s' => hp' H' (g.all.trans s')
    | stk => rw [e] at hp'; exact hp'
  | err c => exact hp
  | stk => exact hp
theorem list_same {K : PySem.W.Frag} {H : Hp} {a : Addr} {xs ys : List V} (h : H a = some (.lst xs)) (h' : SqL K H a ys) (hk : ∀ o its n, K.lookup a = some o → o.data = .seq its n → H a = none) : ys = xs := by
  rcases h' with (h' | ⟨o, h'⟩) | ⟨o, its, n, h1, _, _, h4, _⟩
  · rw [h] at h'; cases h'; rfl
  · rw [h] at h'; cases h'
  · have z := hk o its n h1 h4; rw [h] at z; cases z
theorem itl_ok {K : PySem.W.Frag} {p : Addr} {vs : List V} {xs : List D} {Ht Hs : Hp} (h : Ht p = some (.lst vs)) (r : RpA K Hs vs xs) : ItOk K (Itl K p) Ht Hs xs := by
  intro i H2 Hs2 s1 s2 s3
  have h2 : SqL K H2 p vs := SqL.of (s1 _ _ h)
  refine ⟨fun hi => ?_, fun e => ⟨vs, h2, by rw [r.length, e]; exact Nat.le_refl _⟩⟩
  obtain ⟨v, hv, rv⟩ := r.get (List.getElem?_eq_getElem hi)
  refine ⟨⟨vs, v, h2, hv⟩, fun x H3 y => ?_⟩
  obtain ⟨rfl, y⟩ := y
  have e := y vs h2
  rw [hv] at e
  cases e
  exact ⟨Hs2, Grow.refl s3, rv.up s2⟩
theorem ppi_list (ha : PPB X W a f) : PPI X W false tg a (iL f) := by
  obtain ⟨ta, pa, ha⟩ := ha.out
  refine ⟨_, pi_list pa, fun e σ H Hs Rr s hp => ?_⟩
  refine ha e σ H Hs _ s (postI_bind hp fun d v H1 Hs1 _ g1 r1 hp1 => ?_)
  cases d <;> first
    | exact (show False from hp1).elim
    | skip
  obtain ⟨p, vs, rfl, h1, r1⟩ := r1.list g1.sub
  exact ⟨p, rfl, ⟨vs, SqL.of h1⟩, hp1 _ H1 Hs1 (Grow.refl g1.sub) (itl_ok h1 r1)⟩
theorem ppi_listS (ha : PPE X W a f) : PPI X W true tg a (iL f) := by
  obtain ⟨ta, pa, ha⟩ := ha.out
  refine ⟨_, pi_list pa, fun e σ H Hs Rr s hp => ?_⟩
  refine ha e σ H Hs _ s (postI_bind hp fun d v H1 Hs1 _ g1 r1 hp1 => ?_)
  cases d <;> first
    | exact (show False from hp1).elim
    | skip
  cases r1 with
  | lst h1 r1 => exact ⟨_, rfl, ⟨_, SqL.of (g1.sub _ _ h1)⟩, hp1 _ H1 Hs1 (Grow.refl g1.sub) (itl_ok h1 r1)⟩
theorem itt_ok {K : PySem.W.Frag} {p : Addr} {vs : List V} {xs : List D} {Ht Hs : Hp} (h : Ht p = some (.tup vs)) (r : RpA K Hs vs xs) : ItOk K (Itt K p) Ht Hs xs := by
  intro i H2 Hs2 s1 s2 s3
  have h2 : SqT K H2 p vs := SqT.of (s1 _ _ h)
  refine ⟨fun hi => ?_, fun e => ⟨vs, h2, by rw [r.length, e]; exact Nat.le_refl _⟩⟩
  obtain ⟨v, hv, rv⟩ := r.get (List.getElem?_eq_getElem hi)
  refine ⟨⟨vs, v, h2, hv⟩, fun x H3 y => ?_⟩
  obtain ⟨rfl, y⟩ := y
  have e := y vs h2
  rw [hv] at e
  cases e
  exact ⟨Hs2, Grow.refl s3, rv.up s2⟩
theorem ppi_tup {sh : Bool} (ha : PPE X W a f) : PPI X W sh tg a (iT f) := by
  obtain ⟨ta, pa, ha⟩ := ha.out
  refine ⟨_, pi_tup pa, fun e σ H Hs Rr s hp => ?_⟩
  refine ha e σ H Hs _ s (postI_bind hp fun d v H1 Hs1 _ g1 r1 hp1 => ?_)
  cases d <;> first
    | exact (show False from hp1).elim
    | skip
  cases r1 with
  | tup h1 r1 =>
    refine ⟨_, rfl, ⟨_, SqT.of (g1.sub _ _ h1)⟩, hp1 _ H1 Hs1 (Grow.refl g1.sub) (itt_ok ?_ r1)⟩
    cases sh
    · exact g1.sub _ _ h1
    · exact h1
theorem ppi_str {sh : Bool} (ha : PPE X W a f) : PPI X W sh tg a (iS f) := by
  obtain ⟨ta, pa, ha⟩ := ha.out
  refine ⟨_, pi_str pa, fun e σ H Hs Rr s hp => ?_⟩
  refine ha e σ H Hs _ s (postI_bind hp fun d v H1 Hs1 _ g1 r1 hp1 => ?_)
  obtain ⟨z, rfl⟩ : ∃ z, d = .str z := by
    cases d <;> first
      | exact (show False from hp1).elim
      | exact ⟨_, rfl⟩
  cases r1
  refine ⟨z, rfl, hp1 _ H1 Hs1 (Grow.refl g1.sub) fun i H2 Hs2 s1 s2 s3 => ⟨fun hi => ?_, fun e => ?_⟩⟩
  · rw [List.length_map, Array.length_toList] at hi
    refine ⟨hi, fun x H3 y => ?_⟩
    obtain ⟨rfl, c, hc, rfl⟩ := y
    refine ⟨Hs2, Grow.refl s3, ?_⟩
    rw [List.getElem_map]
    have e : z.cps.toList[i]'(by rw [Array.length_toList]; exact hi) = c := by
      rw [Array.getElem_toList]
      rw [Array.getElem?_eq_getElem hi] at hc
      exact Option.some.inj hc
    rw [e]
    exact .str _
  · rw [e, List.length_map, Array.length_toList]
    exact Nat.le_refl _
theorem rng_len (lo hi : Int) : (rng lo hi).length = (hi - lo).toNat := by unfold rng; rw [List.length_map, List.length_range]
theorem itr_ok {K : PySem.W.Frag} {lo hi : Int} {Ht Hs : Hp} : ItOk K (Itr lo (hi - lo).toNat) Ht Hs (rng lo hi) := by
  intro i H2 Hs2 s1 s2 s3
  refine ⟨fun h => ?_, fun e => by rw [e, rng_len]; exact Nat.le_refl _⟩
  have h' := h
  rw [rng_len] at h'
  refine ⟨h', fun x H3 y => ?_⟩
  obtain ⟨rfl, rfl⟩ := y
  refine ⟨Hs2, Grow.refl s3, ?_⟩
  have e : (rng lo hi)[i] = .int (lo + (i : Int)) := by
    simp [rng]
  rw [e]
  exact .int _
theorem smI_ok {n : Int} (h : smI n = true) : -(2 ^ 62) ≤ n ∧ n < 2 ^ 62 := of_decide_eq_true h
theorem ppi_r1 {sh : Bool} (hm : X.mg "range" = none) (ha : PPE X W a f) (hg : Gl X "range" := by rfl) (hs : starEach [a] X.env = [(false, eval a X.env)] := by rfl) : PPI X W sh tg (.Call (.Name "range" p) [a] [] pos) (iR1 f) := by
  obtain ⟨ta, pa, ha⟩ := ha.out
  refine ⟨_, pi_range1 hg hm (pa_cons pa pa_nil hs) hs, fun e σ H Hs Rr s hp => ?_⟩
  refine ha e σ H Hs _ s (postI_bind hp fun d v H1 Hs1 _ g1 r1 hp1 => ?_)
  obtain ⟨n, rfl⟩ : ∃ z, d = .int z := by
    cases d <;> first
      | exact (show False from hp1).elim
      | exact ⟨_, rfl⟩
  cases r1
  have hp2 : PostI X W sh σ H1 Hs1 (if smI n then R.ok (rng 0 n) else .stk) Rr := hp1
  split at hp2
  · rename_i hn
    obtain ⟨h1, h2⟩ := smI_ok hn
    have z := itr_ok (K := X.K) (lo := 0) (hi := n) (Ht := if sh then Hs1 else H1) (Hs := Hs1)
    rw [Int.sub_zero] at z
    exact ⟨n, rfl, h1, h2, hp2 _ H1 Hs1 (Grow.refl g1.sub) z⟩
  · exact (show False from hp2).elim
theorem ppi_r2 {sh : Bool} (hm : X.mg "range" = none) (ha : PPE X W a f) (hb : PPE X W b g) (hg : Gl X "range" := by rfl) (hs : starEach [a, b] X.env = (false, eval a X.env) :: starEach [b] X.env := by rfl)
    (hs1 : starEach [a, b] X.env = [(false, eval a X.env), (false, eval b X.env)] := by rfl) (hs2 : starEach [b] X.env = [(false, eval b X.env)] := by rfl) : PPI X W sh tg (.Call (.Name "range" p) [a, b] [] pos) (iR2 f g) := by
  obtain ⟨ta, pa, ha⟩ := ha.out
  obtain ⟨tb, pb, hb⟩ := hb.out
  refine ⟨_, pi_range2 hg hm (pa_cons pa (pa_cons pb pa_nil hs2) hs) hs1 hs2, fun e σ H Hs Rr s hp => ?_⟩
  refine ha e σ H Hs _ s (postI_bind hp fun d v H1 Hs1 _ g1 r1 hp1 => ?_)
  refine hb e σ H1 Hs1 _ (s.grow g1) (postI_bind hp1 fun d2 v2 H2 Hs2 _ g2 r2 hp2 => ?_)
  obtain ⟨m, rfl⟩ : ∃ z, d = .int z := by
    cases d <;> first
      | exact (show False from hp2).elim
      | exact ⟨_, rfl⟩
  obtain ⟨n, rfl⟩ : ∃ z, d2 = .int z := by
    cases d2 <;> first
      | exact (show False from hp2).elim
      | exact ⟨_, rfl⟩
  cases r1
  cases r2
  have hp3 : PostI X W sh σ H2 Hs2 (if smI m && smI n then R.ok (rng m n) else .stk) Rr := hp2
  split at hp3
  · rename_i hn
    rw [Bool.and_eq_true] at hn
    obtain ⟨h1, h2⟩ := smI_ok hn.1
    obtain ⟨h3, h4⟩ := smI_ok hn.2
    exact ⟨m, n, rfl, ⟨h1, h2, h3, h4⟩, hp3 _ H2 Hs2 (Grow.refl g2.sub) itr_ok⟩
  · exact (show False from hp3).elim
theorem zipD_len : ∀ (xs ys : List D), (zipD xs ys).length = min xs.length ys.length
  | [], _ => by simp [zipD]
  | _ :: _, [] => by simp [zipD]
  | x :: xs, y :: ys => by
    unfold zipD
    rw [List.length_cons, zipD_len xs ys, List.length_cons, List.length_cons]
    omega
theorem zipD_get : ∀ (xs ys : List D) (i : Nat) (h : i < (zipD xs ys).length) (h1 : i < xs.length) (h2 : i < ys.length), (zipD xs ys)[i] = .tuple [xs[i], ys[i]]
  | [], _, _, _, h1, _ => absurd h1 (Nat.not_lt_zero _)
  | _ :: _, [], _, _, _, h2 => absurd h2 (Nat.not_lt_zero _)
  | x :: xs, y :: ys, 0, _, _, _ => rfl
  | x :: xs, y :: ys, i + 1, h, h1, h2 => zipD_get xs ys i (by unfold zipD at h; exact Nat.lt_of_succ_lt_succ h) (Nat.lt_of_succ_lt_succ h1) (Nat.lt_of_succ_lt_succ h2)
theorem itz_ok {K : PySem.W.Frag} {p q : Addr} {vs ws : List V} {xs ys : List D} {Ht Hs : Hp} (h1 : Ht p = some (.lst vs)) (r1 : RpA K Hs vs xs) (h2 : Ht q = some (.lst ws)) (r2 : RpA K Hs ws ys) : ItOk K (Itz K p q) Ht Hs (zipD xs ys) := by
  intro i H2 Hs2 s1 s2 s3
  have k1 : SqL K H2 p vs := SqL.of (s1 _ _ h1)
  have k2 : SqL K H2 q ws := SqL.of (s1 _ _ h2)
  refine ⟨fun hi => ?_, fun e => ⟨vs, ws, k1, k2, ?_⟩⟩
  · have hi' := hi
    rw [zipD_len] at hi'
    have i1 : i < xs.length := by omega
    have i2 : i < ys.length := by omega
    obtain ⟨v, hv, rv⟩ := r1.get (List.getElem?_eq_getElem i1)
    obtain ⟨w, hw, rw'⟩ := r2.get (List.getElem?_eq_getElem i2)
    refine ⟨⟨vs, ws, v, w, k1, k2, hv, hw⟩, fun x H3 y => ?_⟩
    obtain ⟨T, x1, x2, rfl, nT, rfl, f1, f2⟩ := y
    have e1 := f1 vs k1
    have e2 := f2 ws k2
    rw [hv] at e1
    rw [hw] at e2
    cases e1
    cases e2
    have gr := Grow.new (o := .tup [v, w]) s3 nT
    refine ⟨_, gr, ?_⟩
    rw [zipD_get xs ys i hi i1 i2]
    exact .tup upd_same (.cons (rv.up (s2.trans gr.sh)) (.cons (rw'.up (s2.trans gr.sh)) .nil))
  · rw [zipD_len] at e
    rw [r1.length, r2.length]
    omega
theorem ppi_zip {kk : Nat} {tpos : Pos} {elts : List Expr} (hm : X.mg "zip" = none) (ha : PPB X W a f) (hb : PPB X W b g) (hg : Gl X "zip" := by rfl) (hs : starEach [a, b] X.env = (false, eval a X.env) :: starEach [b] X.env := by rfl) (hs2 : starEach [b] X.env = (false, eval b X.env) :: starEach [] X.env := by rfl)
    (hpl : (backTo pos (starEach [b] X.env)).any (·.1) = false := by rfl) : PPI X W false (.Tuple elts kk tpos) (.Call (.Name "zip" p) [a, b] [] pos) (iZ f g) := by
  obtain ⟨ta, pa, ha⟩ := ha.out
  obtain ⟨tb, pb, hb⟩ := hb.out
  refine ⟨_, pi_zip hg hm (pa_cons pa (pa_cons pb pa_nil hs2) hs) hs hpl, fun e σ H Hs Rr s hp => ?_⟩
  refine ha e σ H Hs _ s (postI_bind hp fun d v H1 Hs1 _ g1 r1 hp1 => ?_)
  refine hb e σ H1 Hs1 _ (s.grow g1) (postI_bind hp1 fun d2 v2 H2 Hs2 _ g2 r2 hp2 => ?_)
  cases d <;> first
    | exact (show False from hp2).elim
    | skip
  cases d2 <;> first
    | exact (show False from hp2).elim
    | skip
  obtain ⟨p, vs, rfl, h1, r1⟩ := r1.list g1.sub
  obtain ⟨q, ws, rfl, h2, r2⟩ := r2.list g2.sub
  exact ⟨p, q, vs, ws, rfl, SqL.of (g2.all _ _ h1), SqL.of h2, hp2 _ H2 Hs2 (Grow.refl g2.sub) (itz_ok (g2.all _ _ h1) (r1.up g2.sh) h2 r2)⟩
theorem ppi_zipS {kk : Nat} {tpos : Pos} {elts : List Expr} (hm : X.mg "zip" = none) (ha : PPE X W a f) (hb : PPE X W b g) (hg : Gl X "zip" := by rfl) (hs : starEach [a, b] X.env = (false, eval a X.env) :: starEach [b] X.env := by rfl) (hs2 : starEach [b] X.env = (false, eval b X.env) :: starEach [] X.env := by rfl)
    (hpl : (backTo pos (starEach [b] X.env)).any (·.1) = false := by rfl) : PPI X W true (.Tuple elts kk tpos) (.Call (.Name "zip" p) [a, b] [] pos) (iZ f g) := by
  obtain ⟨ta, pa, ha⟩ := ha.out
  obtain ⟨tb, pb, hb⟩ := hb.out
  refine ⟨_, pi_zip hg hm (pa_cons pa (pa_cons pb pa_nil hs2) hs) hs hpl, fun e σ H Hs Rr s hp => ?_⟩
  refine ha e σ H Hs _ s (postI_bind hp fun d v H1 Hs1 _ g1 r1 hp1 => ?_)
  refine hb e σ H1 Hs1 _ (s.grow g1) (postI_bind hp1 fun d2 v2 H2 Hs2 _ g2 r2 hp2 => ?_)
  cases d <;> first
    | exact (show False from hp2).elim
    | skip
  cases d2 <;> first
    | exact (show False from hp2).elim
    | skip
  cases r1 with
  | lst h1 r1 =>
    cases r2 with
    | lst h2 r2 =>
      have h1' := g2.sh _ _ h1
      exact ⟨_, _, _, _, rfl, SqL.of (g2.sub _ _ h1'), SqL.of (g2.sub _ _ h2), hp2 _ H2 Hs2 (Grow.refl g2.sub) (itz_ok h1' (r1.up g2.sh) h2 r2)⟩
theorem enD_len : ∀ (n : Nat) (xs : List D), (enD n xs).length = xs.length
  | _, [] => rfl
  | n, x :: xs => by unfold enD; rw [List.length_cons, enD_len, List.length_cons]
theorem enD_get : ∀ (n : Nat) (xs : List D) (i : Nat) (h : i < (enD n xs).length) (h1 : i < xs.length), (enD n xs)[i] = .tuple [.int ((n + i : Nat) : Int), xs[i]]
  | _, [], _, _, h1 => absurd h1 (Nat.not_lt_zero _)
  | n, x :: xs, 0, _, _ => rfl
  | n, x :: xs, i + 1, h, h1 => by
    have z := enD_get (n + 1) xs i (by unfold enD at h; exact Nat.lt_of_succ_lt_succ h) (Nat.lt_of_succ_lt_succ h1)
    have e : n + (i + 1) = n + 1 + i := by omega
    rw [e]
    exact z
theorem ite_ok {K : PySem.W.Frag} {p : Addr} {vs : List V} {xs : List D} {Ht Hs : Hp} (h1 : Ht p = some (.lst vs)) (r1 : RpA K Hs vs xs) : ItOk K (Ite K p) Ht Hs (enD 0 xs) := by
  intro i H2 Hs2 s1 s2 s3
  have k1 : SqL K H2 p vs := SqL.of (s1 _ _ h1)
  refine ⟨fun hi => ?_, fun e => ⟨vs, k1, by rw [r1.length, e, enD_len]; exact Nat.le_refl _⟩⟩
  have i1 : i < xs.length := by rw [enD_len] at hi; exact hi
  obtain ⟨v, hv, rv⟩ := r1.get (List.getElem?_eq_getElem i1)
  refine ⟨⟨vs, v, k1, hv⟩, fun x H3 y => ?_⟩
  obtain ⟨T, x1, rfl, nT, rfl, f1⟩ := y
  have e1 := f1 vs k1
  rw [hv] at e1
  cases e1
  have gr := Grow.new (o := .tup [.int (i : Nat), v]) s3 nT
  refine ⟨_, gr, ?_⟩
  rw [enD_get 0 xs i hi i1, Nat.zero_add]
  exact .tup upd_same (.cons (.int _) (.cons (rv.up (s2.trans gr.sh)) .nil))
theorem ppi_en {kk : Nat} {tpos : Pos} {elts : List Expr} (hm : X.mg "enumerate" = none) (ha : PPB X W a f) (hg : Gl X "enumerate" := by rfl) (hs : starEach [a] X.env = [(false, eval a X.env)] := by rfl) :
    PPI X W false (.Tuple elts kk tpos) (.Call (.Name "enumerate" p) [a] [] pos) (iE f) := by
  obtain ⟨ta, pa, ha⟩ := ha.out
  refine ⟨_, pi_enum hg hm (pa_cons pa pa_nil hs) hs, fun e σ H Hs Rr s hp => ?_⟩
  refine ha e σ H Hs _ s (postI_bind hp fun d v H1 Hs1 _ g1 r1 hp1 => ?_)
  cases d <;> first
    | exact (show False from hp1).elim
    | skip
  obtain ⟨p, vs, rfl, h1, r1⟩ := r1.list g1.sub
  exact ⟨p, vs, rfl, SqL.of h1, hp1 _ H1 Hs1 (Grow.refl g1.sub) (ite_ok h1 r1)⟩
theorem ppi_enS {kk : Nat} {tpos : Pos} {elts : List Expr} (hm : X.mg "enumerate" = none) (ha : PPE X W a f) (hg : Gl X "enumerate" := by rfl) (hs : starEach [a] X.env = [(false, eval a X.env)] := by rfl) :
    PPI X W true (.Tuple elts kk tpos) (.Call (.Name "enumerate" p) [a] [] pos) (iE f) := by
  obtain ⟨ta, pa, ha⟩ := ha.out
  refine ⟨_, pi_enum hg hm (pa_cons pa pa_nil hs) hs, fun e σ H Hs Rr s hp => ?_⟩
  refine ha e σ H Hs _ s (postI_bind hp fun d v H1 Hs1 _ g1 r1 hp1 => ?_)
  cases d <;> first
    | exact (show False from hp1).elim
    | skip
  cases r1 with
  | lst h1 r1 => exact ⟨_, _, rfl, SqL.of (g1.sub _ _ h1), hp1 _ H1 Hs1 (Grow.refl g1.sub) (ite_ok h1 r1)⟩
end
end PL

namespace PL
open PySem PySem.Spec PyProof.Rows L2

/-! ### slots stored -/
section
variable {K : PySem.W.Frag} {e : Env} {σ : St} {H Hs : Hp}
theorem get_set {A : Type} {l : List A} {i j : Nat} {x : A} : (l.set i x)[j]? = if i = j then (if j < l.length then some x else none) else l[j]? := by
  by_cases h : i = j
  · subst h
    rw [if_pos rfl]
    by_cases hl : i < l.length
    · rw [if_pos hl, List.getElem?_set_self hl]
    · rw [if_neg hl, List.getElem?_eq_none (by simpa using hl)]
  · rw [if_neg h, List.getElem?_set_ne h]
theorem SR.set (s : SR K e σ H Hs) (i : Nat) {v : V} {d : D} (r : Rp K Hs v d) : SR K (e.set i (.sh d)) (σ.set i (some v)) H Hs := by
  refine ⟨s.sub, by rw [List.length_set, List.length_set]; exact s.len, fun j d' h => ?_, fun j xs h => ?_, fun j k xs ys p h1 h2 h3 h4 => ?_⟩
  · rw [get_set] at h ⊢
    by_cases q : i = j
    · rw [if_pos q] at h ⊢
      split at h
      · rename_i hl
        cases h
        rw [if_pos (by rw [← s.len]; exact hl)]
        exact ⟨v, rfl, r⟩
      · cases h
    · rw [if_neg q] at h ⊢
      exact s.sh j d' h
  · rw [get_set] at h ⊢
    by_cases q : i = j
    · rw [if_pos q] at h
      split at h <;> cases h
    · rw [if_neg q] at h ⊢
      exact s.ow j xs h
  · rw [get_set] at h1 h2 h3 h4
    by_cases q : i = j
    · rw [if_pos q] at h1
      split at h1 <;> cases h1
    · by_cases q' : i = k
      · rw [if_pos q'] at h2
        split at h2 <;> cases h2
      · rw [if_neg q] at h1 h3
        rw [if_neg q'] at h2 h4
        exact s.ne j k xs ys p h1 h2 h3 h4
theorem SR.drop (s : SR K e σ H Hs) (i : Nat) {v : Option V} : SR K (e.set i .no) (σ.set i v) H Hs := by
  refine ⟨s.sub, by rw [List.length_set, List.length_set]; exact s.len, fun j d' h => ?_, fun j xs h => ?_, fun j k xs ys p h1 h2 h3 h4 => ?_⟩
  · rw [get_set] at h ⊢
    by_cases q : i = j
    · rw [if_pos q] at h
      split at h <;> cases h
    · rw [if_neg q] at h ⊢
      exact s.sh j d' h
  · rw [get_set] at h ⊢
    by_cases q : i = j
    · rw [if_pos q] at h
      split at h <;> cases h
    · rw [if_neg q] at h ⊢
      exact s.ow j xs h
  · rw [get_set] at h1 h2 h3 h4
    by_cases q : i = j
    · rw [if_pos q] at h1
      split at h1 <;> cases h1
    · by_cases q' : i = k
      · rw [if_pos q'] at h2
        split at h2 <;> cases h2
      · rw [if_neg q] at h1 h3
        rw [if_neg q'] at h2 h4
        exact s.ne j k xs ys p h1 h2 h3 h4
/-- a list of our own comes to a slot -/
theorem SR.setOw (s : SR K e σ H Hs) (i : Nat) {p : Addr} {vs : List V} {xs : List D} (h1 : H p = some (.lst vs)) (h2 : Hs p = none) (h3 : RpA K Hs vs xs)
    (fr : ∀ (j : Nat) (ys : List D), e[j]? = some (.ow ys) → σ[j]? ≠ some (some (.ref p))) : SR K (e.set i (.ow xs)) (σ.set i (some (.ref p))) H Hs := by
  refine ⟨s.sub, by rw [List.length_set, List.length_set]; exact s.len, fun j d' h => ?_, fun j ys h => ?_, fun j k ys zs q g1 g2 g3 g4 => ?_⟩
  · rw [get_set] at h ⊢
    by_cases q : i = j
    · rw [if_pos q] at h
      split at h <;> cases h
    · rw [if_neg q] at h ⊢
      exact s.sh j d' h
  · rw [get_set] at h ⊢
    by_cases q : i = j
    · rw [if_pos q] at h ⊢
      split at h
      · rename_i hl
        cases h
        rw [if_pos (by rw [← s.len]; exact hl)]
        exact ⟨p, vs, rfl, h1, h2, h3⟩
      · cases h
    · rw [if_neg q] at h ⊢
      exact s.ow j ys h
  · rw [get_set] at g1 g2 g3 g4
    by_cases q1 : i = j
    · by_cases q2 : i = k
      · rw [← q1, ← q2]
      · rw [if_pos q1] at g3
        rw [if_neg q2] at g2 g4
        split at g3
        · cases g3
          exact absurd g4 (fr k zs g2)
        · cases g3
    · by_cases q2 : i = k
      · rw [if_pos q2] at g4
        rw [if_neg q1] at g1 g3
        split at g4
        · cases g4
          exact absurd g3 (fr j ys g1)
        · cases g4
      · rw [if_neg q1] at g1 g3
        rw [if_neg q2] at g2 g4
        exact s.ne j k ys zs q g1 g2 g3 g4
theorem SR.wip (s : SR K e σ H Hs) : ∀ vs : List Nat, SR K (wip vs e) (wipe σ vs) H Hs
  | [] => s
  | v :: vs => (SR.wip s vs).drop v
theorem wipe_in {σ : St} {i : Nat} : ∀ {vs : List Nat}, i ∈ vs → (wipe σ vs)[i]? = if i < σ.length then some none else none
  | [], h => nomatch h
  | v :: vs, h => by
    show ((wipe σ vs).set v none)[i]? = _
    rw [get_set, wipe_length]
    by_cases q : v = i
    · rw [if_pos q]
    · rw [if_neg q]
      exact wipe_in ((List.mem_cons.mp h).resolve_left fun z => q z.symm)
theorem wipe_wipe (σ : St) (vs : List Nat) : wipe (wipe σ vs) vs = wipe σ vs := by
  apply List.ext_getElem?
  intro j
  by_cases hj : j ∈ vs
  · rw [wipe_in hj, wipe_in hj, wipe_length]
  · rw [wipe_out hj]
theorem wipe_set {σ : St} {i : Nat} {v : Option V} {vs : List Nat} (h : i ∈ vs) : wipe (σ.set i v) vs = wipe σ vs := by
  apply List.ext_getElem?
  intro j
  by_cases hj : j ∈ vs
  · rw [wipe_in hj, wipe_in hj, List.length_set]
  · rw [wipe_out hj, wipe_out hj, get_set]
    rw [if_neg (fun z => hj (by rw [← z]; exact h))]
end

section
variable {X : Cx} {pos : Pos}
structure PPG (X : Cx) (tg : Expr) (sl : List Nat) (g : GF) : Prop where
  out : ∃ t : TG, PG X tg t ∧ ∀ (x : V) (d : D) (e : Env) (σ : St) (H Hs : Hp) (Q : St → Hp → Prop), SR X.K e σ H Hs → Rp X.K Hs x d →
    (match g d e with | .ok e' => ∀ σ', SR X.K e' σ' H Hs → (∀ vs, (∀ i ∈ sl, i ∈ vs) → wipe σ' vs = wipe σ vs) → (∀ (j : Nat) ys, e'[j]? = some (SV.ow ys) → e[j]? = some (SV.ow ys) ∧ σ'[j]? = σ[j]?) → Q σ' H | _ => False) → t x σ H Q
  ne : ∀ d e c, g d e ≠ .err c
structure PPGs (X : Cx) (ts : List Expr) (sl : List Nat) (gs : List GF) : Prop where
  out : ∃ t : TGs, PGs X ts t ∧ ∀ (xs : List V) (ds : List D) (e : Env) (σ : St) (H Hs : Hp) (Q : St → Hp → Prop), SR X.K e σ H Hs → RpA X.K Hs xs ds →
    (match gAll gs ds e with | .ok e' => ∀ σ', SR X.K e' σ' H Hs → (∀ vs, (∀ i ∈ sl, i ∈ vs) → wipe σ' vs = wipe σ vs) → (∀ (j : Nat) ys, e'[j]? = some (SV.ow ys) → e[j]? = some (SV.ow ys) ∧ σ'[j]? = σ[j]?) → Q σ' H | _ => False) → t xs σ H Q
  len : gs.length = ts.length
  ne : ∀ ds e c, gAll gs ds e ≠ .err c
theorem ppg_n (i : Nat) {x : Str} (hN : X.N.Nodup) (hx : Loc X.env.scope x := by first | exact Or.inl rfl | exact Or.inr rfl) (hi : X.N[i]? = some x := by rfl) (hf : X.fn x = true ∨ X.env.scope.names.lookup x = some .local := by first | exact .inl rfl | exact .inr rfl) : PPG X (.Name x pos) [i] (gN i) := by
  refine ⟨⟨_, pg_name hN hi hx hf, fun x d e σ H Hs Q s r h => ?_⟩, fun d e c h => nomatch h⟩
  refine h (σ.set i (some x)) (s.set i r) (fun vs hv => wipe_set (hv i (by simp))) fun j ys hj => ?_
  rw [get_set] at hj ⊢
  by_cases q : i = j
  · rw [if_pos q] at hj
    split at hj <;> cases hj
  · rw [if_neg q] at hj ⊢
    exact ⟨hj, rfl⟩
theorem ppgs_nil : PPGs X [] [] [] := by
  refine ⟨⟨_, pgs_nil, fun xs ds e σ H Hs Q s r h => ?_⟩, rfl, fun ds e c h => by cases ds <;> cases h⟩
  cases r with
  | nil => exact ⟨rfl, h σ s (fun _ _ => rfl) fun _ _ q => ⟨q, rfl⟩⟩
  | cons _ _ => exact h.elim
theorem ppgs_cons {tg : Expr} {ts : List Expr} {sl sl' : List Nat} {g : GF} {gs : List GF} (h1 : PPG X tg sl g) (h2 : PPGs X ts sl' gs) (hs : (assignEach (tg :: ts) X.env).map (·.2) = assign tg X.env :: (assignEach ts X.env).map (·.2) := by rfl) : PPGs X (tg :: ts) (sl ++ sl') (g :: gs) := by
  obtain ⟨⟨t1, p1, h1⟩, n1⟩ := h1
  obtain ⟨⟨t2, p2, h2⟩, hl, n2⟩ := h2
  refine ⟨⟨_, pgs_cons p1 p2 hs, fun xs ds e σ H Hs Q s r h => ?_⟩, by rw [List.length_cons, List.length_cons, hl], fun ds e c h => ?_⟩
  cases r with
  | nil => exact h.elim
  | cons r1 r2 =>
    rename_i v vs d ds
    have h' : (match (g d e).bind fun e' => gAll gs ds e' with | .ok e' => ∀ σ', SR X.K e' σ' H Hs → (∀ vs, (∀ i ∈ sl ++ sl', i ∈ vs) → wipe σ' vs = wipe σ vs) → (∀ (j : Nat) ys, e'[j]? = some (SV.ow ys) → e[j]? = some (SV.ow ys) ∧ σ'[j]? = σ[j]?) → Q σ' H | _ => False) := h
    refine ⟨v, vs, rfl, h1 v d e σ H Hs _ s r1 ?_⟩
    cases e1 : g d e with
    | ok e' =>
      rw [e1] at h'
      intro σ1 s1 w1 o1
      refine h2 vs ds e' σ1 H Hs Q s1 r2 ?_
      rw [R.bind_ok] at h'
      cases e2 : gAll gs ds e' with
      | ok e'' =>
        rw [e2] at h'
        exact fun σ2 s2 w2 o2 => h' σ2 s2 (fun vs hv => (w2 vs fun i hi => hv i (List.mem_append_right _ hi)).trans (w1 vs fun i hi => hv i (List.mem_append_left _ hi))) fun j ys hj => ⟨(o1 j ys (o2 j ys hj).1).1, (o2 j ys hj).2.trans (o1 j ys (o2 j ys hj).1).2⟩
      | err c => rw [e2] at h'; exact h'
      | stk => rw [e2] at h'; exact h'
    | err c => rw [e1] at h'; exact h'
    | stk => rw [e1] at h'; exact h'
  cases ds with
  | nil => cases h
  | cons d ds =>
    unfold gAll at h
    cases e1 : g d e with
    | ok e' => rw [e1] at h; exact n2 ds e' c h
    | err c' => exact n1 d e c' e1
    | stk => rw [e1] at h; cases h
theorem gAll_len : ∀ {gs : List GF} {ds : List D} {e e' : Env}, gAll gs ds e = .ok e' → ds.length = gs.length
  | [], [], _, _, _ => rfl
  | [], _ :: _, _, _, h => nomatch h
  | _ :: _, [], _, _, h => nomatch h
  | g :: gs, d :: ds, e, e', h => by
    unfold gAll at h
    cases e1 : g d e with
    | ok e2 => rw [e1] at h; rw [List.length_cons, List.length_cons, gAll_len h]
    | err c => rw [e1] at h; cases h
    | stk => rw [e1] at h; cases h
theorem ppg_t {es : List Expr} {k : Nat} {sl : List Nat} {gs : List GF} (hc : X.calm = true) (h : PPGs X es sl gs) (hn : (assignEach es X.env).length = es.length := by rfl) (hst : (assignEach es X.env).findIdx? (·.1) = none := by rfl) : PPG X (.Tuple es k pos) sl (gT gs) := by
  obtain ⟨⟨t, p, h⟩, hl, nn⟩ := h
  refine ⟨⟨_, pg_tup hc p hn hst, fun x d e σ H Hs Q s r hq => ?_⟩, fun d e c h => by cases d <;> first | (cases h; done) | exact nn _ e c h⟩
  cases d <;> first
    | exact (show False from hq).elim
    | skip
  rename_i ds
  cases r with
  | tup h1 r =>
    rename_i a vs
    have hq' : (match gAll gs ds e with | .ok e' => ∀ σ', SR X.K e' σ' H Hs → (∀ vs, (∀ i ∈ sl, i ∈ vs) → wipe σ' vs = wipe σ vs) → (∀ (j : Nat) ys, e'[j]? = some (SV.ow ys) → e[j]? = some (SV.ow ys) ∧ σ'[j]? = σ[j]?) → Q σ' H | _ => False) := hq
    refine ⟨a, vs, rfl, SqT.of (s.sub _ _ h1), ?_, h vs ds e σ H Hs Q s r hq'⟩
    cases e2 : gAll gs ds e with
    | ok e'' => rw [r.length, gAll_len e2, hl]
    | err c => rw [e2] at hq'; exact hq'.elim
    | stk => rw [e2] at hq'; exact hq'.elim
end

/-! ### comprehensions -/
section
variable {X : Cx} {W : WX} {elt tg iter : Expr} {ifs : List Expr} {scope : Scope} {own : List (Str × Nat)} {pos : Pos} {it : LF} {g : GF} {t : TF} {f : EF} {sl : List Nat}
abbrev noW : WX := fun _ _ _ _ => False
structure PPTs (X : Cx) (W : WX) (ifs : List Expr) (t : TF) : Prop where
  out : ∃ tt : TT, PTs X ifs tt ∧ ∀ e σ H Hs Q, SR X.K e σ H Hs → Post X W σ H Hs RepT (t e) Q → tt σ H Q
theorem ppts_nil : PPTs X W [] qY := ⟨_, pts_nil, fun e σ H Hs Q s hp => hp _ H Hs (Grow.refl s.sub) rfl⟩
theorem ppts_one {c : Expr} (h : PPT X W c t) : PPTs X W [c] t := let ⟨tt, p, h⟩ := h.out; ⟨tt, pts_one p, h⟩
theorem post_calm {A B : Type} {σ : St} {H Hs : Hp} {Rep : Hp → Hp → Hp → B → A → Prop} {r : R A} {Q : B → Hp → Prop} {a : A} (h : r.calm = .ok a) : r = .ok a := by
  cases r with
  | ok b => exact h
  | err c => cases h
  | stk => cases h
theorem ppf_comp (hN : X.N.Nodup) (hi : PPI X W false tg iter it) (ok : blkC X.N X.env.scope scope own = true)
    (hg : ∀ (s : Shared) (H : Hp) (C : Addr) (cl : List (Str × Addr)) (fp : List Addr), PPG (X.blk s H scope (compEnvC scope cl C X.env) fp) tg sl g)
    (ht : ∀ (s : Shared) (H : Hp) (C : Addr) (cl : List (Str × Addr)) (fp : List Addr), PPTs (X.blk s H scope (compEnvC scope cl C X.env) fp) noW ifs t)
    (he : ∀ (s : Shared) (H : Hp) (C : Addr) (cl : List (Str × Addr)) (fp : List Addr), PPE (X.blk s H scope (compEnvC scope cl C X.env) fp) noW elt f) (hsl : ∀ i ∈ sl, i ∈ own.map (·.2) := by decide)
    (hc : X.calm = true := by rfl) :
    ∃ tl, (∀ (hs : ∀ x, foldedSetIterable iter X.env x = pure x), PE X (.ListComp elt [⟨tg, iter, ifs, 0⟩] scope pos) tl) ∧
      (∀ {i : Nat} {y : Str} {py : Pos} {spos : Pos} (hs : ∀ x, foldedSetIterable iter X.env x = pure x) (hy : X.N[i]? = some y) (hyl : X.env.scope.names.lookup y = some .local)
        (hsw : swapsWith (.ListComp elt [⟨tg, iter, ifs, 0⟩] scope pos) (some (.Name y py)) spos.line X.env = pure true), PS X (.Assign [.Name y py] (.ListComp elt [⟨tg, iter, ifs, 0⟩] scope pos) spos) (tAsg tl (gName i))) ∧
      ∀ e σ H Hs Q, SR X.K e σ H Hs → Post X W σ H Hs (RepF X.K) (cmp it (own.map (·.2)) g t f e) Q → tl σ H Q := by
  obtain ⟨wi, pi, hi⟩ := hi.out
  have okB := blkOk_by ok
  have pg : ∀ (s : Shared) (H : Hp) (C : Addr) (cl : List (Str × Addr)) (fp : List Addr), PG (X.blk s H scope (compEnvC scope cl C X.env) fp) tg (fun v σ1 H1 Q1 => ∀ s H C cl fp, Classical.choose (hg s H C cl fp).out v σ1 H1 Q1) :=
    fun s H C cl fp => ⟨fun pins s1 σ1 H1 v u Q1 I r h => (Classical.choose_spec (hg s H C cl fp).out).1.run pins s1 σ1 H1 v u Q1 I r (h s H C cl fp)⟩
  have pt : ∀ (s : Shared) (H : Hp) (C : Addr) (cl : List (Str × Addr)) (fp : List Addr), PTs (X.blk s H scope (compEnvC scope cl C X.env) fp) ifs (fun σ1 H1 Q1 => ∀ s H C cl fp, Classical.choose (ht s H C cl fp).out σ1 H1 Q1) :=
    fun s H C cl fp => ⟨fun pins s1 σ1 H1 Q1 I h => (Classical.choose_spec (ht s H C cl fp).out).1.run pins s1 σ1 H1 Q1 I (h s H C cl fp)⟩
  have pe : ∀ (s : Shared) (H : Hp) (C : Addr) (cl : List (Str × Addr)) (fp : List Addr), PE (X.blk s H scope (compEnvC scope cl C X.env) fp) elt (fun σ1 H1 Q1 => ∀ s H C cl fp, Classical.choose (he s H C cl fp).out σ1 H1 Q1) :=
    fun s H C cl fp => ⟨fun pins s1 σ1 H1 Q1 I h => (Classical.choose_spec (he s H C cl fp).out).1.run pins s1 σ1 H1 Q1 I (h s H C cl fp)⟩
  refine ⟨_, fun hs => pe_lc hc hN pi okB pg pt pe hs, fun hs hy hyl hsw => ps_setLc hc hN hy hyl hsw pi okB pg pt pe hs, fun e σ H Hs Q s hp => ?_⟩
  -- the reading
  refine hi e σ H Hs _ s ?_
  unfold cmp at hp
  cases e1 : it e with
  | err c => rw [e1] at hp; exact hp
  | stk => rw [e1] at hp; exact hp
  | ok xs =>
    rw [e1, R.bind_ok] at hp
    split at hp
    · rename_i hz
      intro J H1 Hs1 g1 io D nD
      cases e2 : cLoop g t f (wip (own.map (·.2)) e) xs with
      | err c =>
        have no : ∀ (l : List PyData), cLoop g t f (wip (own.map (·.2)) e) l ≠ .err c := fun l => by
          induction l with
          | nil => exact fun h => nomatch h
          | cons x r ih =>
            unfold cLoop
            cases q1 : (g x (wip (own.map (·.2)) e)).calm with
            | err c' => exact absurd q1 R.calm_noerr
            | stk => exact fun h => nomatch h
            | ok a1 =>
              rw [R.bind_ok]
              cases q2 : (t a1).calm with
              | err c' => exact absurd q2 R.calm_noerr
              | stk => exact fun h => nomatch h
              | ok b =>
                rw [R.bind_ok]
                cases b with
                | false => exact ih
                | true =>
                  rw [if_pos rfl]
                  cases q3 : (f a1).calm with
                  | err c' => exact absurd q3 R.calm_noerr
                  | stk => exact fun h => nomatch h
                  | ok d =>
                    rw [R.bind_ok]
                    cases q4 : cLoop g t f (wip (own.map (·.2)) e) r with
                    | err c' => intro h; cases h; exact ih q4
                    | stk => exact fun h => nomatch h
                    | ok ds => exact fun h => nomatch h
        exact absurd e2 (no xs)
      | stk => rw [e2] at hp; exact (show False from hp).elim
      | ok tot =>
        rw [e2] at hp
        refine ⟨fun i m H2 => m = xs.length - i ∧ i ≤ xs.length ∧ ∃ Hs2 acc ads ods, Grow H1 Hs1 H2 Hs2 ∧ H2 D = some (.lst acc) ∧ Hs2 D = none ∧ RpA X.K Hs2 acc ads ∧ ads.length ≤ i ∧ cLoop g t f (wip (own.map (·.2)) e) (xs.drop i) = .ok ods ∧ tot = ads ++ ods,
          ⟨xs.length, rfl, Nat.zero_le _, Hs1, [], [], tot, Grow.gar g1.sub nD, upd_same, g1.sub.free nD, .nil, Nat.le_refl _, by rw [List.drop_zero]; exact e2, rfl⟩, fun i m H2 hW => ?_⟩
        obtain ⟨hm, hi', Hs2, acc, ads, ods, g2, hD, nD2, ra, hla, hc2, htot⟩ := hW
        obtain ⟨i1, i2⟩ := io i H2 Hs2 g2.all g2.sh g2.sub
        by_cases hlt : i < xs.length
        · right
          obtain ⟨go, yl⟩ := i1 hlt
          refine ⟨go, fun H3 => ∃ Hs3 acc ads ods, Grow H1 Hs1 H3 Hs3 ∧ H3 D = some (.lst acc) ∧ Hs3 D = none ∧ RpA X.K Hs3 acc ads ∧ ads.length ≤ i + 1 ∧ cLoop g t f (wip (own.map (·.2)) e) (xs.drop (i + 1)) = .ok ods ∧ tot = ads ++ ods,
            fun H3 h3 => ⟨xs.length - (i + 1), by omega, rfl, hlt, h3⟩, fun x H3 y => ?_⟩
          obtain ⟨Hs3, g3, rx⟩ := yl x H3 y
          rw [List.drop_eq_getElem_cons hlt] at hc2
          unfold cLoop at hc2
          have s3 : SR X.K (wip (own.map (·.2)) e) (wipe σ (own.map (·.2))) H3 Hs3 := ((s.grow g1).grow g2).grow g3 |>.wip _
          cases q1 : (g xs[i] (wip (own.map (·.2)) e)).calm with
          | err c => exact absurd q1 R.calm_noerr
          | stk => rw [q1] at hc2; cases hc2
          | ok ea =>
            rw [q1, R.bind_ok] at hc2
            have q1' : g xs[i] (wip (own.map (·.2)) e) = .ok ea := post_calm (B := Unit) (σ := σ) (H := H) (Hs := Hs) (Rep := fun _ _ _ _ _ => True) (Q := fun _ _ => True) q1
            intro zs zH zC zcl zfp
            refine (Classical.choose_spec (hg zs zH zC zcl zfp).out).2 x xs[i] _ _ H3 Hs3 _ s3 rx ?_
            rw [q1']
            intro σ4 s4 w4 _
            refine ⟨(w4 _ hsl).trans (wipe_wipe _ _), ?_⟩
            cases q2 : (t ea).calm with
            | err c => exact absurd q2 R.calm_noerr
            | stk => rw [q2] at hc2; cases hc2
            | ok b =>
              rw [q2, R.bind_ok] at hc2
              have q2' : t ea = .ok b := post_calm (B := Unit) (σ := σ) (H := H) (Hs := Hs) (Rep := fun _ _ _ _ _ => True) (Q := fun _ _ => True) q2
              intro zs zH zC zcl zfp
              refine (Classical.choose_spec (ht zs zH zC zcl zfp).out).2 ea σ4 H3 Hs3 _ s4 ?_
              rw [q2']
              intro b' H4 Hs4 g4 eb
              subst eb
              have hD4 : H4 D = some (.lst acc) := g4.all _ _ (g3.all _ _ hD)
              have nD3 : Hs3 D = none := g3.own _ _ hD nD2
              have nD4 : Hs4 D = none := g4.own _ _ (g3.all _ _ hD) nD3
              cases b' with
              | false =>
                rw [if_neg Bool.false_ne_true] at hc2 ⊢
                exact ⟨Hs4, acc, ads, ods, (g2.trans g3).trans g4, hD4, nD4, ra.up (g3.sh.trans g4.sh), Nat.le_succ_of_le hla, hc2, htot⟩
              | true =>
                rw [if_pos rfl] at hc2 ⊢
                cases q3 : (f ea).calm with
                | err c => exact absurd q3 R.calm_noerr
                | stk => rw [q3] at hc2; cases hc2
                | ok d =>
                  rw [q3, R.bind_ok] at hc2
                  have q3' : f ea = .ok d := post_calm (B := Unit) (σ := σ) (H := H) (Hs := Hs) (Rep := fun _ _ _ _ _ => True) (Q := fun _ _ => True) q3
                  intro zs zH zC zcl zfp
                  refine (Classical.choose_spec (he zs zH zC zcl zfp).out).2 ea σ4 H4 Hs4 _ (s4.grow g4) ?_
                  rw [q3']
                  intro y5 H5 Hs5 g5 ry
                  have hD5 : H5 D = some (.lst acc) := g5.all _ _ hD4
                  have nD5 : Hs5 D = none := g5.own _ _ hD4 nD4
                  refine ⟨acc, hD5, by rw [ra.length]; show ads.length < 16777216; have hz' : xs.length ≤ 16777216 := hz; omega, ?_⟩
                  cases q4 : cLoop g t f (wip (own.map (·.2)) e) (xs.drop (i + 1)) with
                  | err c => rw [q4] at hc2; cases hc2
                  | stk => rw [q4] at hc2; cases hc2
                  | ok ds =>
                    rw [q4] at hc2
                    cases hc2
                    have g25 := ((g2.trans g3).trans g4).trans g5
                    refine ⟨Hs5, acc ++ [y5], ads ++ [d], ds, ⟨fun p o hp => ?_, g25.sh, fun p o hp => ?_, g25.own⟩, upd_same, nD5, (ra.up ((g3.sh.trans g4.sh).trans g5.sh)).append (.cons ry .nil), by rw [List.length_append]; simpa using hla, rfl, by rw [htot, List.append_assoc]; rfl⟩
                    · rw [upd_ne (ne_of_none hp nD)]
                      exact g25.all _ _ hp
                    · rw [upd_ne (ne_of_none hp nD5)]
                      exact g25.sub _ _ hp
        · left
          have ei : i = xs.length := by omega
          refine ⟨i2 ei, ?_⟩
          rw [ei, List.drop_length] at hc2
          cases hc2
          rw [List.append_nil] at htot
          subst htot
          exact hp _ H2 Hs2 (g1.trans g2) ⟨D, acc, rfl, g1.all.free nD, hD, nD2, ra⟩
    · exact (show False from hp).elim
theorem PPF.of_comp {tl : TE} {ex : Expr} {l : LF} (h : PE X ex tl) (h2 : ∀ e σ H Hs Q, SR X.K e σ H Hs → Post X W σ H Hs (RepF X.K) (l e) Q → tl σ H Q) : PPF X W ex l := ⟨tl, h, h2⟩
/-- a new list as a datum -/
theorem PPF.e {ex : Expr} {l : LF} (h : PPF X W ex l) : PPE X W ex (eL l) := by
  obtain ⟨tl, p, h⟩ := h.out
  refine ⟨tl, p, fun e σ H Hs Q s hp => h e σ H Hs Q s ?_⟩
  unfold eL at hp
  cases e1 : l e with
  | err c => rw [e1] at hp; exact hp
  | stk => rw [e1] at hp; exact hp
  | ok xs =>
    rw [e1] at hp
    rintro v H' Hs' gr ⟨p, vs, rfl, n1, h1, n2, r⟩
    have s2 : Same (upd Hs' p (.lst vs)) H' := fun b o hb => by
      by_cases q : b = p
      · subst q; rw [upd_same] at hb; cases hb; exact h1
      · rw [upd_ne q] at hb; exact gr.sub _ _ hb
    refine hp _ H' (upd Hs' p (.lst vs)) ⟨gr.all, gr.sh.trans (same_upd n2), s2, fun b o hb nb => ?_⟩ (.lst upd_same (r.up (same_upd n2)))
    rw [upd_ne (ne_of_none hb n1)]
    exact gr.own b o hb nb
end
end PL

namespace PL
open PySem PySem.Spec PyProof.Rows L2

/-! ### statements -/
structure SB (K : PySem.W.Frag) (H0 Hb : Hp) (e : Env) (σ : St) (H Hs : Hp) : Prop where
  gr : Grow H0 Hb H Hs
  sr : SR K e σ H Hs
  new : ∀ (i : Nat) (xs : List D) (p : Addr), e[i]? = some (SV.ow xs) → σ[i]? = some (some (V.ref p)) → H0 p = none
abbrev RTT := Hp → Hp → Hp → V → D → Prop
def PostS (X : Cx) (W : WX) (RT : RTT) (H0 Hb : Hp) (o : Out) (Dn : Ends) : Prop :=
  match o with
  | .next e' => ∀ σ' H' Hs', SB X.K H0 Hb e' σ' H' Hs' → Dn.nx σ' H'
  | .ret d => ∀ v H' Hs', Grow H0 Hb H' Hs' → RT H0 H' Hs' v d → Dn.rt v H'
  | .brk e' => ∀ σ' H' Hs', SB X.K H0 Hb e' σ' H' Hs' → Dn.bk σ' H'
  | .cont e' => ∀ σ' H' Hs', SB X.K H0 Hb e' σ' H' Hs' → Dn.ct σ' H'
  | .err c => ∀ σ' H', Same H0 H' → Same Hb H' → W (clsV X.mg c) none σ' H'
  | .stk => False
structure PPS (X : Cx) (W : WX) (RT : RTT) (st : Stmt) (f : SF) : Prop where
  out : ∃ t : TS, PS X st t ∧ ∀ e σ H Hs H0 Hb Dn, SB X.K H0 Hb e σ H Hs → PostS X W RT H0 Hb (f e) Dn → t Dn σ H
structure PPSs (X : Cx) (W : WX) (RT : RTT) (st : List Stmt) (f : SF) : Prop where
  out : ∃ t : TS, PSs X st t ∧ ∀ e σ H Hs H0 Hb Dn, SB X.K H0 Hb e σ H Hs → PostS X W RT H0 Hb (f e) Dn → t Dn σ H
section
variable {K : PySem.W.Frag} {H0 Hb H Hs H1 Hs1 : Hp} {e : Env} {σ : St}
theorem SB.grow (s : SB K H0 Hb e σ H Hs) (g : Grow H Hs H1 Hs1) : SB K H0 Hb e σ H1 Hs1 := ⟨s.gr.trans g, s.sr.grow g, s.new⟩
theorem SB.set (s : SB K H0 Hb e σ H Hs) (i : Nat) {v : V} {d : D} (r : Rp K Hs v d) : SB K H0 Hb (e.set i (.sh d)) (σ.set i (some v)) H Hs := by
  refine ⟨s.gr, s.sr.set i r, fun j xs p h1 h2 => ?_⟩
  rw [get_set] at h1 h2
  by_cases q : i = j
  · rw [if_pos q] at h1
    split at h1 <;> cases h1
  · rw [if_neg q] at h1 h2
    exact s.new j xs p h1 h2
theorem SB.of {e' : Env} {σ' : St} (s : SB K H0 Hb e σ H Hs) (r : SR K e' σ' H Hs) (o : ∀ (j : Nat) ys, e'[j]? = some (SV.ow ys) → e[j]? = some (SV.ow ys) ∧ σ'[j]? = σ[j]?) : SB K H0 Hb e' σ' H Hs :=
  ⟨s.gr, r, fun i xs p h1 h2 => s.new i xs p (o i xs h1).1 ((o i xs h1).2.symm.trans h2)⟩
/-- the own list at slot i becomes another -/
theorem SB.mut (s : SB K H0 Hb e σ H Hs) {i : Nat} {xs xs' : List D} {p : Addr} {vs vs' : List V} (h1 : e[i]? = some (.ow xs)) (h2 : σ[i]? = some (some (.ref p))) (h3 : H p = some (.lst vs)) (h4 : Hs p = none) (r : RpA K Hs vs' xs') :
    SB K H0 Hb (e.set i (.ow xs')) σ (upd H p (.lst vs')) Hs := by
  have hi : i < e.length := (List.getElem?_eq_some_iff.mp h1).1
  have nw := s.new i xs p h1 h2
  refine ⟨⟨fun b o hb => ?_, s.gr.sh, fun b o hb => ?_, s.gr.own⟩, ⟨fun b o hb => ?_, by rw [List.length_set]; exact s.sr.len, fun j d hj => ?_, fun j ys hj => ?_, fun j k ys zs q g1 g2 g3 g4 => ?_⟩, fun j ys q g1 g2 => ?_⟩
  · rw [upd_ne (ne_of_none hb nw)]; exact s.gr.all _ _ hb
  · rw [upd_ne (ne_of_none hb h4)]; exact s.gr.sub _ _ hb
  · rw [upd_ne (ne_of_none hb h4)]; exact s.gr.sub _ _ hb
  · rw [get_set] at hj
    by_cases q : i = j
    · rw [if_pos q] at hj
      split at hj <;> cases hj
    · rw [if_neg q] at hj
      exact s.sr.sh j d hj
  · rw [get_set] at hj
    by_cases q : i = j
    · rw [if_pos q, if_pos (by rw [← q]; exact hi)] at hj
      cases hj
      exact ⟨p, vs', by rw [← q]; exact h2, upd_same, h4, r⟩
    · rw [if_neg q] at hj
      obtain ⟨p2, vs2, a1, a2, a3, a4⟩ := s.sr.ow j ys hj
      refine ⟨p2, vs2, a1, ?_, a3, a4⟩
      rw [upd_ne (fun z => q (s.sr.ne i j xs ys p h1 hj h2 (by rw [z] at a1; exact a1)))]
      exact a2
  · rw [get_set] at g1 g2
    have w : ∀ (j : Nat) ys, (if i = j then (if j < e.length then some (SV.ow xs') else none) else e[j]?) = some (SV.ow ys) → ∃ zs, e[j]? = some (SV.ow zs) := fun j ys hj => by
      by_cases q : i = j
      · rw [← q]; exact ⟨_, h1⟩
      · rw [if_neg q] at hj; exact ⟨_, hj⟩
    obtain ⟨a, ha⟩ := w j ys g1
    obtain ⟨b, hb⟩ := w k zs g2
    exact s.sr.ne j k a b q ha hb g3 g4
  · rw [get_set] at g1
    by_cases q' : i = j
    · rw [← q', h2] at g2
      cases g2
      exact nw
    · rw [if_neg q'] at g1
      exact s.new j ys q g1 g2
theorem SB.frz (s : SB K H0 Hb e σ H Hs) (i : Nat) : ∃ Hs', SB K H0 Hb (frz i e) σ H Hs' := by
  unfold PL.frz
  split
  · rename_i xs h1
    obtain ⟨p, vs, a1, a2, a3, a4⟩ := s.sr.ow i xs h1
    have hi : i < e.length := (List.getElem?_eq_some_iff.mp h1).1
    have sm : Same Hs (upd Hs p (.lst vs)) := same_upd a3
    have sb : Same (upd Hs p (.lst vs)) H := fun b o hb => by
      by_cases q : b = p
      · subst q; rw [upd_same] at hb; cases hb; exact a2
      · rw [upd_ne q] at hb; exact s.sr.sub _ _ hb
    refine ⟨upd Hs p (.lst vs), ⟨s.gr.all, s.gr.sh.trans sm, sb, fun b o hb nb => ?_⟩, ⟨sb, by rw [List.length_set]; exact s.sr.len, fun j d hj => ?_, fun j ys hj => ?_, fun j k ys zs q g1 g2 g3 g4 => ?_⟩, fun j ys q g1 g2 => ?_⟩
    · rw [upd_ne (ne_of_none hb (s.new i xs p h1 a1))]
      exact s.gr.own b o hb nb
    · rw [get_set] at hj
      by_cases q : i = j
      · rw [if_pos q, if_pos (by rw [← q]; exact hi)] at hj
        cases hj
        exact ⟨_, by rw [← q]; exact a1, .lst upd_same (a4.up sm)⟩
      · rw [if_neg q] at hj
        obtain ⟨v, b1, b2⟩ := s.sr.sh j d hj
        exact ⟨v, b1, b2.up sm⟩
    · rw [get_set] at hj
      by_cases q : i = j
      · rw [if_pos q] at hj
        split at hj <;> cases hj
      · rw [if_neg q] at hj
        obtain ⟨p2, vs2, b1, b2, b3, b4⟩ := s.sr.ow j ys hj
        refine ⟨p2, vs2, b1, b2, ?_, b4.up sm⟩
        rw [upd_ne (fun z => q (s.sr.ne i j xs ys p h1 hj a1 (by rw [z] at b1; exact b1)))]
        exact b3
    · rw [get_set] at g1 g2
      by_cases q1 : i = j
      · rw [if_pos q1] at g1
        split at g1 <;> cases g1
      · by_cases q2 : i = k
        · rw [if_pos q2] at g2
          split at g2 <;> cases g2
        · rw [if_neg q1] at g1
          rw [if_neg q2] at g2
          exact s.sr.ne j k ys zs q g1 g2 g3 g4
    · rw [get_set] at g1
      by_cases q1 : i = j
      · rw [if_pos q1] at g1
        split at g1 <;> cases g1
      · rw [if_neg q1] at g1
        exact s.new j ys q g1 g2
  · exact ⟨Hs, s⟩
end
section
variable {X : Cx} {W : WX} {RT : RTT} {H0 Hb : Hp} {pos : Pos}
theorem postS_bind {A B : Type} {σ : St} {H Hs : Hp} {e : Env} {Rep : Hp → Hp → Hp → B → A → Prop} {r : R A} {k : A → Out} {Dn : Ends} (s : SB X.K H0 Hb e σ H Hs) (hp : PostS X W RT H0 Hb (r.out k) Dn)
    {T : B → Hp → Prop} (h : ∀ a b H1 Hs1, r = .ok a → Grow H Hs H1 Hs1 → SB X.K H0 Hb e σ H1 Hs1 → Rep H H1 Hs1 b a → PostS X W RT H0 Hb (k a) Dn → T b H1) : Post X W σ H Hs Rep r T := by
  cases r with
  | ok a => exact fun b H1 Hs1 g rp => h a b H1 Hs1 rfl g (s.grow g) rp hp
  | err c => exact fun H' s' => hp σ H' (s.gr.all.trans s') ((s.gr.sh.trans s.gr.sub).trans s')
  | stk => exact hp
theorem ppss_nil : PPSs X W RT [] sNil := ⟨_, pss_nil, fun e σ H Hs H0 Hb Dn s hp => hp σ H Hs s⟩
theorem ppss_cons {st : Stmt} {rest : List Stmt} {f g : SF} (h1 : PPS X W RT st f) (h2 : PPSs X W RT rest g) : PPSs X W RT (st :: rest) (sSeq f g) := by
  obtain ⟨t1, p1, h1⟩ := h1.out
  obtain ⟨t2, p2, h2⟩ := h2.out
  refine ⟨_, pss_cons p1 p2, fun e σ H Hs H0 Hb Dn s hp => ?_⟩
  refine h1 e σ H Hs H0 Hb _ s ?_
  unfold sSeq at hp
  cases e1 : f e with
  | next e' => rw [e1] at hp; exact fun σ' H' Hs' s' => h2 e' σ' H' Hs' H0 Hb Dn s' hp
  | ret d => rw [e1] at hp; exact hp
  | brk d => rw [e1] at hp; exact hp
  | cont d => rw [e1] at hp; exact hp
  | err d => rw [e1] at hp; exact hp
  | stk => rw [e1] at hp; exact hp
theorem ppss_one {st : Stmt} {f : SF} (h : PPS X W RT st f) : PPSs X W RT [st] f := let ⟨t, p, h⟩ := h.out; ⟨t, pss_one p, h⟩
theorem pps_frz (i : Nat) {st : Stmt} {f : SF} (h : PPS X W RT st f) : PPS X W RT st (sFrz i f) := by
  obtain ⟨t, p, h⟩ := h.out
  refine ⟨t, p, fun e σ H Hs H0 Hb Dn s hp => ?_⟩
  obtain ⟨Hs', s'⟩ := s.frz i
  exact h _ σ H Hs' H0 Hb Dn s' hp
theorem pps_cont : PPS X W RT (.Continue pos) sCont := ⟨_, ps_continue, fun e σ H Hs H0 Hb Dn s hp => hp σ H Hs s⟩
theorem pps_brk : PPS X W RT (.Break pos) sBrk := ⟨_, ps_break, fun e σ H Hs H0 Hb Dn s hp => hp σ H Hs s⟩
variable {ex : Expr} {f : EF} {l : LF} {x : Str} {pos' : Pos}
theorem pps_set (i : Nat) (hN : X.N.Nodup) (ha : PPE X W ex f) (hx : Loc X.env.scope x := by first | exact Or.inl rfl | exact Or.inr rfl) (hi : X.N[i]? = some x := by rfl) (hs : swapsWith ex (some (.Name x pos')) pos.line X.env = pure false := by rfl)
    (hf : X.fn x = true ∨ X.env.scope.names.lookup x = some .local := by first | exact .inl rfl | exact .inr rfl) : PPS X W RT (.Assign [.Name x pos'] ex pos) (sSet (gN i) f) := by
  obtain ⟨ta, pa, ha⟩ := ha.out
  refine ⟨_, ps_set hN hi hx pa hs hf, fun e σ H Hs H0 Hb Dn s hp => ?_⟩
  refine ha e σ H Hs _ s.sr (postS_bind s hp fun d v H1 Hs1 _ g1 s1 r1 hp1 => ?_)
  exact hp1 _ H1 Hs1 (s1.set i r1)
theorem pps_setT {tg : Expr} {sl : List Nat} {g : GF} (hg : PPG X tg sl g) (ha : PPE X W ex f) (hs : swapsWithSole [tg] ex pos.line X.env = pure false := by rfl) (hw : swappedStores [tg] ex X.env = pure none := by rfl)
    (h1 : (assignEach [tg] X.env).map (·.2) = [assign tg X.env] := by rfl) : PPS X W RT (.Assign [tg] ex pos) (sSet g f) := by
  obtain ⟨ta, pa, ha⟩ := ha.out
  obtain ⟨⟨tg', pg, hg⟩, ng⟩ := hg
  refine ⟨_, ps_asg pa pg hs hw h1, fun e σ H Hs H0 Hb Dn s hp => ?_⟩
  refine ha e σ H Hs _ s.sr (postS_bind s hp fun d v H1 Hs1 _ g1 s1 r1 hp1 => ?_)
  refine hg v d e σ H1 Hs1 _ s1.sr r1 ?_
  cases e1 : g d e with
  | ok e' => rw [e1] at hp1; exact fun σ' r' w' o' => hp1 σ' H1 Hs1 (s1.of r' o')
  | err c => exact absurd e1 (ng d e c)
  | stk => rw [e1] at hp1; exact hp1
/-- name = a new list, that will be changed -/
theorem pps_own (i : Nat) (hN : X.N.Nodup) (ha : PPF X W ex l) (hx : Loc X.env.scope x := by first | exact Or.inl rfl | exact Or.inr rfl) (hi : X.N[i]? = some x := by rfl) (hs : swapsWith ex (some (.Name x pos')) pos.line X.env = pure false := by rfl)
    (hf : X.fn x = true ∨ X.env.scope.names.lookup x = some .local := by first | exact .inl rfl | exact .inr rfl) : PPS X W RT (.Assign [.Name x pos'] ex pos) (sOwn i l) := by
  obtain ⟨ta, pa, ha⟩ := ha.out
  refine ⟨_, ps_set hN hi hx pa hs hf, fun e σ H Hs H0 Hb Dn s hp => ?_⟩
  refine ha e σ H Hs _ s.sr (postS_bind s hp fun d v H1 Hs1 _ g1 s1 r1 hp1 => ?_)
  obtain ⟨p, vs, rfl, n1, h1, n2, r⟩ := r1
  have fr : ∀ (j : Nat) (ys : List D), e[j]? = some (.ow ys) → σ[j]? ≠ some (some (.ref p)) := fun j ys hj hq => by
    obtain ⟨p2, vs2, b1, b2, b3, b4⟩ := s.sr.ow j ys hj
    rw [hq] at b1
    cases b1
    rw [n1] at b2
    cases b2
  refine hp1 _ H1 Hs1 ⟨s1.gr, s1.sr.setOw i h1 n2 r fr, fun j xs q g1' g2' => ?_⟩
  rw [get_set] at g1' g2'
  by_cases z : i = j
  · rw [if_pos z] at g2'
    split at g2'
    · cases g2'
      exact s.gr.all.free n1
    · cases g2'
  · rw [if_neg z] at g1' g2'
    exact s.new j xs q g1' g2'
theorem pps_do (ha : PPE X W ex f) (hs : swapsWith ex none pos.line X.env = pure false := by rfl) : PPS X W RT (.Expr ex pos) (sDo f) := by
  obtain ⟨ta, pa, ha⟩ := ha.out
  refine ⟨_, ps_expr pa hs, fun e σ H Hs H0 Hb Dn s hp => ?_⟩
  exact ha e σ H Hs _ s.sr (postS_bind s hp fun d v H1 Hs1 _ g1 s1 r1 hp1 => hp1 σ H1 Hs1 s1)
theorem pps_ret (ha : PPE X W ex f) : PPS X W (RepE X.K) (.Return (some ex) pos) (sRet f) := by
  obtain ⟨ta, pa, ha⟩ := ha.out
  refine ⟨_, ps_ret pa, fun e σ H Hs H0 Hb Dn s hp => ?_⟩
  exact ha e σ H Hs _ s.sr (postS_bind s hp fun d v H1 Hs1 _ g1 s1 r1 hp1 => hp1 v H1 Hs1 s1.gr r1)
theorem pps_if {c : Expr} {t : TF} {a b : List Stmt} {fa fb : SF} (hc : PPT X W c t) (ha : PPSs X W RT a fa) (hb : PPSs X W RT b fb) : PPS X W RT (.If c a b pos) (sIf t fa fb) := by
  obtain ⟨tc, pc, hc⟩ := hc.out
  obtain ⟨ta, pa, ha⟩ := ha.out
  obtain ⟨tb, pb, hb⟩ := hb.out
  refine ⟨_, ps_if pc pa pb, fun e σ H Hs H0 Hb Dn s hp => ?_⟩
  refine hc e σ H Hs _ s.sr (postS_bind s hp fun d k H1 Hs1 _ g1 s1 r1 hp1 => ?_)
  subst r1
  cases k with
  | true => exact ha e σ H1 Hs1 H0 Hb Dn s1 hp1
  | false => exact hb e σ H1 Hs1 H0 Hb Dn s1 hp1
theorem SB.at (s : SB X.K H0 Hb e σ H Hs) {Hb' : Hp} (g : Grow H0 Hb H1 Hb') (s' : SB X.K H0 Hb' e' σ' H' Hs') : SB X.K H0 Hb e' σ' H' Hs' :=
  ⟨⟨s'.gr.all, g.sh.trans s'.gr.sh, s'.gr.sub, fun p o h n => s'.gr.own p o h (g.own p o h n)⟩, s'.sr, s'.new⟩
theorem pps_for {tg it : Expr} {body : List Stmt} {fi : LF} {g : GF} {fb : SF} {sl : List Nat} (hpo : PassesOwn (model X.prog X.w) X.A X.env X.xe) (hi : PPI X W true tg it fi) (hg : PPG X tg sl g) (hb : PPSs X W RT body fb)
    (hc : X.calm = true := by rfl) (hs : ∀ x, foldedSetIterable it X.env x = pure x := by intro _; rfl) : PPS X W RT (.For tg it body [] pos) (sFor fi g fb) := by
  obtain ⟨ti, pi, hi⟩ := hi.out
  obtain ⟨⟨tg', pg, hg⟩, ng⟩ := hg
  obtain ⟨tb, pb, hb⟩ := hb.out
  refine ⟨_, ps_for hpo hc pi pg pb hs, fun e σ H Hs H0 Hb Dn s hp => ?_⟩
  refine hi e σ H Hs _ s.sr ?_
  unfold sFor at hp
  cases e1 : fi e with
  | err c => rw [e1] at hp; exact fun H' s' => hp σ H' (s.gr.all.trans s') ((s.gr.sh.trans s.gr.sub).trans s')
  | stk => rw [e1] at hp; exact hp
  | ok xs =>
    rw [e1] at hp
    intro J H1 Hs1 g1 io
    have s1 := s.grow g1
    have gb : Grow H0 Hb H1 Hs1 := s1.gr
    refine ⟨fun i m σ2 H2 => m = xs.length - i ∧ i ≤ xs.length ∧ ∃ Hs2 e2, SB X.K H0 Hs1 e2 σ2 H2 Hs2 ∧ PostS X W RT H0 Hb (fLoop g fb (xs.drop i) e2) Dn,
      ⟨xs.length, rfl, Nat.zero_le _, Hs1, e, ⟨⟨gb.all, Same.refl _, gb.sub, fun _ _ _ n => n⟩, s1.sr, s1.new⟩, by rw [List.drop_zero]; exact hp⟩, fun i m σ2 H2 hW => ?_⟩
    obtain ⟨hm, hle, Hs2, e2, s2, hp2⟩ := hW
    obtain ⟨i1, i2⟩ := io i H2 Hs2 (s2.gr.sh.trans s2.gr.sub) s2.gr.sh s2.gr.sub
    by_cases hlt : i < xs.length
    · right
      obtain ⟨go, yl⟩ := i1 hlt
      refine ⟨go, fun σ3 H3 => ∃ Hs3 e3, SB X.K H0 Hs1 e3 σ3 H3 Hs3 ∧ PostS X W RT H0 Hb (fLoop g fb (xs.drop (i + 1)) e3) Dn, fun σ3 H3 h3 => ⟨xs.length - (i + 1), by omega, rfl, hlt, h3⟩, fun x H3 y => ?_⟩
      obtain ⟨Hs3, g3, rx⟩ := yl x H3 y
      have s3 := s2.grow g3
      rw [List.drop_eq_getElem_cons hlt] at hp2
      unfold fLoop at hp2
      refine hg x xs[i] e2 σ2 H3 Hs3 _ s3.sr rx ?_
      cases q1 : g xs[i] e2 with
      | err c => exact absurd q1 (ng _ _ c)
      | stk => rw [q1] at hp2; exact hp2
      | ok e3 =>
        rw [q1] at hp2
        intro σ3 r3 w3 o3
        have s4 : SB X.K H0 Hs1 e3 σ3 H3 Hs3 := s3.of r3 o3
        refine hb e3 σ3 H3 Hs3 H0 Hs1 _ s4 ?_
        have hp3 : PostS X W RT H0 Hb (match fb e3 with
          | .next e2 => fLoop g fb (xs.drop (i + 1)) e2
          | .cont e2 => fLoop g fb (xs.drop (i + 1)) e2
          | .brk e2 => .next e2
          | .ret d => .ret d
          | .err c => .err c
          | .stk => .stk) Dn := hp2
        cases q2 : fb e3 with
        | next e4 => rw [q2] at hp3; exact fun σ4 H4 Hs4 s5 => ⟨Hs4, e4, s5, hp3⟩
        | cont e4 => rw [q2] at hp3; exact fun σ4 H4 Hs4 s5 => ⟨Hs4, e4, s5, hp3⟩
        | brk e4 => rw [q2] at hp3; exact fun σ4 H4 Hs4 s5 => hp3 σ4 H4 Hs4 (s.at gb s5)
        | ret d => rw [q2] at hp3; exact fun v H4 Hs4 g4 rt => hp3 v H4 Hs4 ⟨g4.all, gb.sh.trans g4.sh, g4.sub, fun p o h n => g4.own p o h (gb.own p o h n)⟩ rt
        | err c => rw [q2] at hp3; exact fun σ' H' z1 z2 => hp3 σ' H' z1 (gb.sh.trans z2)
        | stk => rw [q2] at hp3; exact hp3
    · left
      have ei : i = xs.length := by omega
      refine ⟨i2 ei, ?_⟩
      rw [ei, List.drop_length] at hp2
      exact hp2 σ2 H2 Hs2 (s.at gb s2)
theorem pps_while {c : Expr} {t : TF} {body : List Stmt} {fb : SF} (hpo : PassesOwn (model X.prog X.w) X.A X.env X.xe) (hc : PPT X W c t) (hb : PPSs X W RT body fb) : PPS X W RT (.While c body [] pos) (sWhile t fb) := by
  obtain ⟨tc, pc, hc⟩ := hc.out
  obtain ⟨tb, pb, hb⟩ := hb.out
  refine ⟨_, ps_while hpo pc pb, fun e σ H Hs H0 Hb Dn s hp => ?_⟩
  unfold sWhile at hp
  split at hp
  · rename_i hex
    refine ⟨fun m σ2 H2 => ∃ Hs2 e2, SB X.K H0 Hb e2 σ2 H2 Hs2 ∧ PostS X W RT H0 Hb (wLoop t fb m e2) Dn, ⟨_, Hs, e, s, hp⟩, fun m σ2 H2 hW => ?_⟩
    obtain ⟨Hs2, e2, s2, hp2⟩ := hW
    cases m with
    | zero => exact (show False from hp2).elim
    | succ n =>
      refine hc e2 σ2 H2 Hs2 _ s2.sr (postS_bind s2 hp2 fun d k H3 Hs3 _ g3 s3 r3 hp3 => ?_)
      subst r3
      cases k with
      | false => exact hp3 σ2 H3 Hs3 s3
      | true =>
        rw [if_pos rfl]
        refine ⟨fun σ4 H4 => ∃ Hs4 e4, SB X.K H0 Hb e4 σ4 H4 Hs4 ∧ PostS X W RT H0 Hb (wLoop t fb n e4) Dn, fun σ4 H4 h4 => ⟨n, Nat.lt_succ_self n, h4⟩, hb e2 σ2 H3 Hs3 H0 Hb _ s3 ?_⟩
        have hp4 : PostS X W RT H0 Hb (match fb e2 with
          | .next e2 => wLoop t fb n e2
          | .cont e2 => wLoop t fb n e2
          | .brk e2 => .next e2
          | .ret d => .ret d
          | .err c => .err c
          | .stk => .stk) Dn := hp3
        cases q2 : fb e2 with
        | next e4 => rw [q2] at hp4; exact fun σ4 H4 Hs4 s5 => ⟨Hs4, e4, s5, hp4⟩
        | cont e4 => rw [q2] at hp4; exact fun σ4 H4 Hs4 s5 => ⟨Hs4, e4, s5, hp4⟩
        | brk e4 => rw [q2] at hp4; exact hp4
        | ret d => rw [q2] at hp4; exact hp4
        | err c => rw [q2] at hp4; exact hp4
        | stk => rw [q2] at hp4; exact hp4
  · exact (show False from hp).elim

/-- name = [..], the name a local that no comprehension asks -/
theorem pps_setC (i : Nat) {elt tg iter : Expr} {ifs : List Expr} {scope : Scope} {own : List (Str × Nat)} {cpos : Pos} {it : LF} {g : GF} {t : TF} {f : EF} {sl : List Nat} {x : Str} {py pos : Pos} (own' : List (Str × Nat) := own)
    (hN : X.N.Nodup) (hi : PPI X W false tg iter it) (ok : blkC X.N X.env.scope scope own = true)
    (hg : ∀ (s : Shared) (H : Hp) (C : Addr) (cl : List (Str × Addr)) (fp : List Addr), PPG (X.blk s H scope (compEnvC scope cl C X.env) fp) tg sl g)
    (ht : ∀ (s : Shared) (H : Hp) (C : Addr) (cl : List (Str × Addr)) (fp : List Addr), PPTs (X.blk s H scope (compEnvC scope cl C X.env) fp) noW ifs t)
    (he : ∀ (s : Shared) (H : Hp) (C : Addr) (cl : List (Str × Addr)) (fp : List Addr), PPE (X.blk s H scope (compEnvC scope cl C X.env) fp) noW elt f) (hsl : ∀ i ∈ sl, i ∈ own.map (·.2) := by decide)
    (hc : X.calm = true := by rfl) (hs : ∀ x, foldedSetIterable iter X.env x = pure x := by intro _; rfl) (hy : X.N[i]? = some x := by rfl) (hyl : X.env.scope.names.lookup x = some .local := by rfl)
    (hsw : swapsWith (.ListComp elt [⟨tg, iter, ifs, 0⟩] scope cpos) (some (.Name x py)) pos.line X.env = pure true := by exact sw_true rfl rfl rfl (by kernel_rfl)) :
    PPS X W RT (.Assign [.Name x py] (.ListComp elt [⟨tg, iter, ifs, 0⟩] scope cpos) pos) (sSet (gN i) (eL (cmp it (own.map (·.2)) g t f))) := by
  obtain ⟨tl, h1, h2, h3⟩ := ppf_comp (W := W) (pos := cpos) hN hi ok hg ht he hsl hc
  have F : ∀ e σ H Hs Q, SR X.K e σ H Hs → Post X W σ H Hs (RepE X.K) (eL (cmp it (own.map (·.2)) g t f) e) Q → tl σ H Q := by
    have z := (PPF.of_comp (W := W) (h1 hs) h3)
    intro e σ H Hs Q s hp
    refine h3 e σ H Hs Q s ?_
    unfold eL at hp
    cases e1 : cmp it (own.map (·.2)) g t f e with
    | err c => rw [e1] at hp; exact hp
    | stk => rw [e1] at hp; exact hp
    | ok xs =>
      rw [e1] at hp
      rintro v H' Hs' gr ⟨p, vs, rfl, n1, k1, n2, r⟩
      have s2 : Same (upd Hs' p (.lst vs)) H' := fun b o hb => by
        by_cases q : b = p
        · subst q; rw [upd_same] at hb; cases hb; exact k1
        · rw [upd_ne q] at hb; exact gr.sub _ _ hb
      refine hp _ H' (upd Hs' p (.lst vs)) ⟨gr.all, gr.sh.trans (same_upd n2), s2, fun b o hb nb => ?_⟩ (.lst upd_same (r.up (same_upd n2)))
      rw [upd_ne (ne_of_none hb n1)]
      exact gr.own b o hb nb
  refine ⟨_, h2 hs hy hyl hsw, fun e σ H Hs H0 Hb Dn s hp => ?_⟩
  refine F e σ H Hs _ s.sr (postS_bind s hp fun d v H1 Hs1 _ g1 s1 r1 hp1 => ?_)
  exact hp1 _ H1 Hs1 (s1.set i r1)
/-- a comprehension as a value -/
theorem ppe_comp {elt tg iter : Expr} {ifs : List Expr} {scope : Scope} {own : List (Str × Nat)} {cpos : Pos} {it : LF} {g : GF} {t : TF} {f : EF} {sl : List Nat}
    (hN : X.N.Nodup) (hi : PPI X W false tg iter it) (ok : blkC X.N X.env.scope scope own = true)
    (hg : ∀ (s : Shared) (H : Hp) (C : Addr) (cl : List (Str × Addr)) (fp : List Addr), PPG (X.blk s H scope (compEnvC scope cl C X.env) fp) tg sl g)
    (ht : ∀ (s : Shared) (H : Hp) (C : Addr) (cl : List (Str × Addr)) (fp : List Addr), PPTs (X.blk s H scope (compEnvC scope cl C X.env) fp) noW ifs t)
    (he : ∀ (s : Shared) (H : Hp) (C : Addr) (cl : List (Str × Addr)) (fp : List Addr), PPE (X.blk s H scope (compEnvC scope cl C X.env) fp) noW elt f) (hsl : ∀ i ∈ sl, i ∈ own.map (·.2) := by decide)
    (hc : X.calm = true := by rfl) (hs : ∀ x, foldedSetIterable iter X.env x = pure x := by intro _; rfl) :
    PPE X W (.ListComp elt [⟨tg, iter, ifs, 0⟩] scope cpos) (eL (cmp it (own.map (·.2)) g t f)) := by
  obtain ⟨tl, h1, h2, h3⟩ := ppf_comp (W := W) (pos := cpos) hN hi ok hg ht he hsl hc
  exact (PPF.of_comp (W := W) (h1 hs) h3).e
/-! ### append, extend, x[k] = d -/
theorem own_at {e : Env} {σ : St} {H Hs : Hp} {i : Nat} (s : SR X.K e σ H Hs) {xs : List D} (h : e[i]? = some (.ow xs)) : ∃ p vs, σ[i]? = some (some (V.ref p)) ∧ H p = some (.lst vs) ∧ Hs p = none ∧ RpA X.K Hs vs xs := s.ow i xs h
theorem pps_app (i : Nat) {a : Expr} {p2 p3 : Pos} (ha : PPE X W a f) (hN : X.N[i]? = some x := by rfl) (hv : Vis X.env.scope x := by first | exact Or.inl rfl | exact Or.inr (Or.inl rfl) | exact Or.inr (Or.inr rfl)) (hd : (x == ("__debug__" : Str)) = false := by decide) (hcd : (x == ("__classdict__" : Str)) = false := by decide)
    (hs : swapsWith (.Call (.Attribute (.Name x pos') "append" p2) [a] [] p3) none pos.line X.env = pure false := by rfl)
    (hbase : attributeBase (.Name x pos') "append" X.env (eval (.Name x pos') X.env) = eval (.Name x pos') X.env := by rfl)
    (hfew : ((backTo p3 (starEach [a] X.env)).all (fun x => !x.1) && (backToKw p3 (keywordEach [] X.env)).all (fun x => x.1.isSome)
      && decide ([a].length + ([] : List Keyword).length + (if ([] : List Keyword).isEmpty then 0 else 1) < 30)) = true := by rfl)
    (hline : (p2.endLine == p3.line) = true := by rfl) (hst : starEach [a] X.env = (false, eval a X.env) :: starEach [] X.env := by rfl) :
    PPS X W RT (.Expr (.Call (.Attribute (.Name x pos') "append" p2) [a] [] p3) pos) (sApp i f) := by
  obtain ⟨ta, pa, ha⟩ := ha.out
  refine ⟨_, ps_expr (pe_bm PySem.F.plainAttrs_list PySem.F.slot_list_append PySem.F.type_list_append mt_append (pe_var hN hv hd hcd) (pa_cons pa pa_nil hst) hbase hfew hline hst) hs, fun e σ H Hs H0 Hb Dn s hp => ?_⟩
  unfold sApp at hp
  split at hp
  · rename_i xs h1
    obtain ⟨p, vs, a1, a2, a3, a4⟩ := s.sr.ow i xs h1
    refine ⟨_, a1, .inl ⟨rfl, vs, SqL.of a2⟩, ha e σ H Hs _ s.sr (postS_bind s hp fun d v H1 Hs1 _ g1 s1 r1 hp1 => ?_)⟩
    have hp2 : PostS X W RT H0 Hb (if xs.length < szL then Out.next (e.set i (.ow (xs ++ [d]))) else .stk) Dn := hp1
    split at hp2
    · rename_i hz
      refine ⟨p, vs, v, rfl, rfl, g1.all _ _ a2, by rw [a4.length]; exact hz, hp2 σ _ Hs1 (s1.mut h1 a1 (g1.all _ _ a2) (g1.own _ _ a2 a3) ((a4.up g1.sh).append (.cons r1 .nil)))⟩
    · exact (show False from hp2).elim
  · exact (show False from hp).elim
theorem pps_ext (i : Nat) {a : Expr} {p2 p3 : Pos} (ha : PPB X W a f) (hN : X.N[i]? = some x := by rfl) (hv : Vis X.env.scope x := by first | exact Or.inl rfl | exact Or.inr (Or.inl rfl) | exact Or.inr (Or.inr rfl)) (hd : (x == ("__debug__" : Str)) = false := by decide) (hcd : (x == ("__classdict__" : Str)) = false := by decide)
    (hs : swapsWith (.Call (.Attribute (.Name x pos') "extend" p2) [a] [] p3) none pos.line X.env = pure false := by rfl)
    (hbase : attributeBase (.Name x pos') "extend" X.env (eval (.Name x pos') X.env) = eval (.Name x pos') X.env := by rfl)
    (hfew : ((backTo p3 (starEach [a] X.env)).all (fun x => !x.1) && (backToKw p3 (keywordEach [] X.env)).all (fun x => x.1.isSome)
      && decide ([a].length + ([] : List Keyword).length + (if ([] : List Keyword).isEmpty then 0 else 1) < 30)) = true := by rfl)
    (hline : (p2.endLine == p3.line) = true := by rfl) (hst : starEach [a] X.env = (false, eval a X.env) :: starEach [] X.env := by rfl) :
    PPS X W RT (.Expr (.Call (.Attribute (.Name x pos') "extend" p2) [a] [] p3) pos) (sExt i f) := by
  obtain ⟨ta, pa, ha⟩ := ha.out
  refine ⟨_, ps_expr (pe_bm PySem.F.plainAttrs_list PySem.F.slot_list_extend PySem.F.type_list_extend mt_extend (pe_var hN hv hd hcd) (pa_cons pa pa_nil hst) hbase hfew hline hst) hs, fun e σ H Hs H0 Hb Dn s hp => ?_⟩
  unfold sExt at hp
  split at hp
  · rename_i xs h1
    obtain ⟨p, vs, a1, a2, a3, a4⟩ := s.sr.ow i xs h1
    refine ⟨_, a1, .inl ⟨rfl, vs, SqL.of a2⟩, ha e σ H Hs _ s.sr (postS_bind s hp fun d v H1 Hs1 _ g1 s1 r1 hp1 => ?_)⟩
    obtain ⟨ys, rfl⟩ : ∃ ys, d = .list ys := by
      cases d <;> first
        | exact (show False from hp1).elim
        | exact ⟨_, rfl⟩
    obtain ⟨q, ws, rfl, b1, b2⟩ := r1.list g1.sub
    have hp2 : PostS X W RT H0 Hb (if xs.length + ys.length ≤ szL then Out.next (e.set i (.ow (xs ++ ys))) else .stk) Dn := hp1
    split at hp2
    · rename_i hz
      refine ⟨p, q, vs, ws, rfl, rfl, g1.all _ _ a2, b1, by rw [a4.length, b2.length]; exact hz, hp2 σ _ Hs1 (s1.mut h1 a1 (g1.all _ _ a2) (g1.own _ _ a2 a3) ((a4.up g1.sh).append b2))⟩
    · exact (show False from hp2).elim
  · exact (show False from hp).elim
theorem pps_put (i : Nat) {k : Expr} {g : EF} {p2 : Pos} (hk : PPE X W k g) (ha : PPE X W ex f) (hN : X.N[i]? = some x := by rfl) (hv : Vis X.env.scope x := by first | exact Or.inl rfl | exact Or.inr (Or.inl rfl) | exact Or.inr (Or.inr rfl)) (hd : (x == ("__debug__" : Str)) = false := by decide) (hcd : (x == ("__classdict__" : Str)) = false := by decide)
    (hs : swapsWithSole [.Subscript (.Name x pos') k p2] ex pos.line X.env = pure false := by rfl) (hw : swappedStores [.Subscript (.Name x pos') k p2] ex X.env = pure none := by rfl)
    (h1 : (assignEach [.Subscript (.Name x pos') k p2] X.env).map (·.2) = [assign (.Subscript (.Name x pos') k p2) X.env] := by rfl)
    (hs2 : ∀ v, assign (.Subscript (.Name x pos') k p2) X.env v = (do
      let ov ← holding [v] (eval (.Name x pos') X.env)
      let iv ← holding [v, ov] (eval k X.env)
      standAt p2
      holding [v, ov, iv] (setItem ov iv v)
      release [v, ov, iv] []) := by intro _; rfl) : PPS X W RT (.Assign [.Subscript (.Name x pos') k p2] ex pos) (sPut i g f) := by
  obtain ⟨ta, pa, ha⟩ := ha.out
  obtain ⟨tk, pk, hk⟩ := hk.out
  refine ⟨_, ps_asg pa (pg_sub (pe_var hN hv hd hcd) pk set_list hs2) hs hw h1, fun e σ H Hs H0 Hb Dn s hp => ?_⟩
  unfold sPut at hp
  split at hp
  · rename_i xs h1
    obtain ⟨p, vs, a1, a2, a3, a4⟩ := s.sr.ow i xs h1
    refine ha e σ H Hs _ s.sr (postS_bind s hp fun d v H1 Hs1 _ g1 s1 r1 hp1 => ?_)
    refine ⟨_, a1, hk e σ H1 Hs1 _ s1.sr (postS_bind s1 hp1 fun kd kv H2 Hs2 _ g2 s2 r2 hp2 => ?_)⟩
    obtain ⟨j, rfl⟩ : ∃ j, kd = .int j := by
      cases kd <;> first
        | exact (show False from hp2).elim
        | exact ⟨_, rfl⟩
    cases r2
    cases e3 : ixN xs.length j with
    | none =>
      have hp3 : PostS X W RT H0 Hb ((toR (ixN xs.length j)).out fun n => Out.next (e.set i (.ow (xs.set n d)))) Dn := hp2
      rw [e3] at hp3
      exact (show False from hp3).elim
    | some n =>
      have hp3 : PostS X W RT H0 Hb ((toR (ixN xs.length j)).out fun n => Out.next (e.set i (.ow (xs.set n d)))) Dn := hp2
      rw [e3] at hp3
      have g12 := g1.trans g2
      refine ⟨p, vs, j, n, rfl, rfl, g12.all _ _ a2, by rw [a4.length]; exact e3, hp3 σ _ Hs2 (s2.mut h1 a1 (g12.all _ _ a2) (g12.own _ _ a2 a3) ((a4.up g12.sh).set (r1.up g2.sh)))⟩
  · exact (show False from hp).elim
/-! ### raise -/
theorem pps_raise {c m : Str} {C : Addr} {j : Nat} {p p2 p3 : Pos} {bmB : List Value} {B newId initId : String} (tk : Takes X W) (F : ExcBaseFacts B newId initId bmB) (q : PySem.W.excIn X.K C bmB newId = true) (gC : X.mg c = some (.ref C)) (kC : PySem.W.keepIn X.K (.ref C) = true) (r : Raises X (.ref C))
    (hg : Gl X c := by rfl) (hdb : (c == ("__debug__" : Str)) = false := by decide) (hc : X.calm = true := by rfl) : PPS X W RT (.Raise (some (.Call (.Name c p) [.Constant (.str m) j p2] [] p3)) none pos) (sRaise c) := by
  refine ⟨_, ps_raise hc tk (pmk_own F q gC kC r hg hdb), fun e σ H Hs H0 Hb Dn s hp => ?_⟩
  have z := hp σ H s.gr.all (s.gr.sh.trans s.gr.sub)
  unfold clsV at z
  rw [gC] at z
  exact z
end
/-! ### a def -/
section
variable {P : Program} {w : World} {K : PySem.W.Frag} {mg : Str → Option Value} {base : Heap}
theorem replicate_no {n i : Nat} {d : D} : (List.replicate n SV.no)[i]? ≠ some (.sh d) := fun h => by
  rw [List.getElem?_replicate] at h
  split at h <;> cases h
theorem replicate_no' {n i : Nat} {d : List D} : (List.replicate n SV.no)[i]? ≠ some (.ow d) := fun h => by
  rw [List.getElem?_replicate] at h
  split at h <;> cases h
theorem fnP_of {x qual : Str} {st : Stmt} {f : Addr} {fd : FuncData} {N ps : List Str} {k : Nat} {b : SF} (F : Fun K x qual st f fd) (S : FnScope N ps (defScope st))
    (hbody : ∀ (cdv : Value) (A : Around) (outer : List PySem.Env) (s : Shared) (H : Hp) (E : XK), Room k (A.deeper (envOfC qual (defScope st) s.heap.objs.size f cdv)) →
      PPSs (cxOf (L2.CX P w) P w K mg base N qual (defScope st) f cdv A outer s H E) (fun cls d _ H => E cls d H) (RepE K) (defBody st) b) :
    FnP P w K mg base (k + 1) f fd ps (fnR N.length b) := by
  refine F.okX S (fun vs H Q E h => ?_) fun cdv A outer s H vs Q E hr h => ?_
  · obtain ⟨Hs, ds, _, r, hl, _⟩ := h
    rw [r.length]; exact hl
  · obtain ⟨Hs, ds, sm, r, hl, h⟩ := h
    obtain ⟨t, p, ht⟩ := (hbody cdv A outer s H E hr).out
    refine ⟨t, p, ht (ds.map SV.sh ++ List.replicate (N.length - ds.length) SV.no) (L2.start N vs) H Hs H Hs _ ⟨Grow.refl sm, ⟨sm, ?_, fun i d hi => ?_, fun i xs hi => ?_, fun i j xs ys q h1 h2 h3 h4 => ?_⟩, fun i xs q h1 h2 => ?_⟩ ?_⟩
    · unfold L2.start
      rw [List.length_append, List.length_append, List.length_map, List.length_map, List.length_replicate, List.length_replicate, r.length]
    · unfold L2.start
      by_cases hlt : i < ds.length
      · rw [List.getElem?_append_left (by rw [List.length_map]; exact hlt), List.getElem?_map, List.getElem?_eq_getElem hlt] at hi
        cases hi
        obtain ⟨v, h1, h2⟩ := r.get (List.getElem?_eq_getElem hlt)
        refine ⟨v, ?_, h2⟩
        rw [List.getElem?_append_left (by rw [List.length_map, r.length]; exact hlt), List.getElem?_map, h1]
        rfl
      · rw [List.getElem?_append_right (by rw [List.length_map]; omega)] at hi
        exact absurd hi replicate_no
    · by_cases hlt : i < ds.length
      · rw [List.getElem?_append_left (by rw [List.length_map]; exact hlt), List.getElem?_map, List.getElem?_eq_getElem hlt] at hi
        cases hi
      · rw [List.getElem?_append_right (by rw [List.length_map]; omega)] at hi
        exact absurd hi replicate_no'
    · by_cases hlt : i < ds.length
      · rw [List.getElem?_append_left (by rw [List.length_map]; exact hlt), List.getElem?_map, List.getElem?_eq_getElem hlt] at h1
        cases h1
      · rw [List.getElem?_append_right (by rw [List.length_map]; omega)] at h1
        exact absurd h1 replicate_no'
    · by_cases hlt : i < ds.length
      · rw [List.getElem?_append_left (by rw [List.length_map]; exact hlt), List.getElem?_map, List.getElem?_eq_getElem hlt] at h1
        cases h1
      · rw [List.getElem?_append_right (by rw [List.length_map]; omega)] at h1
        exact absurd h1 replicate_no'
    · unfold fnR at h
      cases e1 : b (ds.map SV.sh ++ List.replicate (N.length - ds.length) SV.no) with
      | next e' => rw [e1] at h; exact fun σ' H' Hs' s' => h .non H' Hs' s'.gr .non
      | ret d => rw [e1] at h; exact fun v H' Hs' g rt => h v H' Hs' g rt
      | brk e' => rw [e1] at h; exact (show False from h).elim
      | cont e' => rw [e1] at h; exact (show False from h).elim
      | err c => rw [e1] at h; exact fun σ' H' g _ => h H' g
      | stk => rw [e1] at h; exact h
end

/-! ### more new lists -/
section
variable {X : Cx} {W : WX} {a b : Expr} {f g : EF} {pos p p2 : Pos}
theorem ppf_mul (ha : PPB X W a f) (hb : PPB X W b g) : PPF X W (.BinOp a .Mult b pos) (lMul f g) := by
  obtain ⟨ta, pa, ha⟩ := ha.out
  obtain ⟨tb, pb, hb⟩ := hb.out
  refine ⟨tOp rRep ta tb, pe_op op_rep pa pb, fun e σ H Hs Q s hp => ?_⟩
  have an : ∀ H1, Same H H1 → ∀ H' Hs' v xs, RepF X.K H1 H' Hs' v xs → RepF X.K H H' Hs' v xs := fun H1 s1 H' Hs' v xs ⟨p, vs, h1, h2, h3⟩ => ⟨p, vs, h1, s1.free h2, h3⟩
  have hp0 : Post X W σ H Hs (RepF X.K) ((f e).bind fun d1 => (g e).bind fun d2 => (opMul d1 d2).bind asL) Q := by
    unfold lMul e2 at hp
    cases e1 : f e with
    | ok d1 =>
      rw [e1] at hp
      cases e2 : g e with
      | ok d2 => rw [R.bind_ok, e2] at hp; exact hp
      | err c => rw [R.bind_ok, e2] at hp; exact hp
      | stk => rw [R.bind_ok, e2] at hp; exact hp
    | err c => rw [e1] at hp; exact hp
    | stk => rw [e1] at hp; exact hp
  refine ha e σ H Hs _ s (Post.bind hp0 an fun d1 x H1 Hs1 he1 g1 r1 hp1 => ?_)
  have an1 : ∀ H2, Same H1 H2 → ∀ H' Hs' v xs, RepF X.K H2 H' Hs' v xs → RepF X.K H1 H' Hs' v xs := fun H1 s1 H' Hs' v xs ⟨p, vs, h1, h2, h3⟩ => ⟨p, vs, h1, s1.free h2, h3⟩
  refine hb e σ H1 Hs1 _ (s.grow g1) (Post.bind hp1 an1 fun d2 y H2 Hs2 he2 g2 r2 hp2 => ?_)
  cases d1 <;> cases d2 <;> first
    | exact (show False from hp2).elim
    | skip
  · dsimp only [opMul] at hp2
    split at hp2 <;> exact (show False from hp2).elim
  · dsimp only [opMul] at hp2
    split at hp2
    · exact (show False from hp2).elim
    · split at hp2 <;> exact (show False from hp2).elim
  · rename_i k
    dsimp only [opMul] at hp2
    split at hp2
    · rename_i hz
      obtain ⟨p, vs, rfl, h1, r1⟩ := (r1.up g2).list g2.sub
      refine ⟨p, k, vs, rfl, r2.int, h1, by omega, by omega, by rw [r1.length]; exact hz.2.2, fun l hl => hp2 _ _ _ (Grow.gar g2.sub hl) ⟨l, _, rfl, hl, upd_same, g2.sub.free hl, r1.reps _⟩⟩
    · exact (show False from hp2).elim
theorem rgV_rp {K : PySem.W.Frag} {H : Hp} : ∀ (l : List Nat) (m : Int), RpA K H (l.map fun i => V.int (m + (i : Nat))) (l.map fun (i : Nat) => PyData.int (m + (i : Int)))
  | [], _ => .nil
  | i :: l, m => .cons (.int _) (rgV_rp l m)
theorem ppf_lr (hm : X.mg "range" = none) (hml : X.mg "list" = none) (ha : PPE X W a f) (hb : PPE X W b g) (hc : X.calm = true := by rfl) (hg : Gl X "range" := by rfl) (hgl : Gl X "list" := by rfl)
    (na : starEach [a, b] X.env = (false, eval a X.env) :: starEach [b] X.env := by rfl) (nb : starEach [b] X.env = (false, eval b X.env) :: starEach [] X.env := by rfl) (hp : (backTo p2 (starEach [b] X.env)).any (·.1) = false := by rfl)
    (nl : starEach [.Call (.Name "range" p) [a, b] [] p2] X.env = (false, eval (.Call (.Name "range" p) [a, b] [] p2) X.env) :: starEach [] X.env := by rfl) {p3 : Pos} :
    PPF X W (.Call (.Name "list" p3) [.Call (.Name "range" p) [a, b] [] p2] [] pos) (bLR f g) := by
  obtain ⟨ta, pa, ha⟩ := ha.out
  obtain ⟨tb, pb, hb⟩ := hb.out
  refine ⟨_, pe_listRg hc hgl hml (prg_2 hg hm pa pb na nb hp) nl, fun e σ H Hs Q s hp => ?_⟩
  have an : ∀ H0 H1, Same H0 H1 → ∀ H' Hs' v xs, RepF X.K H1 H' Hs' v xs → RepF X.K H0 H' Hs' v xs := fun H0 H1 s1 H' Hs' v xs ⟨p, vs, h1, h2, h3⟩ => ⟨p, vs, h1, s1.free h2, h3⟩
  refine ha e σ H Hs _ s (Post.bind (Rep2 := RepF X.K) hp (an H) fun d1 x H1 Hs1 _ g1 r1 hp1 => ?_)
  refine hb e σ H1 Hs1 _ (s.grow g1) (Post.bind (Rep2 := RepF X.K) hp1 (an H1) fun d2 y H2 Hs2 _ g2 r2 hp2 => ?_)
  obtain ⟨m, rfl⟩ : ∃ z, d1 = .int z := by
    cases d1 <;> first
      | exact (show False from hp2).elim
      | exact ⟨_, rfl⟩
  obtain ⟨n, rfl⟩ : ∃ z, d2 = .int z := by
    cases d2 <;> first
      | exact (show False from hp2).elim
      | exact ⟨_, rfl⟩
  cases r1
  cases r2
  have hp3 : Post X W σ H2 Hs2 (RepF X.K) (if smI m && smI n && decide ((n - m).toNat ≤ szL) then R.ok (rng m n) else .stk) Q := hp2
  split at hp3
  · rename_i hn
    simp only [Bool.and_eq_true, decide_eq_true_eq] at hn
    obtain ⟨h1, h2⟩ := smI_ok hn.1.1
    obtain ⟨h3, h4⟩ := smI_ok hn.1.2
    refine ⟨m, n, rfl, rfl, ⟨h1, h2, h3, h4, hn.2⟩, fun q hq => hp3 _ _ _ (Grow.gar g2.sub hq) ⟨q, _, rfl, hq, upd_same, g2.sub.free hq, rgV_rp _ _⟩⟩
  · exact (show False from hp3).elim
end

/-! ### a def by its name -/
structure Cal (P : Program) (w : World) (K : PySem.W.Frag) (mg : Str → Option Value) (base : Heap) (x : Str) (ps : List Str) (k : Nat) (m : List D → R D) : Prop where
  ex : ∃ f fd, FnP P w K mg base k f fd ps m ∧ mg x = some (.ref f) ∧ PySem.W.keepIn K (.ref f) = true ∧ Binds K fd ps []
section
variable {X : Cx} {W : WX} {a : Expr} {es : List Expr} {fs : LF} {x : Str} {ps : List Str} {k j : Nat} {m : List D → R D} {p pos : Pos}
theorem ppe_cal (C : Cal X.prog X.w X.K X.mg X.base x ps k m) (hr : Room j X.A) (tk : Takes X W) (ha : PPA X W (a :: es) fs) (hj : k ≤ j := by decide)
    (hl : (a :: es).length = ps.length := by rfl) (hg : Gl X x := by rfl) (hdb : (x == ("__debug__" : Str)) = false := by decide)
    (he : starEach (a :: es) X.env = (false, eval a X.env) :: starEach es X.env := by rfl) (hpl : (backTo pos (starEach es X.env)).any (·.1) = false := by rfl) : PPE X W (.Call (.Name x p) (a :: es) [] pos) (eC m fs) := by
  obtain ⟨f, fd, F, hm, hk, hb⟩ := C.ex
  exact ppe_call F (hr.mono hj) hm hk hb tk ha hl hg hdb he hpl
theorem ppe_calL (C : Cal X.prog X.w X.K X.mg X.base x ps k m) (hr : Room j X.A) (tk : Takes X W) (ha : PPBA X W (a :: es) fs) (hn : ∀ e ds, fs e = .ok ds → ds.length = ps.length) (hj : k ≤ j := by decide)
    (hg : Gl X x := by rfl) (hdb : (x == ("__debug__" : Str)) = false := by decide)
    (he : starEach (a :: es) X.env = (false, eval a X.env) :: starEach es X.env := by rfl) (hpl : (backTo pos (starEach es X.env)).any (·.1) = false := by rfl) : PPE X W (.Call (.Name x p) (a :: es) [] pos) (eCb m fs) := by
  obtain ⟨f, fd, F, hm, hk, hb⟩ := C.ex
  exact ppe_callL F (hr.mono hj) hm hk hb tk ha hn hg hdb he hpl
end
end PL

namespace PL
open PySem PySem.Spec PyProof.Rows L2

/-! ### exceptions: the class asked of one that a suite holds -/
section
variable {X : Cx} {W : WX} {pos : Pos} {p : Pos}
theorem ppe_isE {q : Addr × Obj} {Dc : Addr} {b : Bool} {x c n : Str} {pn pc : Pos} {cv : V} {cu : Value} (i : Nat) (EC : ExcC X.K Dc) (hp : q ∈ X.pn) (hz : Zc (.ref Dc) none q.2) (hf : ∃ vs, q.2.data = .fields vs)
    (hm : X.mg x = none) (hv : bootBuiltins x = some (.builtin "isinstance")) (hC : PE X (.Name c pc) (tC cv)) (hcv : ∀ u, RelV cv u → u = cu) (hk : PySem.W.kitOne X.K (.ref Dc) cu = some b)
    (hN : X.N[i]? = some n := by rfl) (hvn : Vis X.env.scope n := by first | exact Or.inl rfl | exact Or.inr (Or.inl rfl) | exact Or.inr (Or.inr rfl))
    (hg : Gl X x := by rfl) (hn : x ≠ "__name__" := by decide) (hdb : (x == ("__debug__" : Str)) = false := by decide) (hd : (n == ("__debug__" : Str)) = false := by decide) (hcd : (n == ("__classdict__" : Str)) = false := by decide)
    (he : starEach [.Name n pn, .Name c pc] X.env = (false, eval (.Name n pn) X.env) :: starEach [.Name c pc] X.env := by rfl) (he2 : starEach [.Name c pc] X.env = (false, eval (.Name c pc) X.env) :: starEach [] X.env := by rfl)
    (hpl : (backTo pos (starEach [.Name c pc] X.env)).any (·.1) = false := by rfl) : PPE X W (.Call (.Name x p) [.Name n pn, .Name c pc] [] pos) (e1 (isAdr q.1 b) (eV i)) := by
  have call : CallR X (.builtin "isinstance") (fun xs H Q => ∃ (c : V) (cv : Value) (b : Bool), xs = [.ref q.1, c] ∧ (∀ u, RelV c u → u = cv) ∧ PySem.W.kitOne X.K (.ref Dc) cv = some b ∧ Q (.bl b) H) := by
    intro pins s σ H xs us Q I r h
    obtain ⟨c, cv, b, rfl, hcv, e, q1⟩ := h
    cases r with
    | cons rx rr =>
      cases rr with
      | cons rt rr =>
        cases rr
        cases rx
        have ec := hcv _ rt
        subst ec
        obtain ⟨hget, _⟩ := I.pin q (List.mem_append.mpr (.inl hp))
        obtain ⟨vs, hv⟩ := hf
        have J : PySem.W.InstAt s.heap q.1 q.2 Dc none := by
          obtain ⟨a, oc, od, oda, osl⟩ := q
          obtain ⟨h1, h2⟩ := hz
          dsimp only at h1 h2 hv
          subst h1 h2 hv
          exact ⟨hget, rfl, rfl, trivial⟩
        exact PySem.W.kia_one (PySem.W.handS_kitx_exc EC.hg EC.hk EC.hs EC.hd EC.ha EC.hn EC.ht EC.hm) I.kIn J e (fun z => nomatch z) fun tk => ⟨.bl b, H, I.kept (t' := tk) fun _ _ z => z, rfl, q1⟩
  obtain ⟨ta, pa, ha⟩ := (ppe_v (X := X) (W := W) i (pos := pn) hN hvn hd hcd).out
  refine ⟨_, pe_callB call hg hm hv (pa_cons pa (pa_cons hC pa_nil he2) he) hn hdb he hpl, fun e σ H Hs Q s hp => ?_⟩
  refine ha e σ H Hs _ s (Post.bind (Rep2 := RepE X.K) hp anE fun d1 v H1 Hs1 _ g1 r1 hp1 => ?_)
  unfold isAdr at hp1
  split at hp1
  · rename_i n
    split at hp1
    · rename_i hn
      subst hn
      cases r1 with
      | adr a => exact ⟨cv, cu, b, rfl, hcv, hk, hp1 _ H1 Hs1 (Grow.refl g1.sub) (.bl b)⟩
    · exact (show False from hp1).elim
  · exact (show False from hp1).elim

/-! ### a def that is called in an except suite with the exception, an object of class Dc -/
def FnX (P : Program) (w : World) (K : PySem.W.Frag) (mg : Str → Option Value) (base : Heap) (k : Nat) (f : Addr) (fd : FuncData) (ps : List Str) (Dc : Addr) (res : Str) : Prop :=
  ∀ (A : Around) (outer : List PySem.Env) (s : Shared) (H : Hp) (args : Args) (Q : VK) (p : Addr × Obj), L2H.RoomH k A → L2H.PinOk outer H s p → Zc (.ref Dc) none p.2 → (∃ vs, p.2.data = .fields vs) → Env0 P w K mg base A outer s H → BindsTo s fd args (ps.zip [.ref p.1]) →
    (∀ H', Same H H' → Q (.str res) H') → codeAny (model P w) A (.call (.ref f) args) (CR (L2.CX P w) outer P w H s Q fun _ _ _ => False) s
theorem fnX_of {P : Program} {w : World} {K : PySem.W.Frag} {mg : Str → Option Value} {base : Heap} {k : Nat} {x qual : Str} {st : Stmt} {f : Addr} {fd : FuncData} {N : List Str} {n : Str} {Dc : Addr} {res : Str} (F : Fun K x qual st f fd) (S : FnScope N [n] (defScope st))
    (hbody : ∀ (cdv : Value) (A : Around) (outer : List PySem.Env) (s : Shared) (H : Hp) (E : XK) (p : Addr × Obj), Zc (.ref Dc) none p.2 → (∃ vs, p.2.data = .fields vs) → ∃ b : SF, PPSs (L2H.cxH (L2.CX P w) P w K mg base N qual (defScope st) f cdv A outer s H E p) noW (RepE K) (defBody st) b ∧
      b (.sh (adr p.1) :: List.replicate (N.length - 1) .no) = .ret (.str res)) :
    FnX P w K mg base (k + 1) f fd [n] Dc res := by
  obtain ⟨⟨oc, od, kV, doc, pm, an, cdv, ct, osl, rfl, lk, hcd⟩, kf⟩ := F
  intro A outer s H args Q p hr hpin hz hf e0 hb hq
  have KX : K.In s.heap := e0.mod.kin.keeps fun b o e => (e0.bs b o e).1
  have lim : s.heap.NoLimit := e0.mod.nolimit.keeps fun b o e => (e0.bs b o e).1
  have hkind : ∀ y ∈ [n].zip [Value.ref p.1], (defScope st).names.lookup y.1 = some .local ∨ ((defScope st).names.lookup y.1 = some .cell ∧ ((cellsFrom (s.heap.objs.size + 1) (defScope st).names []).lookup y.1).isSome = true) := fun ⟨n', v⟩ hy => by
    rcases S.par n' (List.of_mem_zip hy).1 with q | q
    · exact .inl q
    · exact .inr ⟨q, PySem.W.cellsFrom_some _ _ _ (.inl q)⟩
  refine codeAny_call_function hr.depth (KX _ _ lk) rfl S.co S.gen rfl (PySem.W.codeRec_of KX hcd) (hb _ _ _ _ ?_)
  refine wpAny_newFunctionEnv_cells S.kind hkind fun env he s1 x => ?_
  subst he
  refine ⟨lim.keeps x.toInCall.keep, codeAny_func ?_⟩
  obtain ⟨b, ⟨t, ht, hR⟩, hres⟩ := hbody cdv A outer s H (fun _ _ _ => False) p hz hf
  have hlen : 1 ≤ N.length := by have := congrArg List.length S.pre; rw [List.length_take] at this; simp at this; omega
  have I : Inv (L2H.cxH (L2.CX P w) P w K mg base N qual (defScope st) f cdv A outer s H (fun _ _ _ => False) p) [] (L2.start N [.ref p.1]) H s1 := L2H.inv_startH S hpin e0 rfl (.cons rfl .nil) x
  have hT : t { nx := fun _ H' => Q .non H', rt := Q } (L2.start N [.ref p.1]) H := by
    refine hR (.sh (adr p.1) :: List.replicate (N.length - 1) .no) (L2.start N [.ref p.1]) H (fun _ => none) H (fun _ => none) _ ⟨Grow.refl (fun _ _ e => by cases e), ⟨(fun _ _ e => by cases e), ?_, fun i d hi => ?_, fun i xs hi => ?_, fun i j xs ys q h1 h2 h3 h4 => ?_⟩, fun i xs q h1 h2 => ?_⟩ ?_
    · unfold L2.start
      rw [List.length_append, List.length_map, List.length_replicate, List.length_cons, List.length_replicate]
      simp
      omega
    · cases i with
      | zero => cases hi; exact ⟨.ref p.1, rfl, .adr p.1⟩
      | succ i => rw [List.getElem?_cons_succ] at hi; exact absurd hi replicate_no
    · cases i with
      | zero => cases hi
      | succ i => rw [List.getElem?_cons_succ] at hi; exact absurd hi replicate_no'
    · cases i with
      | zero => cases h1
      | succ i => rw [List.getElem?_cons_succ] at h1; exact absurd h1 replicate_no'
    · cases i with
      | zero => cases h1
      | succ i => rw [List.getElem?_cons_succ] at h1; exact absurd h1 replicate_no'
    · rw [hres]
      intro v H' Hs' g rt
      cases rt
      exact hq H' g.all
  refine wpAny_mono (ht.run [] s1 (L2.start N [.ref p.1]) H _ I hT) (fun fl s' hs => ?_) fun e s' hs => hs
  have fin : ∀ {σ' : St} {H' : Hp} {v : V} {u : Value}, Inv (L2H.cxH (L2.CX P w) P w K mg base N qual (defScope st) f cdv A outer s H (fun _ _ _ => False) p) [] σ' H' s' → RelV v u → Q v H' → CE outer P w H s Q u s' :=
    fun {σ' H' v u} J rv q => ⟨v, H', J.os, J.bare, J.base, J.hok, rv, q⟩
  cases fl with
  | ret u =>
    obtain ⟨v, σ', H', J, rv, q⟩ := hs
    exact fin J rv q
  | next =>
    obtain ⟨σ', H', J, q⟩ := hs
    exact fin (v := V.non) (u := Value.none) J rfl q
  | brk =>
    obtain ⟨_, _, _, q⟩ := hs
    exact False.elim q
  | cont =>
    obtain ⟨_, _, _, q⟩ := hs
    exact False.elim q
end

/-! ### try: body, except LoopError as error: return name_of(error) -/
section
variable {X : Cx} {W : WX} {pos p : Pos}
/-- what the classes' names tell: raised class c, name_of's word -/
structure CalX (P : Program) (w : World) (K : PySem.W.Frag) (mg : Str → Option Value) (base : Heap) (x : Str) (k : Nat) (L : Addr) (nm : Str → Option Str) : Prop where
  ex : ∃ f fd n, mg x = some (.ref f) ∧ PySem.W.keepIn K (.ref f) = true ∧ Binds K fd [n] [] ∧ ∀ c z, nm c = some z → ∃ Dc, clsV mg c = .ref Dc ∧ PySem.W.exmOne K (.ref Dc) (.ref L) = some true ∧ FnX P w K mg base k f fd [n] Dc z
theorem pps_try {body : List Stmt} {b : SF} {nm : Str → Option Str} {x lx n : Str} {L : Addr} {k j : Nat} {py np pos' pr pc pf : Pos} (i : Nat) (C : CalX X.prog X.w X.K X.mg X.base x k L nm) (hr : Room j X.A) (gL : X.mg lx = some (.ref L))
    (hb : ∀ (W : WX) (pn : List (Addr × Obj)) (xe : Value → Shared → Prop), Takes (X.tr pn xe) W → PassesOwn (model X.prog X.w) X.A X.env xe → PPSs (X.tr pn xe) W (RepE X.K) body b)
    (hN : X.N.Nodup) (hj : k ≤ j := by decide) (hs : X.stack = X.env :: X.outer := by rfl) (hf : X.env.frame = some X.env.locals := by rfl) (hi : X.N[i]? = some n := by rfl) (hln : X.env.kindOf n = some .local := by rfl) (hgL : Gl X lx := by rfl) (hdL : (lx == ("__debug__" : Str)) = false := by decide)
    (hg : Gl X x := by rfl) (hdb : (x == ("__debug__" : Str)) = false := by decide) (hd : (n == ("__debug__" : Str)) = false := by decide) (hcd : (n == ("__classdict__" : Str)) = false := by decide) (hvn : Vis X.env.scope n := by exact Or.inl rfl)
    (he : starEach [.Name n py] X.env = (false, eval (.Name n py) X.env) :: starEach [] X.env := by rfl) (hpl : (backTo pf (starEach [] X.env)).any (·.1) = false := by rfl) :
    PPS X W (RepE X.K) (.Try body [.ExceptHandler (some (.Name lx np)) (some n) [.Return (some (.Call (.Name x pc) [.Name n py] [] pf)) pr] pos'] [] [] pos) (sTry b nm) := by
  obtain ⟨f, fd, nn, hm, hk, hbn, hC⟩ := C.ex
  let ts : Addr → Value → Option Addr → TS := fun a cls d => tRet (fun σ H Q => (i < σ.length → σ[i]? = some (some (.ref a))) ∧ ∃ Dc z, cls = .ref Dc ∧ d = none ∧ FnX X.prog X.w X.K X.mg X.base k f fd [nn] Dc z ∧ ∀ H', Same H H' → Q (.str z) H')
  refine ⟨_, ps_try_as (tb := fun W D σ H => ∀ pn xe (h1 : Takes (X.tr pn xe) W) (h2 : PassesOwn (model X.prog X.w) X.A X.env xe), Classical.choose (hb W pn xe h1 h2).out D σ H) (ts := ts) (Wout := fun _ _ _ _ => False) hs hf hN hi hln ⟨hgL, hdL, .inl gL⟩ takes0 (fun W pn xe tk po => ?_) (fun a oe cls d pn hz hf2 => ?_), fun e σ H Hs H0 Hb Dn s hp => ?_⟩
  · exact ⟨fun pins s σ H D I h => (Classical.choose_spec (hb W pn xe tk po).out).1.run pins s σ H D I (h pn xe tk po)⟩
  · refine pss_one (ps_ret ⟨fun pins s σ H Q I h => ?_⟩)
    obtain ⟨h1', Dc, z, rfl, rfl, FX, hq⟩ := h
    have h1 : σ[i]? = some (some (.ref a)) := h1' (by
      have hi' := (List.getElem?_eq_some_iff.mp hi).1
      have hl : σ.length = X.N.length := I.len
      omega)
    refine wpAny_Call_Name_kw (ld_glob I hg hm ?_ hdb)
    have ha : PA (X.suite a ((a, oe) :: pn)) [.Name n py] (tCons (tVar i) tNil) := pa_cons (pe_var hi hvn hd hcd) pa_nil he
    have hA : tCons (tVar i) tNil σ H (fun vs H1 => vs = [.ref a] ∧ H1 = H) := ⟨_, h1, rfl, rfl⟩
    refine PySem.W.callWith_K (h₀ := X.base) I.ok.mod.kin hk (thn (ha.run pf pins s σ H _ I hA) fun us s1 ⟨vs, H1, I1, r, q⟩ => ⟨I1.kIn, ?_⟩) he hpl
    obtain ⟨rfl, rfl⟩ := q
    have hl : us.length = 1 := by rw [← r.length]; rfl
    have bb := hbn s1 us I1.kIn (by rw [List.append_nil]; exact hl)
    rw [List.append_nil] at bb
    have P1 := I1.pin (a, oe) (List.mem_append_left _ List.mem_cons_self)
    have hpin : L2H.PinOk (X.suite a ((a, oe) :: pn)).stack H1 s1 (a, oe) := ⟨P1.1, P1.2.1, fun hm => (List.mem_cons.mp (I1.stkSub a hm)).elim P1.2.2.1 P1.2.2.2.1, P1.2.2.2.2⟩
    have eus : us = [.ref a] := by
      cases r with
      | cons rx rr => cases rr; cases rx; rfl
    subst eus
    have hrH : L2H.RoomH k (X.suite a ((a, oe) :: pn)).A := ⟨by have := (hr.mono hj).dp; exact this, by have := (hr.mono hj).un; exact this⟩
    refine wpAny_call (codeAny_mono (FX _ _ s1 H1 ⟨[.ref a], []⟩ Q (a, oe) hrH hpin hz hf2 I1.env0 bb hq) fun r s' hq => ?_)
    cases r with
    | error e => exact passAt (X := X.suite a ((a, oe) :: pn)) (W := fun _ _ _ _ => False) takes0 σ pins H1 s1 e s' I1 hq
    | ok fl =>
      cases fl with
      | ret u => exact I1.after hq
      | next => exact False.elim hq
      | brk => exact False.elim hq
      | cont => exact False.elim hq
  · intro pn xe h1 h2
    refine (Classical.choose_spec (hb _ pn xe h1 h2).out).2 e σ H Hs H0 Hb Dn s ?_
    unfold sTry at hp
    cases e1 : b e with
    | next e' => rw [e1] at hp; exact hp
    | ret d => rw [e1] at hp; exact hp
    | brk d => rw [e1] at hp; exact hp
    | cont d => rw [e1] at hp; exact hp
    | stk => rw [e1] at hp; exact hp
    | err c =>
      rw [e1] at hp
      dsimp only at hp
      cases e2 : nm c with
      | none => rw [e2] at hp; exact hp.elim
      | some z =>
        rw [e2] at hp
        obtain ⟨Dc, e3, e4, FX⟩ := hC c z e2
        intro σ' H' sm sb
        refine ⟨true, ?_, fun _ a na => ?_, fun q => nomatch q⟩
        · show PySem.W.exmOne X.K (clsV X.mg c) (.ref L) = some true
          rw [e3]; exact e4
        · refine ⟨fun hl => ?_, Dc, z, e3, rfl, FX, fun H'' sm' => hp _ H'' Hb ⟨sm.trans sm', Same.refl _, sb.trans sm', fun _ _ _ h => h⟩ (.str z)⟩
          · rw [List.length_set] at hl
            rw [List.getElem?_set_self hl]
end
end PL

namespace PL
open PySem PySem.Spec PyProof.Rows L2
theorem boot_isi : bootBuiltins "isinstance" = some (.builtin "isinstance") := by decide +kernel
theorem boot_abs : bootBuiltins "abs" = some (.builtin "abs") := by decide +kernel
theorem boot_sum : bootBuiltins "sum" = some (.builtin "sum") := by decide +kernel
theorem boot_all : bootBuiltins "all" = some (.builtin "all") := by decide +kernel
theorem boot_max : bootBuiltins "max" = some (.builtin "max") := by decide +kernel
theorem boot_min : bootBuiltins "min" = some (.builtin "min") := by decide +kernel
theorem boot_int : bootBuiltins "int" = some (.type "int") := by decide +kernel
theorem boot_bool : bootBuiltins "bool" = some (.type "bool") := by decide +kernel
theorem boot_str : bootBuiltins "str" = some (.type "str") := by decide +kernel
theorem boot_list : bootBuiltins "list" = some (.type "list") := by decide +kernel
theorem boot_tuple : bootBuiltins "tuple" = some (.type "tuple") := by decide +kernel
theorem boot_ValueError : bootBuiltins "ValueError" = some (.type "ValueError") := by decide +kernel
/-- what the text says of an own class of errors -/
structure ExcF (K : PySem.W.Frag) (mg : Str → Option Value) (c : Str) (C : Addr) : Prop where
  xi : PySem.W.excIn K C [.type "ValueError", .type "Exception", .type "BaseException", .type "object"] "ValueError.__new__" = true
  gC : mg c = some (.ref C)
  kC : PySem.W.keepIn K (.ref C) = true
  bC : PySem.W.subIn K (.ref C) (.type "BaseException") = some true
  tC : PySem.W.typeIn K (.ref C) = some (.type "type")
  iC : PySem.W.isClsIn K C = true
  vC : PySem.W.subIn K (.ref C) (.type "ValueError") = some true
theorem kit_self {K : PySem.W.Frag} {C : Addr} : PySem.W.kitOne K (.ref C) (.ref C) = some true := by
  unfold PySem.W.kitOne
  rw [if_pos (by simp)]
theorem kit_sub {K : PySem.W.Frag} {mg : Str → Option Value} {c : Str} {C : Addr} {Dc : Addr} {b : Bool} (F : ExcF K mg c C) (h : PySem.W.subIn K (.ref Dc) (.ref C) = some b) (n : (Value.ref Dc == Value.ref C) = false) : PySem.W.kitOne K (.ref Dc) (.ref C) = some b := by
  unfold PySem.W.kitOne
  rw [n, if_neg Bool.false_ne_true]
  unfold PySem.W.kitCls
  have h2' : (PySem.W.clsIn K C).isSome = true := F.iC
  have e2 : ((PySem.W.clsIn K C).isSome && PySem.W.typeIn K (.ref C) == some (.type "type")) = true := by rw [h2', F.tC] <;> rfl
  dsimp only
  rw [if_pos e2]
  exact h
theorem kit_val {K : PySem.W.Frag} {mg : Str → Option Value} {c : Str} {C : Addr} (F : ExcF K mg c C) : PySem.W.kitOne K (.ref C) (.type "ValueError") = some true := by
  unfold PySem.W.kitOne
  have n : (Value.ref C == Value.type "ValueError") = false := rfl
  rw [n, if_neg Bool.false_ne_true]
  unfold PySem.W.kitCls
  dsimp only
  rw [if_pos (by decide +kernel)]
  exact F.vC
theorem exm_sub {K : PySem.W.Frag} {mg : Str → Option Value} {c : Str} {C : Addr} {Dc : Addr} {b : Bool} (F : ExcF K mg c C) (h : PySem.W.subIn K (.ref Dc) (.ref C) = some b) : PySem.W.exmOne K (.ref Dc) (.ref C) = some b := by
  have e1 : (PySem.W.subIn K (.ref C) (.type "BaseException") == some true) = true := by rw [F.bC] <;> rfl
  have e2 : ((PySem.W.clsIn K C).isSome && PySem.W.typeIn K (.ref C) == some (.type "type")) = true := by
    have h2' : (PySem.W.clsIn K C).isSome = true := F.iC
    rw [h2', F.tC] <;> rfl
  show (if (PySem.W.subIn K (.ref C) (.type "BaseException") == some true) = true then (if ((PySem.W.clsIn K C).isSome && PySem.W.typeIn K (.ref C) == some (.type "type")) = true then PySem.W.subIn K (.ref Dc) (.ref C) else none) else none) = some b
  rw [if_pos e1, if_pos e2]
  exact h
theorem fnP_stk {P : Program} {w : World} {K : PySem.W.Frag} {mg : Str → Option Value} {base : Heap} {k : Nat} {f : Addr} {fd : FuncData} {ps : List Str} : FnP P w K mg base k f fd ps (fun _ => .stk) :=
  ⟨fun vs H Q E h => by obtain ⟨_, _, _, _, _, h⟩ := h; exact h.elim, fun A outer s H args us vs Q E _ _ _ _ h => by obtain ⟨_, _, _, _, _, h⟩ := h; exact h.elim⟩
theorem cx_no {P : Program} {w : World} {o : List PySem.Env} {H : Hp} {s : Shared} {e : Value} {s' : Shared} (h : L2.CX P w o H s (fun _ _ _ => False) e s') : False := by
  obtain ⟨_, _, _, _, _, _, _, _, _, _, _, _, h⟩ := h
  exact h
/-- the law's promise -/
def spLaw (K : PySem.W.Frag) : Sp := fun vs H Q _ => ∃ (a : Addr) (ns : List Int), vs = [.ref a] ∧ SqL K H a (ns.map V.int) ∧ ns.length ≤ 63 ∧ (∀ z ∈ ns, Builtin.Int.intBits z ≤ 1048576) ∧ ∀ H', Q (.bl true) H'
theorem ints_rp {K : PySem.W.Frag} {H : Hp} : ∀ ns : List Int, RpA K H (ns.map V.int) (ns.map PyData.int)
  | [] => .nil
  | i :: ns => .cons (.int i) (ints_rp ns)
theorem spLaw_of {K : PySem.W.Frag} {mg : Str → Option Value} {m : List D → R D} (h : ∀ ns : List Int, ns.length ≤ 63 → (∀ z ∈ ns, Builtin.Int.intBits z ≤ 1048576) → m [scr (ns.map .int)] = .ok (.bool true)) :
    ∀ vs H Q E, spLaw K vs H Q E → pureSp K mg 1 m vs H Q E := by
  rintro vs H Q E ⟨a, ns, rfl, hS, hl, hb, hq⟩
  refine ⟨H, [scr (ns.map .int)], Same.refl _, .cons (.scr hS (ints_rp ns)) .nil, rfl, ?_⟩
  rw [h ns hl hb]
  intro v H' Hs' _ r
  cases r
  exact hq H'
end PL

namespace PL
open PySem PySem.Spec PyProof.Rows L2
/-! ### a def that hands back a list that is nobody else's, or None and the like -/
abbrev RepN (K : PySem.W.Frag) : Hp → Hp → Hp → V → D → Prop := fun H H' Hs' v d => (isSc d = true ∧ Rp K Hs' v d) ∨ ∃ xs, d = .list xs ∧ RepF K H H' Hs' v xs
theorem RepN.at {K : PySem.W.Frag} {H H1 H' Hs' : Hp} {v : V} {d : D} (s : Same H H1) (r : RepN K H1 H' Hs' v d) : RepN K H H' Hs' v d := by
  rcases r with r | ⟨xs, e, p, vs, h0, h1, h2⟩
  · exact .inl r
  · exact .inr ⟨xs, e, p, vs, h0, s.free h1, h2⟩
structure PPN (X : Cx) (W : WX) (ex : Expr) (f : EF) : Prop where
  out : ∃ t : TE, PE X ex t ∧ ∀ e σ H Hs Q, SR X.K e σ H Hs → Post X W σ H Hs (RepN X.K) (f e) Q → t σ H Q
def pureSpN (K : PySem.W.Frag) (mg : Str → Option Value) (n : Nat) (m : List D → R D) : Sp := fun vs H Q E => ∃ Hs ds, Same Hs H ∧ RpA K Hs vs ds ∧ ds.length = n ∧
  (match m ds with
    | .ok d => ∀ v H' Hs', Grow H Hs H' Hs' → RepN K H H' Hs' v d → Q v H'
    | .err c => ∀ H', Same H H' → E (clsV mg c) none H'
    | .stk => False)
abbrev FnN (P : Program) (w : World) (K : PySem.W.Frag) (mg : Str → Option Value) (base : Heap) (k : Nat) (f : Addr) (fd : FuncData) (ps : List Str) (m : List D → R D) : Prop :=
  FnOk P w K mg base (L2.CX P w) k f fd ps (pureSpN K mg ps.length m)
structure CalN (P : Program) (w : World) (K : PySem.W.Frag) (mg : Str → Option Value) (base : Heap) (x : Str) (ps : List Str) (k : Nat) (m : List D → R D) : Prop where
  ex : ∃ f fd, FnN P w K mg base k f fd ps m ∧ mg x = some (.ref f) ∧ PySem.W.keepIn K (.ref f) = true ∧ Binds K fd ps []
theorem frzG {K : PySem.W.Frag} {H Hs H' Hs' : Hp} {v : V} {d : D} (g : Grow H Hs H' Hs') (r : RepN K H H' Hs' v d) : ∃ Hs2, Grow H Hs H' Hs2 ∧ Rp K Hs2 v d := by
  rcases r with ⟨_, r⟩ | ⟨xs, rfl, p, vs, rfl, n1, h1, n2, r⟩
  · exact ⟨Hs', g, r⟩
  · have s2 : Same (upd Hs' p (.lst vs)) H' := fun b o hb => by
      by_cases q : b = p
      · subst q; rw [upd_same] at hb; cases hb; exact h1
      · rw [upd_ne q] at hb; exact g.sub _ _ hb
    refine ⟨upd Hs' p (.lst vs), ⟨g.all, g.sh.trans (same_upd n2), s2, fun b o hb nb => ?_⟩, .lst upd_same (r.up (same_upd n2))⟩
    rw [upd_ne (ne_of_none hb n1)]
    exact g.own b o hb nb
theorem CalN.cal {P : Program} {w : World} {K : PySem.W.Frag} {mg : Str → Option Value} {base : Heap} {x : Str} {ps : List Str} {k : Nat} {m : List D → R D} (C : CalN P w K mg base x ps k m) : Cal P w K mg base x ps k m := by
  obtain ⟨f, fd, F, h⟩ := C.ex
  refine ⟨f, fd, F.imp fun vs H Q E q => ?_, h⟩
  obtain ⟨Hs, ds, q1, q2, q3, q4⟩ := q
  refine ⟨Hs, ds, q1, q2, q3, ?_⟩
  cases e : m ds with
  | ok d =>
    rw [e] at q4
    intro v H' Hs' g r
    obtain ⟨Hs2, g2, r2⟩ := frzG g r
    exact q4 v H' Hs2 g2 r2
  | err c => rw [e] at q4; exact q4
  | stk => rw [e] at q4; exact q4
section
variable {X : Cx} {W : WX} {ex : Expr} {f : EF} {l : LF} {x : Str} {pos pos' p : Pos}
theorem ppn_f (h : PPF X W ex l) : PPN X W ex (eL l) := by
  obtain ⟨t, p, h⟩ := h.out
  refine ⟨t, p, fun e σ H Hs Q s hp => h e σ H Hs Q s ?_⟩
  unfold eL at hp
  cases e1 : l e with
  | err c => rw [e1] at hp; exact hp
  | stk => rw [e1] at hp; exact hp
  | ok xs => rw [e1] at hp; exact fun v H' Hs' g r => hp v H' Hs' g (.inr ⟨xs, rfl, r⟩)
theorem ppn_non {j} : PPN X W (.Constant .none j pos) (eK .none) := ⟨_, pe_non, fun e σ H Hs Q s hp => hp .non H Hs (Grow.refl s.sub) (.inl ⟨rfl, .non⟩)⟩
theorem ppn_bl {i : Bool} {j} : PPN X W (.Constant (.bool i) j pos) (eK (.bool i)) := ⟨_, pe_bl, fun e σ H Hs Q s hp => hp (.bl i) H Hs (Grow.refl s.sub) (.inl ⟨rfl, .bl i⟩)⟩
theorem ppn_cal {a : Expr} {es : List Expr} {fs : LF} {ps : List Str} {k j : Nat} {m : List D → R D} (C : CalN X.prog X.w X.K X.mg X.base x ps k m) (hr : Room j X.A) (tk : Takes X W) (ha : PPA X W (a :: es) fs) (hj : k ≤ j := by decide)
    (hl : (a :: es).length = ps.length := by rfl) (hg : Gl X x := by rfl) (hdb : (x == ("__debug__" : Str)) = false := by decide)
    (he : starEach (a :: es) X.env = (false, eval a X.env) :: starEach es X.env := by rfl) (hpl : (backTo pos (starEach es X.env)).any (·.1) = false := by rfl) : PPN X W (.Call (.Name x p) (a :: es) [] pos) (eC m fs) := by
  obtain ⟨f, fd, F, hm, hk, hb⟩ := C.ex
  have hA := ha
  obtain ⟨⟨ta, pa, ha⟩, _⟩ := ha
  refine ⟨_, pe_callS F (hr.mono hj) hg hm hk hb (passAt tk) pa hdb he hpl, fun e σ H Hs Q s hp => ?_⟩
  refine ha e σ H Hs _ s (Post.bind (Rep2 := RepN X.K) hp (fun H1 s1 H' Hs' v d r => RepN.at s1 r) fun d1 vs H1 Hs1 hd g1 r1 hp1 => ?_)
  refine ⟨Hs1, d1, g1.sub, r1, by rw [hA.len e d1 hd]; exact hl, ?_⟩
  cases e2 : m d1 with
  | ok d => rw [e2] at hp1; exact hp1
  | err c => rw [e2] at hp1; exact hp1
  | stk => rw [e2] at hp1; exact hp1
theorem pps_retN (ha : PPN X W ex f) : PPS X W (RepN X.K) (.Return (some ex) pos) (sRet f) := by
  obtain ⟨ta, pa, ha⟩ := ha.out
  refine ⟨_, ps_ret pa, fun e σ H Hs H0 Hb Dn s hp => ?_⟩
  exact ha e σ H Hs _ s.sr (postS_bind s hp fun d v H1 Hs1 _ g1 s1 r1 hp1 => hp1 v H1 Hs1 s1.gr (RepN.at s.gr.all r1))
theorem pps_setN (i : Nat) (hN : X.N.Nodup) (ha : PPN X W ex f) {RT : RTT} (hx : Loc X.env.scope x := by first | exact Or.inl rfl | exact Or.inr rfl) (hi : X.N[i]? = some x := by rfl) (hs : swapsWith ex (some (.Name x pos')) pos.line X.env = pure false := by rfl)
    (hf : X.fn x = true ∨ X.env.scope.names.lookup x = some .local := by first | exact .inl rfl | exact .inr rfl) : PPS X W RT (.Assign [.Name x pos'] ex pos) (sSetN i f) := by
  obtain ⟨ta, pa, ha⟩ := ha.out
  refine ⟨_, ps_set hN hi hx pa hs hf, fun e σ H Hs H0 Hb Dn s hp => ?_⟩
  refine ha e σ H Hs _ s.sr (postS_bind s hp fun d v H1 Hs1 _ g1 s1 r1 hp1 => ?_)
  rcases r1 with ⟨hsc, r1⟩ | ⟨xs, rfl, p, vs, rfl, n1, h1, n2, r⟩
  · have e2 : svN d = .sh d := by
      cases d <;> first | rfl | (exact absurd (show false = true from hsc) Bool.false_ne_true)
    rw [e2] at hp1
    exact hp1 _ H1 Hs1 (s1.set i r1)
  · have fr : ∀ (j : Nat) (ys : List D), e[j]? = some (.ow ys) → σ[j]? ≠ some (some (.ref p)) := fun j ys hj hq => by
      obtain ⟨p2, vs2, b1, b2, b3, b4⟩ := s.sr.ow j ys hj
      rw [hq] at b1
      cases b1
      rw [n1] at b2
      cases b2
    refine hp1 _ H1 Hs1 ⟨s1.gr, s1.sr.setOw i h1 n2 r fr, fun j xs q g1' g2' => ?_⟩
    have g1' : (e.set i (SV.ow _))[j]? = some (.ow xs) := g1'
    rw [get_set] at g1' g2'
    by_cases z : i = j
    · rw [if_pos z] at g2'
      split at g2'
      · cases g2'
        exact s.gr.all.free n1
      · cases g2'
    · rw [if_neg z] at g1' g2'
      exact s.new j xs q g1' g2'
end
theorem start_ow {N : List Str} {ds : List D} (i : Nat) (xs : List D) : (ds.map SV.sh ++ List.replicate (N.length - ds.length) SV.no)[i]? ≠ some (.ow xs) := fun hi => by
  by_cases hlt : i < ds.length
  · rw [List.getElem?_append_left (by rw [List.length_map]; exact hlt), List.getElem?_map, List.getElem?_eq_getElem hlt] at hi
    cases hi
  · rw [List.getElem?_append_right (by rw [List.length_map]; omega)] at hi
    exact absurd hi replicate_no'
theorem sr_start {K : PySem.W.Frag} {H Hs : Hp} {N : List Str} {vs : List V} {ds : List D} (sm : Same Hs H) (r : RpA K Hs vs ds) : SR K (ds.map SV.sh ++ List.replicate (N.length - ds.length) SV.no) (L2.start N vs) H Hs := by
  refine ⟨sm, ?_, fun i d hi => ?_, fun i xs hi => absurd hi (start_ow i xs), fun i j xs ys q h1 h2 h3 h4 => absurd h1 (start_ow i xs)⟩
  · unfold L2.start
    rw [List.length_append, List.length_append, List.length_map, List.length_map, List.length_replicate, List.length_replicate, r.length]
  · unfold L2.start
    by_cases hlt : i < ds.length
    · rw [List.getElem?_append_left (by rw [List.length_map]; exact hlt), List.getElem?_map, List.getElem?_eq_getElem hlt] at hi
      cases hi
      obtain ⟨v, h1, h2⟩ := r.get (List.getElem?_eq_getElem hlt)
      refine ⟨v, ?_, h2⟩
      rw [List.getElem?_append_left (by rw [List.length_map, r.length]; exact hlt), List.getElem?_map, h1]
      rfl
    · rw [List.getElem?_append_right (by rw [List.length_map]; omega)] at hi
      exact absurd hi replicate_no
/-- a comprehension as a list of our own -/
theorem ppf_compF {X : Cx} {W : WX} {elt tg iter : Expr} {ifs : List Expr} {scope : Scope} {own : List (Str × Nat)} {cpos : Pos} {it : LF} {g : GF} {t : TF} {f : EF} {sl : List Nat}
    (hN : X.N.Nodup) (hi : PPI X W false tg iter it) (ok : blkC X.N X.env.scope scope own = true)
    (hg : ∀ (s : Shared) (H : Hp) (C : Addr) (cl : List (Str × Addr)) (fp : List Addr), PPG (X.blk s H scope (compEnvC scope cl C X.env) fp) tg sl g)
    (ht : ∀ (s : Shared) (H : Hp) (C : Addr) (cl : List (Str × Addr)) (fp : List Addr), PPTs (X.blk s H scope (compEnvC scope cl C X.env) fp) noW ifs t)
    (he : ∀ (s : Shared) (H : Hp) (C : Addr) (cl : List (Str × Addr)) (fp : List Addr), PPE (X.blk s H scope (compEnvC scope cl C X.env) fp) noW elt f) (hsl : ∀ i ∈ sl, i ∈ own.map (·.2) := by decide)
    (hc : X.calm = true := by rfl) (hs : ∀ x, foldedSetIterable iter X.env x = pure x := by intro _; rfl) :
    PPF X W (.ListComp elt [⟨tg, iter, ifs, 0⟩] scope cpos) (cmp it (own.map (·.2)) g t f) := by
  obtain ⟨tl, h1, h2, h3⟩ := ppf_comp (W := W) (pos := cpos) hN hi ok hg ht he hsl hc
  exact PPF.of_comp (W := W) (h1 hs) h3
/-- a def, what it hands back -/
theorem fnN_of {P : Program} {w : World} {K : PySem.W.Frag} {mg : Str → Option Value} {base : Heap} {x qual : Str} {st : Stmt} {f : Addr} {fd : FuncData} {N ps : List Str} {k : Nat} {b : SF} (F : Fun K x qual st f fd) (S : FnScope N ps (defScope st))
    (hbody : ∀ (cdv : Value) (A : Around) (outer : List PySem.Env) (s : Shared) (H : Hp) (E : XK), Room k (A.deeper (envOfC qual (defScope st) s.heap.objs.size f cdv)) →
      PPSs (cxOf (L2.CX P w) P w K mg base N qual (defScope st) f cdv A outer s H E) (fun cls d _ H => E cls d H) (RepN K) (defBody st) b) :
    FnN P w K mg base (k + 1) f fd ps (fnR N.length b) := by
  refine F.okX S (fun vs H Q E h => ?_) fun cdv A outer s H vs Q E hr h => ?_
  · obtain ⟨Hs, ds, _, r, hl, _⟩ := h
    rw [r.length]; exact hl
  · obtain ⟨Hs, ds, sm, r, hl, h⟩ := h
    obtain ⟨t, p, ht⟩ := (hbody cdv A outer s H E hr).out
    refine ⟨t, p, ht (ds.map SV.sh ++ List.replicate (N.length - ds.length) SV.no) (L2.start N vs) H Hs H Hs _ ⟨Grow.refl sm, sr_start sm r, fun i xs q h1 h2 => ?_⟩ ?_⟩
    · exact absurd h1 (start_ow i xs)
    · unfold fnR at h
      cases e1 : b (ds.map SV.sh ++ List.replicate (N.length - ds.length) SV.no) with
      | next e' => rw [e1] at h; exact fun σ' H' Hs' s' => h .non H' Hs' s'.gr (.inl ⟨rfl, .non⟩)
      | ret d => rw [e1] at h; exact fun v H' Hs' g rt => h v H' Hs' g rt
      | brk e' => rw [e1] at h; exact (show False from h).elim
      | cont e' => rw [e1] at h; exact (show False from h).elim
      | err c => rw [e1] at h; exact fun σ' H' g _ => h H' g
      | stk => rw [e1] at h; exact h
end PL

namespace PL
open PySem PySem.Spec PyProof.Rows L2
section
variable {X : Cx} {W : WX} {pos apos : Pos} {o a : Expr} {f g : EF}
theorem cs_str : CaS X (.type "str") bStr := by
  refine ⟨_, call_str_int, fun W σ H Hs xs ds Q s hx hp => ?_⟩
  unfold bStr at hp
  split at hp
  · split at hp
    · rename_i i hi
      obtain ⟨v, rfl, hv⟩ := boA1 hx
      refine ⟨i, by rw [hv.int], ?_, hp _ H Hs (Grow.refl s) (.str _)⟩
      by_cases h : i.natAbs = 0
      · rw [h]; decide
      · have := (Nat.log2_lt h).mpr hi
        omega
    · exact (show False from hp).elim
  · exact (show False from hp).elim
theorem strs_rp {K : PySem.W.Frag} {H : Hp} : ∀ {ds : List D} {vs : List V} {ys : List Str}, RpA K H vs ds → asSs ds = .ok ys → vs = ys.map V.str
  | [], _, ys, h, e => by cases h; cases e; rfl
  | d :: ds, vs, ys, h, e => by
    cases h with
    | cons h1 h2 =>
      cases d with
      | str b =>
        cases h1
        have e' : (asSs ds).bind (fun bs => R.ok (b :: bs)) = .ok ys := e
        cases e2 : asSs ds with
        | ok zs => rw [e2] at e'; cases e'; rw [strs_rp h2 e2]; rfl
        | err c => rw [e2] at e'; cases e'
        | stk => rw [e2] at e'; cases e'
      | _ => cases e
theorem asSs_no : ∀ {ds : List D} {c : Str}, asSs ds ≠ .err c
  | [], _, h => by cases h
  | d :: ds, c, h => by
    cases d with
    | str b =>
      have h' : (asSs ds).bind (fun bs => R.ok (b :: bs)) = .err c := h
      cases e : asSs ds with
      | ok zs => rw [e] at h'; cases h'
      | err c' => exact asSs_no e
      | stk => rw [e] at h'; cases h'
    | _ => cases h
theorem ppe_join (ho : PPB X W o f) (ha : PPB X W a g) (hs : starEach [a] X.env = [(false, eval a X.env)] := by rfl) (hbase : attributeBase o "join" X.env (eval o X.env) = eval o X.env := by rfl) (hline : (apos.endLine == pos.line) = true := by rfl) :
    PPE X W (.Call (.Attribute o "join" apos) [a] [] pos) (eJn f g) := by
  obtain ⟨to, po, ho⟩ := ho.out
  obtain ⟨ta, pa, ha⟩ := ha.out
  refine ⟨_, pe_join po pa hs hbase hline, fun e σ H Hs Q s hp => ?_⟩
  unfold eJn at hp
  refine ho e σ H Hs _ s (Post.bind (Rep2 := RepE X.K) hp anE fun d1 x H1 Hs1 _ g1 r1 hp1 => ?_)
  obtain ⟨z, rfl⟩ : ∃ z, d1 = .str z := by
    cases d1 <;> first
      | exact (show False from hp1).elim
      | exact ⟨_, rfl⟩
  have ex := r1.str
  subst ex
  refine ⟨⟨z, rfl⟩, ha e σ H1 Hs1 _ (s.grow g1) (Post.bind (Rep2 := RepE X.K) (r := g e) (k := fun b => opJoin (.str z) b) hp1 anE fun d2 y H2 Hs2 _ g2 r2 hp2 => ?_)⟩
  obtain ⟨xs, rfl⟩ : ∃ xs, d2 = .list xs := by
    cases d2 <;> first
      | exact (show False from hp2).elim
      | exact ⟨_, rfl⟩
  obtain ⟨p, vs, rfl, h1, h2⟩ := r2.list g2.sub
  have hp3 : Post X W σ H2 Hs2 (RepE X.K) ((asSs xs).bind fun ys => if (ys.map (·.length)).sum + ys.length * z.length ≤ szL then R.ok (.str (Str.join z ys)) else .stk) Q := hp2
  cases e1 : asSs xs with
  | err c =>
    exfalso
    exact asSs_no e1
  | stk => rw [e1] at hp3; exact (show False from hp3).elim
  | ok ys =>
    rw [e1, R.bind_ok] at hp3
    split at hp3
    · rename_i hl
      refine ⟨z, p, ys, rfl, rfl, .inl (by rw [← strs_rp h2 e1]; exact SqL.of h1), hl, ?_⟩
      rw [TL.join_eq]
      exact hp3 _ H2 Hs2 (Grow.refl g2.sub) (.str _)
    · exact (show False from hp3).elim
/-- what isn't told -/
theorem ppss_stk {RT : RTT} {st : List Stmt} : PPSs X W RT st sStk := ⟨fun _ _ _ => False, ⟨fun pins s σ H D I h => h.elim⟩, fun e σ H Hs H0 Hb Dn s hp => hp⟩
end
end PL

namespace PL
open PySem PySem.Spec PyProof.Rows L2
/-! ### a list of lists that are nobody else's -/
inductive TrA (K : PySem.W.Frag) (H Hs : Hp) : List V → List (List D) → Prop
  | nil : TrA K H Hs [] []
  | cons {q : Addr} {vs ws : List V} {xs : List D} {xss : List (List D)} : H q = some (.lst vs) → Hs q = none → RpA K Hs vs xs → V.ref q ∉ ws → TrA K H Hs ws xss → TrA K H Hs (.ref q :: ws) (xs :: xss)
def RepTr (K : PySem.W.Frag) : Hp → Hp → Hp → V → List (List D) → Prop := fun H H' Hs' v xss => ∃ p ws, v = .ref p ∧ H p = none ∧ H' p = some (.lst ws) ∧ Hs' p = none ∧ TrA K H' Hs' ws xss ∧ V.ref p ∉ ws ∧ ∀ q, V.ref q ∈ ws → H q = none
abbrev RepTrD (K : PySem.W.Frag) : Hp → Hp → Hp → V → D → Prop := fun H H' Hs' v d => ∃ xss : List (List D), d = .list (xss.map .list) ∧ RepTr K H H' Hs' v xss
section
variable {K : PySem.W.Frag} {H Hs H1 Hs1 H' Hs' : Hp} {v : V}
theorem TrA.length {ws : List V} {xss : List (List D)} (t : TrA K H Hs ws xss) : ws.length = xss.length := by
  induction t with
  | nil => rfl
  | cons _ _ _ _ _ ih => rw [List.length_cons, List.length_cons, ih]
theorem TrA.grow {ws : List V} {xss : List (List D)} (t : TrA K H Hs ws xss) (g : Grow H Hs H1 Hs1) : TrA K H1 Hs1 ws xss := by
  induction t with
  | nil => exact .nil
  | cons h1 h2 h3 h4 _ ih => exact .cons (g.all _ _ h1) (g.own _ _ h1 h2) (h3.up g.sh) h4 ih
theorem TrA.snoc {ws : List V} {xss : List (List D)} (t : TrA K H Hs ws xss) {q : Addr} {vs : List V} {xs : List D} (h1 : H q = some (.lst vs)) (h2 : Hs q = none) (h3 : RpA K Hs vs xs) (h4 : V.ref q ∉ ws) : TrA K H Hs (ws ++ [.ref q]) (xss ++ [xs]) := by
  induction t with
  | nil => exact .cons h1 h2 h3 (by simp) .nil
  | cons g1 g2 g3 g4 _ ih =>
    refine .cons g1 g2 g3 (fun hm => ?_) (ih fun hm => h4 (List.mem_cons_of_mem _ hm))
    rcases List.mem_append.mp hm with hm | hm
    · exact g4 hm
    · exact h4 (by rw [List.mem_singleton.mp hm]; exact List.mem_cons_self)
/-- from here on the lists are data -/
theorem TrA.frz {ws : List V} {xss : List (List D)} (t : TrA K H Hs ws xss) (s : Same Hs H) : ∃ Hs2, Same Hs Hs2 ∧ Same Hs2 H ∧ RpA K Hs2 ws (xss.map .list) ∧ ∀ b, Hs b = none → V.ref b ∉ ws → Hs2 b = none := by
  induction t with
  | nil => exact ⟨Hs, Same.refl _, s, .nil, fun _ h _ => h⟩
  | @cons q vs ws xs xss h1 h2 h3 h4 _ ih =>
    obtain ⟨Hs2, a1, a2, a3, a4⟩ := ih
    have nq : Hs2 q = none := a4 q h2 h4
    have sm : Same Hs2 (upd Hs2 q (.lst vs)) := same_upd nq
    refine ⟨upd Hs2 q (.lst vs), a1.trans sm, fun b o hb => ?_, .cons (.lst upd_same (h3.up (a1.trans sm))) (a3.up sm), fun b hb nb => ?_⟩
    · by_cases e : b = q
      · subst e; rw [upd_same] at hb; cases hb; exact h1
      · rw [upd_ne e] at hb; exact a2 _ _ hb
    · have e : b ≠ q := fun e => nb (by rw [e]; exact List.mem_cons_self)
      rw [upd_ne e]
      exact a4 b hb fun hm => nb (List.mem_cons_of_mem _ hm)
theorem RepTr.at {xss : List (List D)} (s : Same H H1) (r : RepTr K H1 H' Hs' v xss) : RepTr K H H' Hs' v xss := by
  obtain ⟨p, ws, e, h1, h2, h3, h4, h5, h6⟩ := r
  exact ⟨p, ws, e, s.free h1, h2, h3, h4, h5, fun q hq => s.free (h6 q hq)⟩
theorem tree_frz {p : Addr} {ws : List V} {xss : List (List D)} (h2 : H p = some (.lst ws)) (h3 : Hs p = none) (h4 : TrA K H Hs ws xss) (h5 : V.ref p ∉ ws) (s : Same Hs H) : ∃ Hs2, Same Hs Hs2 ∧ Same Hs2 H ∧ Rp K Hs2 (.ref p) (.list (xss.map .list)) ∧ ∀ b, Hs b = none → b ≠ p → V.ref b ∉ ws → Hs2 b = none := by
  obtain ⟨Hs2, a1, a2, a3, a4⟩ := h4.frz s
  have np : Hs2 p = none := a4 p h3 h5
  have sm : Same Hs2 (upd Hs2 p (.lst ws)) := same_upd np
  refine ⟨upd Hs2 p (.lst ws), a1.trans sm, fun b o hb => ?_, .lst upd_same (a3.up sm), fun b hb e nb => ?_⟩
  · by_cases e : b = p
    · subst e; rw [upd_same] at hb; cases hb; exact h2
    · rw [upd_ne e] at hb; exact a2 _ _ hb
  · rw [upd_ne e]; exact a4 b hb nb
theorem frzT {d : D} (g : Grow H Hs H' Hs') (r : RepTrD K H H' Hs' v d) : ∃ Hs2, Grow H Hs H' Hs2 ∧ Rp K Hs2 v d := by
  obtain ⟨xss, rfl, p, ws, rfl, h1, h2, h3, h4, h5, h6⟩ := r
  obtain ⟨Hs2, a1, a2, a3, a4⟩ := tree_frz h2 h3 h4 h5 g.sub
  refine ⟨Hs2, ⟨g.all, g.sh.trans a1, a2, fun b o hb nb => ?_⟩, a3⟩
  exact a4 b (g.own b o hb nb) (ne_of_none hb h1) fun hm => by
    have := h6 b hm
    rw [hb] at this
    cases this
end
structure PPTr (X : Cx) (W : WX) (ex : Expr) (f : Env → R (List (List D))) : Prop where
  out : ∃ t : TE, PE X ex t ∧ ∀ e σ H Hs Q, SR X.K e σ H Hs → Post X W σ H Hs (RepTr X.K) (f e) Q → t σ H Q
def pureSpT (K : PySem.W.Frag) (mg : Str → Option Value) (n : Nat) (m : List D → R D) : Sp := fun vs H Q E => ∃ Hs ds, Same Hs H ∧ RpA K Hs vs ds ∧ ds.length = n ∧
  (match m ds with
    | .ok d => ∀ v H' Hs', Grow H Hs H' Hs' → RepTrD K H H' Hs' v d → Q v H'
    | .err c => ∀ H', Same H H' → E (clsV mg c) none H'
    | .stk => False)
abbrev FnT (P : Program) (w : World) (K : PySem.W.Frag) (mg : Str → Option Value) (base : Heap) (k : Nat) (f : Addr) (fd : FuncData) (ps : List Str) (m : List D → R D) : Prop :=
  FnOk P w K mg base (L2.CX P w) k f fd ps (pureSpT K mg ps.length m)
structure CalT (P : Program) (w : World) (K : PySem.W.Frag) (mg : Str → Option Value) (base : Heap) (x : Str) (ps : List Str) (k : Nat) (m : List D → R D) : Prop where
  ex : ∃ f fd, FnT P w K mg base k f fd ps m ∧ mg x = some (.ref f) ∧ PySem.W.keepIn K (.ref f) = true ∧ Binds K fd ps []
theorem CalT.cal {P : Program} {w : World} {K : PySem.W.Frag} {mg : Str → Option Value} {base : Heap} {x : Str} {ps : List Str} {k : Nat} {m : List D → R D} (C : CalT P w K mg base x ps k m) : Cal P w K mg base x ps k m := by
  obtain ⟨f, fd, F, h⟩ := C.ex
  refine ⟨f, fd, F.imp fun vs H Q E q => ?_, h⟩
  obtain ⟨Hs, ds, q1, q2, q3, q4⟩ := q
  refine ⟨Hs, ds, q1, q2, q3, ?_⟩
  cases e : m ds with
  | ok d =>
    rw [e] at q4
    intro v H' Hs' g r
    obtain ⟨Hs2, g2, r2⟩ := frzT g r
    exact q4 v H' Hs2 g2 r2
  | err c => rw [e] at q4; exact q4
  | stk => rw [e] at q4; exact q4
section
variable {X : Cx} {W : WX} {ex a : Expr} {f : EF} {l : LF} {x : Str} {pos pos' p : Pos}
theorem pps_retT {ft : Env → R (List (List D))} (ha : PPTr X W ex ft) : PPS X W (RepTrD X.K) (.Return (some ex) pos) (sRet (eTr ft)) := by
  obtain ⟨ta, pa, ha⟩ := ha.out
  refine ⟨_, ps_ret pa, fun e σ H Hs H0 Hb Dn s hp => ?_⟩
  refine ha e σ H Hs _ s.sr ?_
  unfold sRet eTr at hp
  cases e1 : ft e with
  | ok xss =>
    rw [e1] at hp
    exact fun v H1 Hs1 g1 r1 => hp v H1 Hs1 (s.gr.trans g1) ⟨xss, rfl, RepTr.at s.gr.all r1⟩
  | err c =>
    rw [e1] at hp
    exact fun H' s' => hp σ H' (s.gr.all.trans s') ((s.gr.sh.trans s.gr.sub).trans s')
  | stk => rw [e1] at hp; exact hp
/-- list(x) of a list -/
theorem ppf_lst (ha : PPB X W a f) (hm : X.mg "list" = none) (hg : Gl X "list" := by rfl) (he : starEach [a] X.env = (false, eval a X.env) :: starEach [] X.env := by rfl) (hpl : (backTo pos (starEach [] X.env)).any (·.1) = false := by rfl) :
    PPF X W (.Call (.Name "list" p) [a] [] pos) (lLst f) := by
  obtain ⟨ta, pa, ha⟩ := ha.out
  refine ⟨_, pe_callTy call_list_of hg hm boot_list (pa_cons pa pa_nil he) (by decide) (by decide) he hpl, fun e σ H Hs Q s hp => ?_⟩
  unfold lLst at hp
  refine ha e σ H Hs _ s (Post.bind (Rep2 := RepF X.K) hp (fun H1 s1 H' Hs' v xs ⟨p, vs, h0, h1, h2⟩ => ⟨p, vs, h0, s1.free h1, h2⟩) fun d v H1 Hs1 _ g1 r1 hp1 => ?_)
  obtain ⟨xs, rfl⟩ : ∃ xs, d = .list xs := by
    cases d <;> first
      | exact (show False from hp1).elim
      | exact ⟨_, rfl⟩
  obtain ⟨q, vs, rfl, h1, r2⟩ := r1.list g1.sub
  exact ⟨q, vs, rfl, .inl (SqL.of h1), fun l hl => hp1 _ _ _ (Grow.gar g1.sub hl) ⟨l, vs, rfl, hl, upd_same, g1.sub.free hl, r2⟩⟩
end
theorem fnT_of {P : Program} {w : World} {K : PySem.W.Frag} {mg : Str → Option Value} {base : Heap} {x qual : Str} {st : Stmt} {f : Addr} {fd : FuncData} {N ps : List Str} {k : Nat} {b : SF} (F : Fun K x qual st f fd) (S : FnScope N ps (defScope st))
    (hbody : ∀ (cdv : Value) (A : Around) (outer : List PySem.Env) (s : Shared) (H : Hp) (E : XK), Room k (A.deeper (envOfC qual (defScope st) s.heap.objs.size f cdv)) →
      PPSs (cxOf (L2.CX P w) P w K mg base N qual (defScope st) f cdv A outer s H E) (fun cls d _ H => E cls d H) (RepTrD K) (defBody st) b) :
    FnT P w K mg base (k + 1) f fd ps (fnRT N.length b) := by
  refine F.okX S (fun vs H Q E h => ?_) fun cdv A outer s H vs Q E hr h => ?_
  · obtain ⟨Hs, ds, _, r, hl, _⟩ := h
    rw [r.length]; exact hl
  · obtain ⟨Hs, ds, sm, r, hl, h⟩ := h
    obtain ⟨t, p, ht⟩ := (hbody cdv A outer s H E hr).out
    refine ⟨t, p, ht (ds.map SV.sh ++ List.replicate (N.length - ds.length) SV.no) (L2.start N vs) H Hs H Hs _ ⟨Grow.refl sm, sr_start sm r, fun i xs q h1 h2 => ?_⟩ ?_⟩
    · exact absurd h1 (start_ow i xs)
    · unfold fnRT at h
      cases e1 : b (ds.map SV.sh ++ List.replicate (N.length - ds.length) SV.no) with
      | next e' => rw [e1] at h; exact (show False from h).elim
      | ret d => rw [e1] at h; exact fun v H' Hs' g rt => h v H' Hs' g rt
      | brk e' => rw [e1] at h; exact (show False from h).elim
      | cont e' => rw [e1] at h; exact (show False from h).elim
      | err c => rw [e1] at h; exact fun σ' H' g _ => h H' g
      | stk => rw [e1] at h; exact h
section
variable {X : Cx} {W : WX} {elt tg iter : Expr} {scope : Scope} {own : List (Str × Nat)} {pos : Pos} {it : LF} {g : GF} {lf : LF} {sl : List Nat}
theorem TrA.has {K : PySem.W.Frag} {H Hs : Hp} {ws : List V} {xss : List (List D)} (t : TrA K H Hs ws xss) {q : Addr} (hm : V.ref q ∈ ws) : ∃ vs, H q = some (.lst vs) ∧ Hs q = none := by
  induction t with
  | nil => cases hm
  | cons h1 h2 _ _ _ ih =>
    rcases List.mem_cons.mp hm with h | h
    · cases h; exact ⟨_, h1, h2⟩
    · exact ih h
theorem TrA.upd {K : PySem.W.Frag} {H Hs : Hp} {ws : List V} {xss : List (List D)} (t : TrA K H Hs ws xss) {D : Addr} {o : HO} (h : V.ref D ∉ ws) : TrA K (L2.upd H D o) Hs ws xss := by
  induction t with
  | nil => exact .nil
  | @cons q vs ws xs xss h1 h2 h3 h4 _ ih =>
    have e : q ≠ D := fun e => h (by rw [e]; exact List.mem_cons_self)
    exact .cons (by rw [upd_ne e]; exact h1) h2 h3 h4 (ih fun hm => h (List.mem_cons_of_mem _ hm))
theorem ppt_comp0 (hN : X.N.Nodup) (hi : PPI X W false tg iter it) (ok : blkC X.N X.env.scope scope own = true)
    (hg : ∀ (s : Shared) (H : Hp) (C : Addr) (cl : List (Str × Addr)) (fp : List Addr), PPG (X.blk s H scope (compEnvC scope cl C X.env) fp) tg sl g)
    (he : ∀ (s : Shared) (H : Hp) (C : Addr) (cl : List (Str × Addr)) (fp : List Addr), PPF (X.blk s H scope (compEnvC scope cl C X.env) fp) noW elt lf) (hsl : ∀ i ∈ sl, i ∈ own.map (·.2) := by decide)
    (hc : X.calm = true := by rfl) :
    ∃ tl, (∀ (hs : ∀ x, foldedSetIterable iter X.env x = pure x), PE X (.ListComp elt [⟨tg, iter, [], 0⟩] scope pos) tl) ∧
      (∀ {i : Nat} {y : Str} {py : Pos} {spos : Pos} (hs : ∀ x, foldedSetIterable iter X.env x = pure x) (hy : X.N[i]? = some y) (hyl : X.env.scope.names.lookup y = some .local)
        (hsw : swapsWith (.ListComp elt [⟨tg, iter, [], 0⟩] scope pos) (some (.Name y py)) spos.line X.env = pure true), PS X (.Assign [.Name y py] (.ListComp elt [⟨tg, iter, [], 0⟩] scope pos) spos) (tAsg tl (gName i))) ∧
      ∀ e σ H Hs Q, SR X.K e σ H Hs → Post X W σ H Hs (RepTr X.K) (cmpT it (own.map (·.2)) g lf e) Q → tl σ H Q := by
  obtain ⟨wi, pi, hi⟩ := hi.out
  have okB := blkOk_by ok
  have pg : ∀ (s : Shared) (H : Hp) (C : Addr) (cl : List (Str × Addr)) (fp : List Addr), PG (X.blk s H scope (compEnvC scope cl C X.env) fp) tg (fun v σ1 H1 Q1 => ∀ s H C cl fp, Classical.choose (hg s H C cl fp).out v σ1 H1 Q1) :=
    fun s H C cl fp => ⟨fun pins s1 σ1 H1 v u Q1 I r h => (Classical.choose_spec (hg s H C cl fp).out).1.run pins s1 σ1 H1 v u Q1 I r (h s H C cl fp)⟩
  have ht : ∀ (s : Shared) (H : Hp) (C : Addr) (cl : List (Str × Addr)) (fp : List Addr), PPTs (X.blk s H scope (compEnvC scope cl C X.env) fp) noW [] qY := fun _ _ _ _ _ => ppts_nil
  have pt : ∀ (s : Shared) (H : Hp) (C : Addr) (cl : List (Str × Addr)) (fp : List Addr), PTs (X.blk s H scope (compEnvC scope cl C X.env) fp) [] (fun σ1 H1 Q1 => ∀ s H C cl fp, Classical.choose (ht s H C cl fp).out σ1 H1 Q1) :=
    fun s H C cl fp => ⟨fun pins s1 σ1 H1 Q1 I h => (Classical.choose_spec (ht s H C cl fp).out).1.run pins s1 σ1 H1 Q1 I (h s H C cl fp)⟩
  have pe : ∀ (s : Shared) (H : Hp) (C : Addr) (cl : List (Str × Addr)) (fp : List Addr), PE (X.blk s H scope (compEnvC scope cl C X.env) fp) elt (fun σ1 H1 Q1 => ∀ s H C cl fp, Classical.choose (he s H C cl fp).out σ1 H1 Q1) :=
    fun s H C cl fp => ⟨fun pins s1 σ1 H1 Q1 I h => (Classical.choose_spec (he s H C cl fp).out).1.run pins s1 σ1 H1 Q1 I (h s H C cl fp)⟩
  refine ⟨_, fun hs => pe_lc hc hN pi okB pg pt pe hs, fun hs hy hyl hsw => ps_setLc hc hN hy hyl hsw pi okB pg pt pe hs, fun e σ H Hs Q s hp => ?_⟩
  -- the reading
  refine hi e σ H Hs _ s ?_
  unfold cmpT at hp
  cases e1 : it e with
  | err c => rw [e1] at hp; exact hp
  | stk => rw [e1] at hp; exact hp
  | ok xs =>
    rw [e1, R.bind_ok] at hp
    split at hp
    · rename_i hz
      intro J H1 Hs1 g1 io D nD
      cases e2 : cLoopT g lf (wip (own.map (·.2)) e) xs with
      | err c =>
        have no : ∀ (l : List PyData), cLoopT g lf (wip (own.map (·.2)) e) l ≠ .err c := fun l => by
          induction l with
          | nil => exact fun h => nomatch h
          | cons x r ih =>
            unfold cLoopT
            cases q1 : (g x (wip (own.map (·.2)) e)).calm with
            | err c' => exact absurd q1 R.calm_noerr
            | stk => exact fun h => nomatch h
            | ok a1 =>
              rw [R.bind_ok]
              cases q3 : (lf a1).calm with
              | err c' => exact absurd q3 R.calm_noerr
              | stk => exact fun h => nomatch h
              | ok d =>
                rw [R.bind_ok]
                cases q4 : cLoopT g lf (wip (own.map (·.2)) e) r with
                | err c' => intro h; cases h; exact ih q4
                | stk => exact fun h => nomatch h
                | ok ds => exact fun h => nomatch h
        exact absurd e2 (no xs)
      | stk => rw [e2] at hp; exact (show False from hp).elim
      | ok tot =>
        rw [e2] at hp
        refine ⟨fun i m H2 => m = xs.length - i ∧ i ≤ xs.length ∧ ∃ Hs2 acc ads ods, Grow H1 Hs1 H2 Hs2 ∧ H2 D = some (.lst acc) ∧ Hs2 D = none ∧ (TrA X.K H2 Hs2 acc ads ∧ V.ref D ∉ acc ∧ ∀ q, V.ref q ∈ acc → H1 q = none) ∧ ads.length ≤ i ∧ cLoopT g lf (wip (own.map (·.2)) e) (xs.drop i) = .ok ods ∧ tot = ads ++ ods,
          ⟨xs.length, rfl, Nat.zero_le _, Hs1, [], [], tot, Grow.gar g1.sub nD, upd_same, g1.sub.free nD, ⟨.nil, (by simp), (by simp)⟩, Nat.le_refl _, by rw [List.drop_zero]; exact e2, rfl⟩, fun i m H2 hW => ?_⟩
        obtain ⟨hm, hi', Hs2, acc, ads, ods, g2, hD, nD2, ra, hla, hc2, htot⟩ := hW
        obtain ⟨i1, i2⟩ := io i H2 Hs2 g2.all g2.sh g2.sub
        by_cases hlt : i < xs.length
        · right
          obtain ⟨go, yl⟩ := i1 hlt
          refine ⟨go, fun H3 => ∃ Hs3 acc ads ods, Grow H1 Hs1 H3 Hs3 ∧ H3 D = some (.lst acc) ∧ Hs3 D = none ∧ (TrA X.K H3 Hs3 acc ads ∧ V.ref D ∉ acc ∧ ∀ q, V.ref q ∈ acc → H1 q = none) ∧ ads.length ≤ i + 1 ∧ cLoopT g lf (wip (own.map (·.2)) e) (xs.drop (i + 1)) = .ok ods ∧ tot = ads ++ ods,
            fun H3 h3 => ⟨xs.length - (i + 1), by omega, rfl, hlt, h3⟩, fun x H3 y => ?_⟩
          obtain ⟨Hs3, g3, rx⟩ := yl x H3 y
          rw [List.drop_eq_getElem_cons hlt] at hc2
          unfold cLoopT at hc2
          have s3 : SR X.K (wip (own.map (·.2)) e) (wipe σ (own.map (·.2))) H3 Hs3 := ((s.grow g1).grow g2).grow g3 |>.wip _
          cases q1 : (g xs[i] (wip (own.map (·.2)) e)).calm with
          | err c => exact absurd q1 R.calm_noerr
          | stk => rw [q1] at hc2; cases hc2
          | ok ea =>
            rw [q1, R.bind_ok] at hc2
            have q1' : g xs[i] (wip (own.map (·.2)) e) = .ok ea := post_calm (B := Unit) (σ := σ) (H := H) (Hs := Hs) (Rep := fun _ _ _ _ _ => True) (Q := fun _ _ => True) q1
            intro zs zH zC zcl zfp
            refine (Classical.choose_spec (hg zs zH zC zcl zfp).out).2 x xs[i] _ _ H3 Hs3 _ s3 rx ?_
            rw [q1']
            intro σ4 s4 w4 _
            refine ⟨(w4 _ hsl).trans (wipe_wipe _ _), ?_⟩
            intro zs zH zC zcl zfp
            refine (Classical.choose_spec (ht zs zH zC zcl zfp).out).2 ea σ4 H3 Hs3 _ s4 ?_
            show Post _ _ _ _ _ _ (R.ok true) _
            intro b' H4 Hs4 g4 eb
            subst eb
            have hD4 : H4 D = some (.lst acc) := g4.all _ _ (g3.all _ _ hD)
            have nD3 : Hs3 D = none := g3.own _ _ hD nD2
            have nD4 : Hs4 D = none := g4.own _ _ (g3.all _ _ hD) nD3
            rw [if_pos rfl]
            cases q3 : (lf ea).calm with
            | err c => exact absurd q3 R.calm_noerr
            | stk => rw [q3] at hc2; cases hc2
            | ok d =>
              rw [q3, R.bind_ok] at hc2
              have q3' : lf ea = .ok d := by
                cases e9 : lf ea with
                | ok d' => rw [e9] at q3; cases q3; rfl
                | err c => rw [e9] at q3; cases q3
                | stk => rw [e9] at q3; cases q3
              intro zs zH zC zcl zfp
              refine (Classical.choose_spec (he zs zH zC zcl zfp).out).2 ea σ4 H4 Hs4 _ (s4.grow g4) ?_
              rw [q3']
              intro y5 H5 Hs5 g5 ry
              obtain ⟨q, vs, rfl, nq, hq, nq5, rq⟩ := ry
              have hD5 : H5 D = some (.lst acc) := g5.all _ _ hD4
              have nD5 : Hs5 D = none := g5.own _ _ hD4 nD4
              refine ⟨acc, hD5, by rw [ra.1.length]; show ads.length < 16777216; have hz' : xs.length ≤ 16777216 := hz; omega, ?_⟩
              cases q4 : cLoopT g lf (wip (own.map (·.2)) e) (xs.drop (i + 1)) with
              | err c => rw [q4] at hc2; cases hc2
              | stk => rw [q4] at hc2; cases hc2
              | ok ds =>
                rw [q4] at hc2
                cases hc2
                have g25 := ((g2.trans g3).trans g4).trans g5
                have qD : q ≠ D := fun z => by rw [z, hD4] at nq; cases nq
                have qa : V.ref q ∉ acc := fun hm => by
                  obtain ⟨o, ho, _⟩ := ra.1.has hm
                  have := g4.all _ _ (g3.all _ _ ho)
                  rw [nq] at this
                  cases this
                have t5 : TrA X.K H5 Hs5 (acc ++ [.ref q]) (ads ++ [d]) := (((ra.1.grow g3).grow g4).grow g5).snoc hq nq5 rq qa
                have nDa : V.ref D ∉ acc ++ [.ref q] := fun hm => by
                  rcases List.mem_append.mp hm with hm | hm
                  · exact ra.2.1 hm
                  · exact qD (V.ref.inj (List.mem_singleton.mp hm)).symm
                refine ⟨Hs5, acc ++ [.ref q], ads ++ [d], ds, ⟨fun p o hp => ?_, g25.sh, fun p o hp => ?_, g25.own⟩, upd_same, nD5, ⟨t5.upd nDa, nDa, fun b hb => ?_⟩, by rw [List.length_append]; simpa using hla, rfl, by rw [htot, List.append_assoc]; rfl⟩
                · rw [upd_ne (ne_of_none hp nD)]
                  exact g25.all _ _ hp
                · rw [upd_ne (ne_of_none hp nD5)]
                  exact g25.sub _ _ hp
                · rcases List.mem_append.mp hb with hb | hb
                  · exact ra.2.2 b hb
                  · cases List.mem_singleton.mp hb
                    exact ((g2.all.trans g3.all).trans g4.all).free nq
        · left
          have ei : i = xs.length := by omega
          refine ⟨i2 ei, ?_⟩
          rw [ei, List.drop_length] at hc2
          cases hc2
          rw [List.append_nil] at htot
          subst htot
          exact hp _ H2 Hs2 (g1.trans g2) ⟨D, acc, rfl, g1.all.free nD, hD, nD2, ra.1, ra.2.1, fun q hq => g1.all.free (ra.2.2 q hq)⟩
    · exact (show False from hp).elim
theorem ppt_comp (hN : X.N.Nodup) (hi : PPI X W false tg iter it) (ok : blkC X.N X.env.scope scope own = true)
    (hg : ∀ (s : Shared) (H : Hp) (C : Addr) (cl : List (Str × Addr)) (fp : List Addr), PPG (X.blk s H scope (compEnvC scope cl C X.env) fp) tg sl g)
    (he : ∀ (s : Shared) (H : Hp) (C : Addr) (cl : List (Str × Addr)) (fp : List Addr), PPF (X.blk s H scope (compEnvC scope cl C X.env) fp) noW elt lf) (hsl : ∀ i ∈ sl, i ∈ own.map (·.2) := by decide)
    (hc : X.calm = true := by rfl) (hs : ∀ x, foldedSetIterable iter X.env x = pure x := by intro _; rfl) :
    PPTr X W (.ListComp elt [⟨tg, iter, [], 0⟩] scope pos) (cmpT it (own.map (·.2)) g lf) := by
  obtain ⟨tl, h1, h2, h3⟩ := ppt_comp0 (W := W) (pos := pos) hN hi ok hg he hsl hc
  exact ⟨tl, h1 hs, h3⟩
end
end PL

namespace PL
open PySem PySem.Spec PyProof.Rows L2
/-! ### statements where a slot holds a list of lists that are nobody else's -/
structure SBT (K : PySem.W.Frag) (H0 Hb : Hp) (e : Env) (σ : St) (H Hs : Hp) (i : Nat) (p : Addr) (ws : List V) (xss : List (List D)) : Prop where
  sb : SB K H0 Hb e σ H Hs
  slot : e[i]? = some (.sh (adr p))
  h : H p = some (.lst ws)
  n : Hs p = none
  n0 : H0 p = none
  tr : TrA K H Hs ws xss
  pn : V.ref p ∉ ws
  q0 : ∀ q, V.ref q ∈ ws → H0 q = none
  ow : ∀ (j : Nat) (ys : List D) (r : Addr), e[j]? = some (.ow ys) → σ[j]? = some (some (V.ref r)) → r ≠ p ∧ V.ref r ∉ ws
def PostST (X : Cx) (W : WX) (RT : RTT) (H0 Hb : Hp) (i : Nat) (p : Addr) (o : OutT) (Dn : Ends) : Prop :=
  match o with
  | .next e' xss' => ∀ σ' H' Hs' ws', SBT X.K H0 Hb e' σ' H' Hs' i p ws' xss' → Dn.nx σ' H'
  | .ret d => ∀ v H' Hs', Grow H0 Hb H' Hs' → RT H0 H' Hs' v d → Dn.rt v H'
  | .err c => ∀ σ' H', Same H0 H' → Same Hb H' → W (clsV X.mg c) none σ' H'
  | .stk => False
structure PPST (X : Cx) (W : WX) (RT : RTT) (i : Nat) (st : Stmt) (f : STF) : Prop where
  out : ∃ t : TS, PS X st t ∧ ∀ p ws xss e σ H Hs H0 Hb Dn, SBT X.K H0 Hb e σ H Hs i p ws xss → PostST X W RT H0 Hb i p (f p xss e) Dn → t Dn σ H
structure PPSR (X : Cx) (W : WX) (RT : RTT) (i : Nat) (st : List Stmt) (f : STR) : Prop where
  out : ∃ t : TS, PSs X st t ∧ ∀ p ws xss e σ H Hs H0 Hb Dn, SBT X.K H0 Hb e σ H Hs i p ws xss → PostS X W RT H0 Hb (f p xss e) Dn → t Dn σ H
section
variable {K : PySem.W.Frag} {H0 Hb H Hs H1 Hs1 : Hp} {e : Env} {σ : St} {i : Nat} {p : Addr} {ws : List V} {xss : List (List D)}
theorem SBT.ptr (s : SBT K H0 Hb e σ H Hs i p ws xss) : σ[i]? = some (some (.ref p)) := by
  obtain ⟨v, h1, h2⟩ := s.sb.sr.sh i _ s.slot
  have h2' : Rp K Hs v (.dict [(.bool true, .int (Int.ofNat p))]) := h2
  generalize hn : Int.ofNat p = n at h2'
  cases h2' with
  | adr a =>
    have : p = a := Int.ofNat.inj hn
    rw [this]; exact h1
theorem SBT.grow (s : SBT K H0 Hb e σ H Hs i p ws xss) (g : Grow H Hs H1 Hs1) : SBT K H0 Hb e σ H1 Hs1 i p ws xss :=
  ⟨s.sb.grow g, s.slot, g.all _ _ s.h, g.own _ _ s.h s.n, s.n0, s.tr.grow g, s.pn, s.q0, s.ow⟩
/-- the list seen as a datum -/
theorem SBT.view (s : SBT K H0 Hb e σ H Hs i p ws xss) : ∃ Hs2, Same Hs Hs2 ∧ Same Hs2 H ∧ SR K (e.set i (.sh (tree xss))) σ H Hs2 := by
  obtain ⟨Hs2, a1, a2, a3, a4⟩ := tree_frz s.h s.n s.tr s.pn s.sb.sr.sub
  have hi : i < e.length := (List.getElem?_eq_some_iff.mp s.slot).1
  refine ⟨Hs2, a1, a2, a2, by rw [List.length_set]; exact s.sb.sr.len, fun j d hj => ?_, fun j ys hj => ?_, fun j k ys zs q h1 h2 h3 h4 => ?_⟩
  · rw [get_set] at hj
    by_cases q : i = j
    · rw [if_pos q, if_pos (by rw [← q]; exact hi)] at hj
      cases hj
      exact ⟨_, by rw [← q]; exact s.ptr, a3⟩
    · rw [if_neg q] at hj
      obtain ⟨v, h1, h2⟩ := s.sb.sr.sh j d hj
      exact ⟨v, h1, h2.up a1⟩
  · rw [get_set] at hj
    by_cases q : i = j
    · rw [if_pos q] at hj
      split at hj <;> cases hj
    · rw [if_neg q] at hj
      obtain ⟨r, vs, h1, h2, h3, h4⟩ := s.sb.sr.ow j ys hj
      obtain ⟨o1, o2⟩ := s.ow j ys r hj h1
      exact ⟨r, vs, h1, h2, a4 r h3 o1 o2, h4.up a1⟩
  · rw [get_set] at h1 h2
    by_cases q1 : i = j
    · rw [if_pos q1] at h1
      split at h1 <;> cases h1
    · by_cases q2 : i = k
      · rw [if_pos q2] at h2
        split at h2 <;> cases h2
      · rw [if_neg q1] at h1
        rw [if_neg q2] at h2
        exact s.sb.sr.ne j k ys zs q h1 h2 h3 h4
theorem garG (s : Same Hs H) (g : Same H H1) : Grow H Hs H1 Hs := ⟨g, Same.refl _, s.trans g, fun _ _ _ n => n⟩
end
section
variable {X : Cx} {W : WX} {RT : RTT} {i : Nat} {pos pos' : Pos}
theorem r_cons {st : Stmt} {rest : List Stmt} {f : STF} {g : STR} (h1 : PPST X W RT i st f) (h2 : PPSR X W RT i rest g) : PPSR X W RT i (st :: rest) (rCons f g) := by
  obtain ⟨t1, p1, h1⟩ := h1.out
  obtain ⟨t2, p2, h2⟩ := h2.out
  refine ⟨_, pss_cons p1 p2, fun p ws xss e σ H Hs H0 Hb Dn s hp => ?_⟩
  refine h1 p ws xss e σ H Hs H0 Hb _ s ?_
  unfold rCons at hp
  cases e1 : f p xss e with
  | next e' xss' => rw [e1] at hp; exact fun σ' H' Hs' ws' s' => h2 p ws' xss' e' σ' H' Hs' H0 Hb Dn s' hp
  | ret d => rw [e1] at hp; exact hp
  | err d => rw [e1] at hp; exact hp
  | stk => rw [e1] at hp; exact hp
theorem r_frz {rest : List Stmt} {g : SF} (h : PPSs X W RT rest g) : PPSR X W RT i rest (rFrz i g) := by
  obtain ⟨t, p, h⟩ := h.out
  refine ⟨t, p, fun p ws xss e σ H Hs H0 Hb Dn s hp => ?_⟩
  obtain ⟨Hs2, a1, a2, sr⟩ := s.view
  obtain ⟨Hs3, b1, b2, b3, b4⟩ := tree_frz s.h s.n s.tr s.pn s.sb.sr.sub
  have hi : i < e.length := (List.getElem?_eq_some_iff.mp s.slot).1
  -- the same heap part
  refine h (e.set i (.sh (tree xss))) σ H Hs3 H0 Hb Dn ⟨⟨s.sb.gr.all, s.sb.gr.sh.trans b1, b2, fun b o hb nb => ?_⟩, ⟨b2, by rw [List.length_set]; exact s.sb.sr.len, fun j d hj => ?_, fun j ys hj => ?_, fun j k ys zs q h1 h2 h3 h4 => sr.ne j k ys zs q h1 h2 h3 h4⟩, fun j ys q h1 h2 => ?_⟩ hp
  · exact b4 b (s.sb.gr.own b o hb nb) (ne_of_none hb s.n0) fun hm => by
      have := s.q0 b hm
      rw [hb] at this; cases this
  · rw [get_set] at hj
    by_cases q : i = j
    · rw [if_pos q, if_pos (by rw [← q]; exact hi)] at hj
      cases hj
      exact ⟨_, by rw [← q]; exact s.ptr, b3⟩
    · rw [if_neg q] at hj
      obtain ⟨v, h1, h2⟩ := s.sb.sr.sh j d hj
      exact ⟨v, h1, h2.up b1⟩
  · rw [get_set] at hj
    by_cases q : i = j
    · rw [if_pos q] at hj
      split at hj <;> cases hj
    · rw [if_neg q] at hj
      obtain ⟨r, vs, h1, h2, h3, h4⟩ := s.sb.sr.ow j ys hj
      obtain ⟨o1, o2⟩ := s.ow j ys r hj h1
      exact ⟨r, vs, h1, h2, b4 r h3 o1 o2, h4.up b1⟩
  · rw [get_set] at h1
    by_cases q' : i = j
    · rw [if_pos q'] at h1
      split at h1 <;> cases h1
    · rw [if_neg q'] at h1
      exact s.sb.new j ys q h1 h2
theorem t_if {c : Expr} {t : TF} {a : List Stmt} {fa : SF} (hc : PPT X W c t) (ha : PPSs X W RT a fa) : PPST X W RT i (.If c a [] pos) (tIf i t fa) := by
  obtain ⟨tc, pc, hc⟩ := hc.out
  obtain ⟨ta, pa, ha⟩ := ha.out
  refine ⟨_, ps_if pc pa pss_nil, fun p ws xss e σ H Hs H0 Hb Dn s hp => ?_⟩
  obtain ⟨Hs2, a1, a2, sr⟩ := s.view
  refine hc (e.set i (.sh (tree xss))) σ H Hs2 _ sr ?_
  unfold tIf at hp
  cases e1 : t (e.set i (.sh (tree xss))) with
  | err c => rw [e1] at hp; exact fun H' s' => hp σ H' (s.sb.gr.all.trans s') ((s.sb.gr.sh.trans s.sb.gr.sub).trans s')
  | stk => rw [e1] at hp; exact hp
  | ok k =>
    rw [e1] at hp
    intro b H1 Hs1 g1 eb
    subst eb
    have s1 := s.grow (garG s.sb.sr.sub g1.all)
    cases b with
    | true =>
      refine ha e σ H1 Hs H0 Hb Dn s1.sb ?_
      cases e2 : fa e with
      | ret d => rw [e2] at hp; exact hp
      | err c => rw [e2] at hp; exact hp
      | next _ => rw [e2] at hp; exact (show False from hp).elim
      | brk _ => rw [e2] at hp; exact (show False from hp).elim
      | cont _ => rw [e2] at hp; exact (show False from hp).elim
      | stk => rw [e2] at hp; exact (show False from hp).elim
    | false => exact hp σ H1 Hs ws s1
open Classical in
/-- a statement that leaves the list alone -/
theorem t_frame {st : Stmt} {f : SF} (h : PPS X W (RepE X.K) st f) : PPST X W (RepE X.K) i st (tFrame i f) := by
  obtain ⟨t, p, h⟩ := h.out
  refine ⟨t, p, fun p ws xss e σ H Hs H0 Hb Dn s hp => ?_⟩
  let own : Addr → Prop := fun b => ∃ (j : Nat) (ys : List D), e[j]? = some (.ow ys) ∧ σ[j]? = some (some (.ref b))
  let F : Hp := fun b => if own b then none else H b
  have fH : ∀ b, ¬ own b → F b = H b := fun b nb => if_neg nb
  have fN : ∀ b, own b → F b = none := fun b nb => if_pos nb
  have sF : Same F H := fun b o hb => by
    by_cases q : own b
    · rw [fN b q] at hb; cases hb
    · rw [fH b q] at hb; exact hb
  have s0 : Same H0 F := fun b o hb => by
    have nb : ¬ own b := fun ⟨j, ys, h1, h2⟩ => by
      have := s.sb.new j ys b h1 h2
      rw [hb] at this; cases this
    rw [fH b nb]; exact s.sb.gr.all _ _ hb
  have np : ¬ own p := fun ⟨j, ys, h1, h2⟩ => (s.ow j ys p h1 h2).1 rfl
  have nq : ∀ q, V.ref q ∈ ws → ¬ own q := fun q hq ⟨j, ys, h1, h2⟩ => (s.ow j ys q h1 h2).2 hq
  have gr : ∀ {H' Hs' : Hp}, Grow F Hs H' Hs' → Grow H0 Hb H' Hs' := fun {H' Hs'} g => ⟨s0.trans g.all, s.sb.gr.sh.trans g.sh, g.sub, fun b o hb nb => g.own b o (s0 _ _ hb) (s.sb.gr.own b o hb nb)⟩
  refine h e σ H Hs F Hs _ ⟨⟨sF, Same.refl _, s.sb.sr.sub, fun _ _ _ n => n⟩, s.sb.sr, fun j ys r h1 h2 => fN r ⟨j, ys, h1, h2⟩⟩ ?_
  unfold tFrame at hp
  cases e1 : f e with
  | next e' =>
    rw [e1] at hp
    intro σ' H' Hs' s'
    dsimp only at hp
    split at hp
    · rename_i n hn
      split at hp
      · rename_i en
        refine hp σ' H' Hs' ws ⟨⟨gr s'.gr, s'.sr, fun j ys r h1 h2 => ?_⟩, by rw [hn, en]; rfl, ?_, ?_, s.n0, ?_, s.pn, s.q0, fun j ys r h1 h2 => ?_⟩
        · cases q : H0 r with
          | none => rfl
          | some o =>
            have := s'.new j ys r h1 h2
            rw [s0 _ _ q] at this; cases this
        · exact s'.gr.all _ _ (by rw [fH p np]; exact s.h)
        · exact s'.gr.own p _ (by rw [fH p np]; exact s.h) s.n
        · have : ∀ {ws2 : List V} {xss2 : List (List D)}, TrA X.K H Hs ws2 xss2 → (∀ q, V.ref q ∈ ws2 → ¬ own q) → TrA X.K H' Hs' ws2 xss2 := fun {ws2 xss2} t => by
            induction t with
            | nil => exact fun _ => .nil
            | @cons q vs ws xs xss h1 h2 h3 h4 _ ih =>
              intro hq
              have hF : F q = some (.lst vs) := by rw [fH q (hq q List.mem_cons_self)]; exact h1
              exact .cons (s'.gr.all _ _ hF) (s'.gr.own q _ hF h2) (h3.up s'.gr.sh) h4 (ih fun r hr => hq r (List.mem_cons_of_mem _ hr))
          exact this s.tr nq
        · have hr := s'.new j ys r h1 h2
          refine ⟨fun z => ?_, fun hm => ?_⟩
          · rw [z, fH p np, s.h] at hr; cases hr
          · obtain ⟨vs, g1, _⟩ := s.tr.has hm
            rw [fH r (nq r hm), g1] at hr; cases hr
      · exact (show False from hp).elim
    · exact (show False from hp).elim
  | ret d => rw [e1] at hp; exact fun v H' Hs' g rt => hp v H' Hs' (gr g) rt
  | err c => rw [e1] at hp; exact fun σ' H' z1 z2 => hp σ' H' (s0.trans z1) ((s.sb.gr.sh).trans z2)
  | brk _ => rw [e1] at hp; exact (show False from hp).elim
  | cont _ => rw [e1] at hp; exact (show False from hp).elim
  | stk => rw [e1] at hp; exact (show False from hp).elim
end
end PL

namespace PL
open PySem PySem.Spec PyProof.Rows L2
section
variable {K : PySem.W.Frag} {H Hs : Hp}
theorem TrA.split : ∀ {x1 : List (List D)} {w : List V} {xs : List D} {x2 : List (List D)}, TrA K H Hs w (x1 ++ xs :: x2) → ∃ q vs, w[x1.length]? = some (.ref q) ∧ H q = some (.lst vs) ∧ Hs q = none ∧ RpA K Hs vs xs ∧
    ∀ (o : HO) (vs' : List V) (ys : List D), o = .lst vs' → RpA K Hs vs' ys → TrA K (L2.upd H q o) Hs w (x1 ++ ys :: x2)
  | [], w, xs, x2, t => by
    cases t with
    | @cons q vs ws _ _ h1 h2 h3 h4 t => exact ⟨q, vs, rfl, h1, h2, h3, fun o vs' ys e r => .cons (by rw [e]; exact upd_same) h2 r h4 (t.upd h4)⟩
  | y :: x1, w, xs, x2, t => by
    cases t with
    | @cons q vs ws _ _ h1 h2 h3 h4 t =>
      obtain ⟨r, us, g1, g2, g3, g4, g5⟩ := TrA.split t
      have hm : V.ref r ∈ ws := List.mem_of_getElem? g1
      have e : q ≠ r := fun e => h4 (by rw [e]; exact hm)
      exact ⟨r, us, g1, g2, g3, g4, fun o vs' ys eo rr => .cons (by rw [upd_ne e]; exact h1) h2 h3 h4 (g5 o vs' ys eo rr)⟩
theorem set_same_no {e : Env} {j : Nat} (h : e[j]? = some .no) : e.set j .no = e := by
  apply List.ext_getElem?
  intro k
  rw [get_set]
  by_cases q : j = k
  · subst q
    rw [if_pos rfl, if_pos (List.getElem?_eq_some_iff.mp h).1, h]
  · rw [if_neg q]
end
section
variable {X : Cx} {W : WX} {i : Nat} {pos pos' : Pos}
theorem t_for {RT : RTT} (j : Nat) {x y : Str} {c ea : Expr} {a : List Stmt} {t : TF} {fa : SF} {f : EF} {px py pi1 p2 p3 pe1 : Pos} (hpo : PassesOwn (model X.prog X.w) X.A X.env X.xe) (hN : X.N.Nodup) (hij : i ≠ j)
    (hc : PPT X W c t) (ha : PPSs X W RT a fa) (hf : PPE X W ea f)
    (hNi : X.N[i]? = some y := by rfl) (hvi : Vis X.env.scope y := by first | exact Or.inl rfl | exact Or.inr (Or.inl rfl) | exact Or.inr (Or.inr rfl)) (hdi : (y == ("__debug__" : Str)) = false := by decide) (hcdi : (y == ("__classdict__" : Str)) = false := by decide)
    (hNj : X.N[j]? = some x := by rfl) (hx : Loc X.env.scope x := by first | exact Or.inl rfl | exact Or.inr rfl) (hfj : X.fn x = true ∨ X.env.scope.names.lookup x = some .local := by first | exact .inl rfl | exact .inr rfl)
    (hv : Vis X.env.scope x := by first | exact Or.inl rfl | exact Or.inr (Or.inl rfl) | exact Or.inr (Or.inr rfl)) (hd : (x == ("__debug__" : Str)) = false := by decide) (hcd : (x == ("__classdict__" : Str)) = false := by decide)
    (hs : swapsWith (.Call (.Attribute (.Name x pos') "append" p2) [ea] [] p3) none pe1.line X.env = pure false := by rfl)
    (hbase : attributeBase (.Name x pos') "append" X.env (eval (.Name x pos') X.env) = eval (.Name x pos') X.env := by rfl)
    (hfew : ((backTo p3 (starEach [ea] X.env)).all (fun x => !x.1) && (backToKw p3 (keywordEach [] X.env)).all (fun x => x.1.isSome)
      && decide ([ea].length + ([] : List Keyword).length + (if ([] : List Keyword).isEmpty then 0 else 1) < 30)) = true := by rfl)
    (hline : (p2.endLine == p3.line) = true := by rfl) (hst : starEach [ea] X.env = (false, eval ea X.env) :: starEach [] X.env := by rfl)
    (hcalm : X.calm = true := by rfl) (hs2 : ∀ z, foldedSetIterable (.Name y py) X.env z = pure z := by intro _; rfl) :
    PPST X W RT i (.For (.Name x px) (.Name y py) [.If c a [] pi1, .Expr (.Call (.Attribute (.Name x pos') "append" p2) [ea] [] p3) pe1] [] pos) (tFor j t fa f) := by
  obtain ⟨tc, pc, hc⟩ := hc.out
  obtain ⟨ta, pa, ha⟩ := ha.out
  obtain ⟨tf, pf, hf⟩ := hf.out
  refine ⟨_, ps_for hpo hcalm (pi_list (pe_var hNi hvi hdi hcdi)) (pg_name hN hNj hx hfj) (pss_cons (ps_if pc pa pss_nil) (pss_one (ps_expr (pe_bm PySem.F.plainAttrs_list PySem.F.slot_list_append PySem.F.type_list_append mt_append (pe_var hNj hv hd hcd) (pa_cons pf pa_nil hst) hbase hfew hline hst) hs))) hs2, fun p ws xss e σ H Hs H0 Hb Dn s hp => ?_⟩
  unfold tFor at hp
  split at hp
  · rename_i hno
    have hj : j < e.length := (List.getElem?_eq_some_iff.mp hno).1
    refine ⟨_, s.ptr, p, rfl, ⟨ws, SqL.of s.h⟩, ⟨fun k m σ2 H2 => m = xss.length - k ∧ k ≤ xss.length ∧ ∃ Hs2 dn, dn.length = k ∧ SBT X.K H0 Hb e σ2 H2 Hs2 i p ws (dn ++ xss.drop k) ∧ PostST X W RT H0 Hb i p (tForL j t fa f e dn (xss.drop k)) Dn,
      ⟨xss.length, rfl, Nat.zero_le _, Hs, [], rfl, s, hp⟩, fun k m σ2 H2 hW => ?_⟩⟩
    obtain ⟨hm, hle, Hs2, dn, hdn, s2, hp2⟩ := hW
    by_cases hlt : k < xss.length
    · right
      rw [List.drop_eq_getElem_cons hlt] at s2 hp2
      obtain ⟨q, vs, w1, w2, w3, w4, w5⟩ := s2.tr.split
      rw [hdn] at w1
      have hm0 : V.ref q ∈ ws := List.mem_of_getElem? w1
      refine ⟨⟨ws, _, SqL.of s2.h, w1⟩, fun σ3 H3 => ∃ Hs3 dn', dn'.length = k + 1 ∧ SBT X.K H0 Hb e σ3 H3 Hs3 i p ws (dn' ++ xss.drop (k + 1)) ∧ PostST X W RT H0 Hb i p (tForL j t fa f e dn' (xss.drop (k + 1))) Dn, fun σ3 H3 h3 => ⟨xss.length - (k + 1), by omega, rfl, hlt, h3⟩, fun v H3 yl => ?_⟩
      obtain ⟨rfl, yl⟩ := yl
      have ev := yl ws (SqL.of s2.h)
      rw [w1] at ev
      cases ev
      unfold tForL at hp2
      show tc (σ2.set j (some (.ref q))) H3 _
      -- slot j bears the list
      have fr : ∀ (l : Nat) (ys : List D), e[l]? = some (.ow ys) → σ2[l]? ≠ some (some (.ref q)) := fun l ys h1 h2 => (s2.ow l ys q h1 h2).2 hm0
      have sj : SB X.K H0 Hb (e.set j (.ow xss[k])) (σ2.set j (some (.ref q))) H3 Hs2 := ⟨s2.sb.gr, s2.sb.sr.setOw j w2 w3 w4 fr, fun l ys r h1 h2 => by
        rw [get_set] at h1 h2
        by_cases z : j = l
        · rw [if_pos z] at h2
          split at h2
          · cases h2; exact s2.q0 q hm0
          · cases h2
        · rw [if_neg z] at h1 h2
          exact s2.sb.new l ys r h1 h2⟩
      refine hc _ _ H3 Hs2 _ sj.sr ?_
      cases e1 : t (e.set j (.ow xss[k])) with
      | err cc => rw [e1] at hp2; exact fun H' s' => hp2 _ H' (sj.gr.all.trans s') ((sj.gr.sh.trans sj.gr.sub).trans s')
      | stk => rw [e1] at hp2; exact hp2
      | ok b =>
        rw [e1] at hp2
        intro b' H4 Hs4 g4 eb
        subst eb
        have sj4 := sj.grow g4
        have s4 := s2.grow g4
        cases b' with
        | true =>
          refine ha _ _ H4 Hs4 H0 Hb _ sj4 ?_
          cases e2 : fa (e.set j (.ow xss[k])) with
          | ret d => rw [e2] at hp2; exact hp2
          | err cc => rw [e2] at hp2; exact hp2
          | next _ => rw [e2] at hp2; exact (show False from hp2).elim
          | brk _ => rw [e2] at hp2; exact (show False from hp2).elim
          | cont _ => rw [e2] at hp2; exact (show False from hp2).elim
          | stk => rw [e2] at hp2; exact (show False from hp2).elim
        | false =>
          have ptr : (σ2.set j (some (V.ref q)))[j]? = some (some (.ref q)) := by
            rw [get_set, if_pos rfl, if_pos (by rw [← s2.sb.sr.len]; exact hj)]
          refine ⟨_, ptr, .inl ⟨rfl, vs, SqL.of (g4.all _ _ w2)⟩, hf _ _ H4 Hs4 _ sj4.sr ?_⟩
          cases e2 : f (e.set j (.ow xss[k])) with
          | err cc =>
            have hp3 : PostST X W RT H0 Hb i p (match f (e.set j (.ow xss[k])) with | .ok d => if xss[k].length < szL then tForL j t fa f e (dn ++ [xss[k] ++ [d]]) (xss.drop (k + 1)) else .stk | .err c => .err c | .stk => .stk) Dn := hp2
            rw [e2] at hp3
            exact fun H' s' => hp3 _ H' (sj4.gr.all.trans s') ((sj4.gr.sh.trans sj4.gr.sub).trans s')
          | stk =>
            have hp3 : PostST X W RT H0 Hb i p (match f (e.set j (.ow xss[k])) with | .ok d => if xss[k].length < szL then tForL j t fa f e (dn ++ [xss[k] ++ [d]]) (xss.drop (k + 1)) else .stk | .err c => .err c | .stk => .stk) Dn := hp2
            rw [e2] at hp3
            exact hp3
          | ok d =>
            have hp3 : PostST X W RT H0 Hb i p (match f (e.set j (.ow xss[k])) with | .ok d => if xss[k].length < szL then tForL j t fa f e (dn ++ [xss[k] ++ [d]]) (xss.drop (k + 1)) else .stk | .err c => .err c | .stk => .stk) Dn := hp2
            rw [e2] at hp3
            dsimp only at hp3
            split at hp3
            · rename_i hz
              intro v H5 Hs5 g5 rv
              have s5 := s4.grow g5
              have q5 : H5 q = some (.lst vs) := g5.all _ _ (g4.all _ _ w2)
              have n5 : Hs5 q = none := g5.own _ _ (g4.all _ _ w2) (g4.own _ _ w2 w3)
              refine ⟨q, vs, v, rfl, rfl, q5, by rw [w4.length]; exact hz, Hs5, dn ++ [xss[k] ++ [d]], by rw [List.length_append, hdn]; rfl, ?_, hp3⟩
              have q0 : H0 q = none := s2.q0 q hm0
              have sr5 : SR X.K e (σ2.set j (some (.ref q))) H5 Hs5 := by
                have := s5.sb.sr.drop j (v := some (.ref q))
                rw [set_same_no hno] at this
                exact this
              have own5 : ∀ (l : Nat) (ys : List D) (r : Addr), e[l]? = some (.ow ys) → (σ2.set j (some (V.ref q)))[l]? = some (some (V.ref r)) → σ2[l]? = some (some (V.ref r)) := fun l ys r h1 h2 => by
                rw [get_set] at h2
                by_cases z : j = l
                · rw [← z, hno] at h1; cases h1
                · rw [if_neg z] at h2; exact h2
              obtain ⟨q', vs', x1, x2, x3, x4, x5⟩ := s5.tr.split
              have eq' : q' = q := by
                rw [hdn, w1] at x1
                exact (V.ref.inj (Option.some.inj x1)).symm
              subst eq'
              have pq : p ≠ q' := fun z => s2.pn (by rw [z]; exact hm0)
              refine ⟨⟨⟨fun b o hb => ?_, s5.sb.gr.sh, fun b o hb => ?_, s5.sb.gr.own⟩, ⟨fun b o hb => ?_, sr5.len, sr5.sh, fun l ys hl => ?_, sr5.ne⟩, fun l ys r h1 h2 => s5.sb.new l ys r h1 (own5 l ys r h1 h2)⟩, s5.slot, by rw [upd_ne pq]; exact s5.h, s5.n, s5.n0, ?_, s5.pn, s5.q0, fun l ys r h1 h2 => s5.ow l ys r h1 (own5 l ys r h1 h2)⟩
              · rw [upd_ne (ne_of_none hb q0)]; exact s5.sb.gr.all _ _ hb
              · rw [upd_ne (ne_of_none hb n5)]; exact s5.sb.gr.sub _ _ hb
              · rw [upd_ne (ne_of_none hb n5)]; exact sr5.sub _ _ hb
              · obtain ⟨r, us, y1, y2, y3, y4⟩ := sr5.ow l ys hl
                have rq : r ≠ q' := fun z => (s5.ow l ys r hl (own5 l ys r hl y1)).2 (by rw [z]; exact hm0)
                exact ⟨r, us, y1, by rw [upd_ne rq]; exact y2, y3, y4⟩
              · have := x5 (.lst (vs ++ [v])) (vs ++ [v]) (xss[k] ++ [d]) rfl ((w4.up (g4.sh.trans g5.sh)).append (.cons rv .nil))
                rw [List.append_assoc]
                exact this
            · exact (show False from hp3).elim
    · left
      have ek : k = xss.length := by omega
      rw [ek, List.drop_length] at s2 hp2
      rw [List.append_nil] at s2
      have hl : ws.length = xss.length := by
        have := s2.tr.length
        rw [this, hdn, ek]
      refine ⟨⟨ws, SqL.of s2.h, by rw [hl, ek]; exact Nat.le_refl _⟩, hp2 σ2 H2 Hs2 ws s2⟩
  · exact (show False from hp).elim
theorem unL_tree : ∀ {ls : List D} {xss : List (List D)}, unL ls = some xss → ls = xss.map .list ∧ ∀ xs ∈ xss, xs.all isSc = true
  | [], xss, h => by cases h; exact ⟨rfl, fun _ h => by cases h⟩
  | d :: r, xss, h => by
    cases d with
    | list xs =>
      unfold unL at h
      split at h
      · rename_i hsc
        cases e : unL r with
        | none => rw [e] at h; cases h
        | some yss =>
          rw [e] at h
          cases h
          obtain ⟨h1, h2⟩ := unL_tree e
          exact ⟨by rw [h1]; rfl, fun ys hy => by
            rcases List.mem_cons.mp hy with rfl | hy
            · exact hsc
            · exact h2 ys hy⟩
      · cases h
    | _ => cases h
theorem map_list_inj {xss yss : List (List D)} (h : xss.map PyData.list = yss.map PyData.list) : xss = yss := by
  induction xss generalizing yss with
  | nil => cases yss with
    | nil => rfl
    | cons => cases h
  | cons x xss ih => cases yss with
    | nil => cases h
    | cons y yss =>
      rw [List.map_cons, List.map_cons, List.cons.injEq] at h
      obtain ⟨h1, h2⟩ := h
      rw [PyData.list.inj h1, ih h2]
theorem scal_rp {K : PySem.W.Frag} {H H' : Hp} : ∀ {xs : List D} {vs : List V}, RpA K H vs xs → xs.all isSc = true → RpA K H' vs xs
  | [], _, h, _ => by cases h; exact .nil
  | x :: xs, _, h, hs => by
    rw [List.all_cons, Bool.and_eq_true] at hs
    cases h with | cons h1 h2 => exact .cons (h1.scal hs.1 H') (scal_rp h2 hs.2)
theorem TrA.scal {K : PySem.W.Frag} {H Hs Hs1 : Hp} {ws : List V} {xss : List (List D)} (t : TrA K H Hs ws xss) (hsc : ∀ xs ∈ xss, xs.all isSc = true) (hn : ∀ q, V.ref q ∈ ws → Hs1 q = none) : TrA K H Hs1 ws xss := by
  induction t with
  | nil => exact .nil
  | cons h1 h2 h3 h4 _ ih => exact .cons h1 (hn _ List.mem_cons_self) (scal_rp h3 (hsc _ List.mem_cons_self)) h4 (ih (fun xs hx => hsc xs (List.mem_cons_of_mem _ hx)) fun q hq => hn q (List.mem_cons_of_mem _ hq))
open Classical in
/-- slot i = f(..), what f hands back is such a list; then the rest -/
theorem pps_tree {RT : RTT} (i : Nat) {x y : Str} {a : Expr} {es : List Expr} {fs : LF} {rest : List Stmt} {g : STR} {ps : List Str} {k j : Nat} {m : List D → R D} {py pc p2 : Pos} (C : CalT X.prog X.w X.K X.mg X.base x ps k m) (hr : Room j X.A) (tk : Takes X W) (ha : PPBA X W (a :: es) fs) (hn : ∀ e ds, fs e = .ok ds → ds.length = ps.length)
    (h2 : PPSR X W RT i rest g) (hN : X.N.Nodup) (hj : k ≤ j := by decide) (hg : Gl X x := by rfl) (hdb : (x == ("__debug__" : Str)) = false := by decide)
    (he : starEach (a :: es) X.env = (false, eval a X.env) :: starEach es X.env := by rfl) (hpl : (backTo pc (starEach es X.env)).any (·.1) = false := by rfl)
    (hx : Loc X.env.scope y := by first | exact Or.inl rfl | exact Or.inr rfl) (hi : X.N[i]? = some y := by rfl) (hs : swapsWith (.Call (.Name x p2) (a :: es) [] pc) (some (.Name y py)) pos.line X.env = pure false := by rfl)
    (hf : X.fn y = true ∨ X.env.scope.names.lookup y = some .local := by first | exact .inl rfl | exact .inr rfl) :
    PPSs X W RT (.Assign [.Name y py] (.Call (.Name x p2) (a :: es) [] pc) pos :: rest) (sTree i m fs g) := by
  obtain ⟨f, fd, F, hm, hk, hb⟩ := C.ex
  obtain ⟨ta, pa, ha⟩ := ha.out
  obtain ⟨t2, pr, h2⟩ := h2.out
  refine ⟨_, pss_cons (ps_set hN hi hx (pe_callS F (hr.mono hj) hg hm hk hb (passAt tk) pa hdb he hpl) hs hf) pr, fun e σ H Hs H0 Hb Dn s hp => ?_⟩
  unfold sTree at hp
  refine ha e σ H Hs _ s.sr (postS_bind s hp fun ds vs H1 Hs1 hds g1 s1 r1 hp1 => ?_)
  refine ⟨H1, ds, Same.refl _, r1.rp g1.sub, hn e ds hds, ?_⟩
  cases e2 : m ds with
  | err c => rw [e2] at hp1; exact fun H' s' => hp1 σ H' (s1.gr.all.trans s') ((s1.gr.sh.trans s1.gr.sub).trans s')
  | stk => rw [e2] at hp1; exact hp1
  | ok d =>
    rw [e2] at hp1
    obtain ⟨ls, rfl⟩ : ∃ ls, d = .list ls := by
      cases d <;> first
        | exact (show False from hp1).elim
        | exact ⟨_, rfl⟩
    have hp2 : PostS X W RT H0 Hb (match unL ls with | some xss => if h : i < e.length ∧ ∃ o, ∀ p, g p xss (e.set i (.sh (adr p))) = o then Classical.choose h.2 else .stk | none => .stk) Dn := hp1
    cases e3 : unL ls with
    | none => rw [e3] at hp2; exact (show False from hp2).elim
    | some xss =>
      rw [e3] at hp2
      dsimp only at hp2
      split at hp2
      · rename_i hO
        obtain ⟨hls, hsc⟩ := unL_tree e3
        intro v H' Hs' gg rr
        obtain ⟨xss', ex, p, ws, rfl, p1, p2, p3, p4, p5, p6⟩ := rr
        have : xss' = xss := map_list_inj (by rw [hls] at ex; exact (PyData.list.inj ex).symm)
        subst this
        rw [← Classical.choose_spec hO.2 p] at hp2
        have hi' : i < X.N.length := (List.getElem?_eq_some_iff.mp hi).1
        have hil := hO.1
        · have gar : Grow H1 Hs1 H' Hs1 := garG s1.sr.sub gg.all
          have sb : SB X.K H0 Hb (e.set i (.sh (adr p))) (σ.set i (some (.ref p))) H' Hs1 := (s1.grow gar).set i (.adr p)
          refine h2 p ws xss' _ _ H' Hs1 H0 Hb Dn ⟨sb, by rw [get_set, if_pos rfl, if_pos hil], p2, s1.sr.sub.free p1, s1.gr.all.free p1, p4.scal hsc fun q hq => s1.sr.sub.free (p6 q hq), p5, fun q hq => s1.gr.all.free (p6 q hq), fun l ys r q1 q2 => ?_⟩ hp2
          rw [get_set] at q1 q2
          by_cases z : i = l
          · rw [if_pos z] at q1
            split at q1 <;> cases q1
          · rw [if_neg z] at q1 q2
            obtain ⟨r', us, y1, y2, _⟩ := s1.sr.ow l ys q1
            rw [q2] at y1
            cases y1
            refine ⟨fun z => ?_, fun hm => ?_⟩
            · rw [z, p1] at y2; cases y2
            · rw [p6 _ hm] at y2; cases y2
      · exact (show False from hp2).elim
end
theorem lenN : ∀ (e : Env) (ds : List D), aN e = .ok ds → ds.length = 0 := fun e ds h => by cases h; rfl
theorem lenC {f : EF} {l : LF} {n : Nat} (h : ∀ (e : Env) (ds : List D), l e = .ok ds → ds.length = n) : ∀ (e : Env) (ds : List D), aC f l e = .ok ds → ds.length = n + 1 := fun e ds q => by
  unfold aC at q
  cases e1 : f e with
  | ok d =>
    rw [e1, R.bind_ok] at q
    cases e2 : l e with
    | ok xs => rw [e2] at q; cases q; rw [List.length_cons, h e xs e2]
    | err c => rw [e2] at q; cases q
    | stk => rw [e2] at q; cases q
  | err c => rw [e1] at q; cases q
  | stk => rw [e1] at q; cases q
end PL

namespace PL
open PySem PySem.Spec PyProof.Rows L2
/-! ### t[::-1] of a tuple -/
theorem fm_all {A : Type} : ∀ l : List A, (List.range l.length).filterMap (fun k => l[k]?) = l
  | [] => rfl
  | x :: l => by
    rw [List.length_cons, List.range_succ_eq_map, List.filterMap_cons]
    show x :: ((List.range l.length).map Nat.succ).filterMap (fun k => (x :: l)[k]?) = _
    rw [List.filterMap_map]
    exact congrArg (x :: ·) (fm_all l)
theorem fm_congr {A B : Type} {f g : A → Option B} : ∀ {l : List A}, (∀ x ∈ l, f x = g x) → l.filterMap f = l.filterMap g
  | [], _ => rfl
  | x :: l, h => by
    rw [List.filterMap_cons, List.filterMap_cons, h x List.mem_cons_self, fm_congr fun y hy => h y (List.mem_cons_of_mem _ hy)]
theorem pick_back (xs : Array Value) : ((List.range xs.size).filterMap fun (k : Nat) => xs[(((xs.size : Int) - 1) + (k : Int) * (-1)).toNat]?).toArray = xs.toList.reverse.toArray := by
  congr 1
  have e := fm_all xs.toList.reverse
  rw [List.length_reverse, Array.length_toList] at e
  rw [← e]
  refine fm_congr fun k hk => ?_
  have hk' := List.mem_range.mp hk
  rw [List.getElem?_reverse (by rw [Array.length_toList]; exact hk'), Array.length_toList, Array.getElem?_toList]
  congr 1
  omega
section
variable {prog : Program} {w : World} {A : Around} {E : Value → Shared → Prop} {s : Shared}
theorem back_adj (n : Nat) : Builtin.Slice.sliceAdjust none none (-1) (n : Int) = ((n : Int) - 1, -1) := by unfold Builtin.Slice.sliceAdjust; rfl
theorem back_places (n : Nat) : Builtin.Slice.slicePlaces ((n : Int) - 1) (-1) (-1) = n := by
  unfold Builtin.Slice.slicePlaces
  rw [if_neg (by decide)]
  by_cases h : (n : Int) - 1 > -1
  · rw [if_pos h]; show (((n : Int) - 1 - -1 - 1) / 1 + 1).toNat = n; rw [Int.ediv_one]; omega
  · rw [if_neg h]; omega
theorem back_applied {sl : Addr} {vs : Value} {n : Nat} {Q : Int × Int × Nat → Shared → Prop} (hs : s.heap.IsSliceOf sl .none .none vs) (ps : IsPart vs (some (-1))) (h : Q ((n : Int) - 1, -1, n) s) :
    wpAny (model prog w) A (Builtin.Slice.sliceApplied (.ref sl) (pure (n : Int))) Q E s := by
  obtain ⟨ob, ho, _, hd⟩ := id hs
  unfold Builtin.Slice.sliceApplied Builtin.Slice.sliceFields
  refine wpAny_bind (wpAny_bind (wpAny_field ho hd (x := .none) rfl (wpAny_bind (wpAny_field ho hd (x := .none) rfl (wpAny_bind (wpAny_field ho hd (x := vs) rfl (wpAny_pure ?_)))))))
  refine wpAny_bind (HT.slicePart_ ps ?_)
  refine (show wpAny (model prog w) A (if ((-1 : Int) == 0) = true then _ else _) Q E s from ?_)
  rw [if_neg (by decide)]
  refine wpAny_bind (HT.slicePart_ .none (wpAny_bind (HT.slicePart_ .none (wpAny_bind (wpAny_pure ?_)))))
  refine (show wpAny (model prog w) A (match Builtin.Slice.sliceAdjust none none (-1) (n : Int) with | (a, b) => pure (a, (-1 : Int), Builtin.Slice.slicePlaces a b (-1))) Q E s from ?_)
  rw [back_adj n]
  refine (show wpAny (model prog w) A (pure ((n : Int) - 1, (-1 : Int), Builtin.Slice.slicePlaces ((n : Int) - 1) (-1) (-1))) Q E s from ?_)
  rw [back_places]
  exact wpAny_pure h
theorem get_back {tp sl : Addr} {xs : Array Value} {vs : Value} {Q : Value → Shared → Prop} (ht : IsTup s.heap tp xs) (hs : s.heap.IsSliceOf sl .none .none vs) (ps : IsPart vs (some (-1)))
    (h : Q (.ref s.heap.objs.size) { s with heap := s.heap.push { cls := .type "tuple", data := .seq xs.toList.reverse.toArray } }) (hz : xs.size ≤ sizeLine) : wpAny (model prog w) A (getItem (.ref tp) (.ref sl)) Q E s := by
  have fits : sizeOk (.seq xs.toList.reverse.toArray) := by show xs.toList.reverse.toArray.size ≤ sizeLine; rw [List.size_toArray, List.length_reverse, Array.length_toList]; exact hz
  obtain ⟨ob, ho, hc, hd⟩ := id hs
  have isl : s.TypeIs (.ref sl) "slice" := ⟨ob, ho, hc⟩
  unfold getItem
  try with_reducible refine wpAny_holding ?_
  first | skip; refine wpAny_bind (wpAny_pure ?_) | skip
  refine wpAny_bind (wpAny_sequenceKey (ht.typeIs) (by decide) ?_)
  refine wpAny_bind (wpAny_callSpecial?_slot (name := Str.ofString "__getitem__") (ht.typeIs) slot_tuple_getitem (wpAny_call_entry slot_tuple_getitem (ht.typeIs) entry_tuple_getitem ?_ (args_tuple_getitem _ _)))
  show wpAny _ _ (Builtin.Tuple.tupleItemsOf (.ref tp) >>= _) _ _ s
  refine wpAny_bind (tupleItemsOf_ ht (wpAny_bind (wpAny_typeOf isl ?_)))
  rw [if_pos (by decide)]
  refine wpAny_bind (back_applied hs ps ?_)
  have no : ¬ ((((xs.size : Int) - 1) == 0 && (-1 : Int) == 1 && xs.size == xs.size) = true) := by
    rw [show ((-1 : Int) == 1) = false from rfl, Bool.and_false, Bool.false_and]; exact Bool.false_ne_true
  show wpAny _ _ (if (((xs.size : Int) - 1) == 0 && (-1 : Int) == 1 && xs.size == xs.size) = true then _ else _) _ _ s
  rw [if_neg no, pick_back]
  first
    | exact wpAny_bind (m := Builtin.Tuple.tupleExact _) (wpAny_newObj_type (wpAny_pure ⟨_, rfl, wpAny_pure h⟩) fits)
    | exact wpAny_bind (m := Builtin.Tuple.tupleExact _) (wpAny_newObj_type (wpAny_bind (wpAny_pure (wpAny_pure ⟨_, rfl, wpAny_pure h⟩))) fits)
    | exact wpAny_bind (wpAny_bind (m := Builtin.Tuple.tupleExact _) (wpAny_newObj_type (wpAny_pure (wpAny_pure ⟨_, rfl, wpAny_pure h⟩)) fits))
    | exact wpAny_bind (wpAny_bind (m := Builtin.Tuple.tupleExact _) (wpAny_newObj_type (wpAny_pure ⟨_, rfl, wpAny_pure h⟩) fits))
end
def tBack (K : PySem.W.Frag) (te : TE) : TE := fun σ H Q => te σ H fun x H1 => ∃ a xs, x = .ref a ∧ SqT K H1 a xs ∧ ∀ p, H1 p = none → Q (.ref p) (upd H1 p (.tup xs.reverse))
section
variable {X : Cx} {W : WX} {a : Expr} {f : EF} {pos : Pos}
theorem pe_back {te : TE} {k : Nat} {p1 p2 p3 : Pos} (he : PE X a te) : PE X (.Subscript a (.Slice none none (some (.UnaryOp .USub (.Constant (.int 1) k p1) p2)) p3) pos) (tBack X.K te) := by
  refine ⟨fun pins s σ H Q I h => Subscript_ (thn (he.run pins s σ H _ I h) fun v s1 ⟨x, H1, I1, r1, b, xs, ex, hx, q⟩ => ?_)⟩
  subst ex
  cases r1
  have hst : PO X (some (.UnaryOp .USub (.Constant (.int 1) k p1) p2)) (tPart (tUn (rU fun i => .int (-i)) (tC (.int 1)))) := po_some (pe_un un_neg pe_int)
  refine wpAny_Slice (thn (po_none.run pins s1 σ H1 (fun o G => o = none ∧ G = H1) I1 ⟨rfl, rfl⟩) fun vl s2 ⟨l, G2, J2, pl, el, e2⟩ => ?_)
  cases el; cases e2
  refine thn (po_none.run pins s2 σ H1 (fun o G => o = none ∧ G = H1) J2 ⟨rfl, rfl⟩) fun vu s3 ⟨u, G3, J3, pu, eu, e3⟩ => ?_
  cases eu; cases e3
  refine thn (hst.run pins s3 σ H1 (fun o G => o = some (-1) ∧ G = H1) J3 ⟨1, rfl, -1, rfl, rfl, rfl⟩) fun vs s4 ⟨o, G4, J4, ps, eo, e4⟩ => ?_
  cases eo; cases e4
  have J5 : Inv X pins σ H1 { s4 with heap := s4.heap.push { cls := .type "slice", data := .fields #[vl, vu, vs] } } := J4.kept (t' := s4.toks) fun b ob q => Heap.get?_push_of_some _ q
  obtain ⟨its, r, ht, hz⟩ := J5.tuple hx
  have hlen := r.length
  cases pl
  cases pu
  refine (show wpAny (model X.prog X.w) X.A (subscriptTail a (.Slice none none (some (.UnaryOp .USub (.Constant (.int 1) k p1) p2)) p3) (.ref b) (.ref s4.heap.objs.size)) (EP X pins σ Q) X.xe { s4 with heap := s4.heap.push { cls := .type "slice", data := .fields #[.none, .none, vs] } } from ?_)
  refine tail_any (ops := [.ref b, .ref s4.heap.objs.size]) (ht.typeIs) (slot_tuple_getitem.lookup) ?_ (by with_unfolding_all rfl)
  refine get_back ht (Heap.IsSliceOf.new _ .none .none vs) ps ?_ (by rw [List.size_toArray]; omega)
  refine ⟨.ref _, _, J5.laid (t' := s4.toks) (o := .tup xs.reverse) (fun b ob q => Heap.get?_push_of_some _ q) (Nat.le_refl _) ?_, rfl, q _ (J5.hok.fresh (Nat.le_refl _))⟩
  exact ⟨by rw [List.length_reverse]; exact hz, _, r.reverse, IsTup.new _ _⟩
theorem ppe_revT {k : Nat} {p1 p3 p4 : Pos} (ha : PPB X W a f) : PPE X W (.Subscript a (.Slice none none (some (.UnaryOp .USub (.Constant (.int 1) k p1) p3)) p4) pos) (e1 opRevT f) := by
  obtain ⟨ta, pa, ha⟩ := ha.out
  refine ⟨_, pe_back pa, fun e σ H Hs Q s hp => ?_⟩
  refine ha e σ H Hs _ s (Post.bind hp anE fun d1 x H1 Hs1 _ g1 r1 hp1 => ?_)
  cases d1 <;> first
    | exact (show False from hp1).elim
    | skip
  obtain ⟨p, vs, rfl, h1, r1⟩ := r1.tuple g1.sub
  exact ⟨p, vs, rfl, SqT.of h1, fun l hl => hp1 _ _ _ (Grow.new g1.sub hl) (.tup upd_same (r1.reverse.up (Grow.new (o := .tup vs.reverse) g1.sub hl).sh))⟩
end
end PL

namespace PL
open PySem PySem.Spec PyProof.Rows L2
/-! ### trees that are nobody else's -/
inductive OTA (K : PySem.W.Frag) (H : Hp) : List V → List D → List Addr → Prop
  | nil : OTA K H [] [] []
  | leaf {v : V} {d : D} {vs : List V} {ds : List D} {A : List Addr} : isSc d = true → Rp K H v d → OTA K H vs ds A → OTA K H (v :: vs) (d :: ds) A
  | lst {q : Addr} {us : List V} {xs : List D} {vs : List V} {ds : List D} {A B : List Addr} : H q = some (.lst us) → OTA K H us xs A → OTA K H vs ds B → q ∉ A → q ∉ B → (∀ a ∈ A, a ∉ B) → OTA K H (.ref q :: vs) (.list xs :: ds) (q :: (A ++ B))
  | tup {q : Addr} {us : List V} {xs : List D} {vs : List V} {ds : List D} {A B : List Addr} : H q = some (.tup us) → OTA K H us xs A → OTA K H vs ds B → q ∉ A → q ∉ B → (∀ a ∈ A, a ∉ B) → OTA K H (.ref q :: vs) (.tuple xs :: ds) (q :: (A ++ B))
section
variable {K : PySem.W.Frag} {H Hs H1 Hs1 H' Hs' : Hp} {v : V} {vs : List V} {ds : List D} {A : List Addr}
theorem OTA.grow (t : OTA K H vs ds A) (s : Same H H1) : OTA K H1 vs ds A := by
  induction t with
  | nil => exact .nil
  | leaf h r _ ih => exact .leaf h (r.scal h _) ih
  | lst h _ _ n1 n2 n3 ih1 ih2 => exact .lst (s _ _ h) ih1 ih2 n1 n2 n3
  | tup h _ _ n1 n2 n3 ih1 ih2 => exact .tup (s _ _ h) ih1 ih2 n1 n2 n3
theorem OTA.has (t : OTA K H vs ds A) : ∀ a ∈ A, ∃ o, H a = some o := by
  induction t with
  | nil => exact fun a h => by cases h
  | leaf _ _ _ ih => exact ih
  | lst h _ _ _ _ _ ih1 ih2 =>
    intro a ha
    rcases List.mem_cons.mp ha with rfl | ha
    · exact ⟨_, h⟩
    · rcases List.mem_append.mp ha with ha | ha
      · exact ih1 a ha
      · exact ih2 a ha
  | tup h _ _ _ _ _ ih1 ih2 =>
    intro a ha
    rcases List.mem_cons.mp ha with rfl | ha
    · exact ⟨_, h⟩
    · rcases List.mem_append.mp ha with ha | ha
      · exact ih1 a ha
      · exact ih2 a ha
theorem OTA.upd (t : OTA K H vs ds A) {b : Addr} {o : HO} (h : b ∉ A) : OTA K (L2.upd H b o) vs ds A := by
  induction t with
  | nil => exact .nil
  | leaf h' r _ ih => exact .leaf h' (r.scal h' _) (ih h)
  | @lst q us xs vs ds A B h1 _ _ n1 n2 n3 ih1 ih2 =>
    have e : q ≠ b := fun e => h (by rw [e]; exact List.mem_cons_self)
    exact .lst (by rw [upd_ne e]; exact h1) (ih1 fun hm => h (List.mem_cons_of_mem _ (List.mem_append_left _ hm))) (ih2 fun hm => h (List.mem_cons_of_mem _ (List.mem_append_right _ hm))) n1 n2 n3
  | @tup q us xs vs ds A B h1 _ _ n1 n2 n3 ih1 ih2 =>
    have e : q ≠ b := fun e => h (by rw [e]; exact List.mem_cons_self)
    exact .tup (by rw [upd_ne e]; exact h1) (ih1 fun hm => h (List.mem_cons_of_mem _ (List.mem_append_left _ hm))) (ih2 fun hm => h (List.mem_cons_of_mem _ (List.mem_append_right _ hm))) n1 n2 n3
theorem OTA.flat (t : OTA K H vs ds A) (h : ds.all isSc = true) : A = [] ∧ ∀ Hs, RpA K Hs vs ds := by
  induction t with
  | nil => exact ⟨rfl, fun _ => .nil⟩
  | leaf h' r _ ih =>
    rw [List.all_cons, Bool.and_eq_true] at h
    obtain ⟨h1, h2⟩ := ih h.2
    exact ⟨h1, fun Hs => .cons (r.scal h' Hs) (h2 Hs)⟩
  | lst => rw [List.all_cons, Bool.and_eq_true] at h; exact absurd h.1 Bool.false_ne_true
  | tup => rw [List.all_cons, Bool.and_eq_true] at h; exact absurd h.1 Bool.false_ne_true
theorem OTA.of_flat : ∀ {vs : List V} {ds : List D}, RpA K Hs vs ds → ds.all isSc = true → OTA K H vs ds []
  | [], [], _, _ => .nil
  | _ :: _, _ :: _, h, hs => by
    cases h with
    | cons h1 h2 =>
      rw [List.all_cons, Bool.and_eq_true] at hs
      exact .leaf hs.1 (h1.scal hs.1 _) (OTA.of_flat h2 hs.2)
theorem OTA.length (t : OTA K H vs ds A) : vs.length = ds.length := by
  induction t with
  | nil => rfl
  | leaf _ _ _ ih => rw [List.length_cons, List.length_cons, ih]
  | lst _ _ _ _ _ _ _ ih => rw [List.length_cons, List.length_cons, ih]
  | tup _ _ _ _ _ _ _ ih => rw [List.length_cons, List.length_cons, ih]
/-- from here on it is data -/
theorem OTA.frz (t : OTA K H vs ds A) : ∀ {Hs : Hp}, Same Hs H → (∀ a ∈ A, Hs a = none) → ∃ Hs2, Same Hs Hs2 ∧ Same Hs2 H ∧ RpA K Hs2 vs ds ∧ ∀ b, Hs b = none → b ∉ A → Hs2 b = none := by
  induction t with
  | nil => exact fun {Hs} s _ => ⟨Hs, Same.refl _, s, .nil, fun _ h _ => h⟩
  | leaf h r _ ih =>
    intro Hs s hn
    obtain ⟨Hs2, a1, a2, a3, a4⟩ := ih s hn
    exact ⟨Hs2, a1, a2, .cons (r.scal h _) a3, a4⟩
  | @lst q us xs vs ds A B h _ _ n1 n2 n3 ih1 ih2 =>
    intro Hs s hn
    obtain ⟨Hs2, a1, a2, a3, a4⟩ := ih1 s fun a ha => hn a (List.mem_cons_of_mem _ (List.mem_append_left _ ha))
    obtain ⟨Hs3, b1, b2, b3, b4⟩ := ih2 a2 fun a ha => a4 a (hn a (List.mem_cons_of_mem _ (List.mem_append_right _ ha))) fun hm => n3 a hm ha
    have nq : Hs3 q = none := b4 q (a4 q (hn q List.mem_cons_self) n1) n2
    have sm : Same Hs3 (L2.upd Hs3 q (.lst us)) := same_upd nq
    refine ⟨L2.upd Hs3 q (.lst us), (a1.trans b1).trans sm, fun b o hb => ?_, .cons (.lst upd_same (a3.up (b1.trans sm))) (b3.up sm), fun b hb nb => ?_⟩
    · by_cases e : b = q
      · subst e; rw [upd_same] at hb; cases hb; exact h
      · rw [upd_ne e] at hb; exact b2 _ _ hb
    · have e : b ≠ q := fun e => nb (by rw [e]; exact List.mem_cons_self)
      rw [upd_ne e]
      exact b4 b (a4 b hb fun hm => nb (List.mem_cons_of_mem _ (List.mem_append_left _ hm))) fun hm => nb (List.mem_cons_of_mem _ (List.mem_append_right _ hm))
  | @tup q us xs vs ds A B h _ _ n1 n2 n3 ih1 ih2 =>
    intro Hs s hn
    obtain ⟨Hs2, a1, a2, a3, a4⟩ := ih1 s fun a ha => hn a (List.mem_cons_of_mem _ (List.mem_append_left _ ha))
    obtain ⟨Hs3, b1, b2, b3, b4⟩ := ih2 a2 fun a ha => a4 a (hn a (List.mem_cons_of_mem _ (List.mem_append_right _ ha))) fun hm => n3 a hm ha
    have nq : Hs3 q = none := b4 q (a4 q (hn q List.mem_cons_self) n1) n2
    have sm : Same Hs3 (L2.upd Hs3 q (.tup us)) := same_upd nq
    refine ⟨L2.upd Hs3 q (.tup us), (a1.trans b1).trans sm, fun b o hb => ?_, .cons (.tup upd_same (a3.up (b1.trans sm))) (b3.up sm), fun b hb nb => ?_⟩
    · by_cases e : b = q
      · subst e; rw [upd_same] at hb; cases hb; exact h
      · rw [upd_ne e] at hb; exact b2 _ _ hb
    · have e : b ≠ q := fun e => nb (by rw [e]; exact List.mem_cons_self)
      rw [upd_ne e]
      exact b4 b (a4 b hb fun hm => nb (List.mem_cons_of_mem _ (List.mem_append_left _ hm))) fun hm => nb (List.mem_cons_of_mem _ (List.mem_append_right _ hm))
/-- a list of it, exchanged -/
theorem OTA.inner (t : OTA K H vs ds A) : ∀ {k : Nat} {ys : List D}, ds[k]? = some (.list ys) → ys.all isSc = true → ∃ q us, vs[k]? = some (.ref q) ∧ H q = some (.lst us) ∧ q ∈ A ∧ (∀ Hs, RpA K Hs us ys) ∧
    ∀ (us' : List V) (ys' : List D), RpA K Hs us' ys' → ys'.all isSc = true → OTA K (L2.upd H q (.lst us')) vs (ds.set k (.list ys')) A := by
  induction t with
  | nil => exact fun h => by cases h
  | @leaf v d vs ds A h r t ih =>
    intro k ys hk hs
    cases k with
    | zero => cases hk; exact absurd h Bool.false_ne_true
    | succ k =>
      obtain ⟨q, us, h1, h2, h3, h4, h5⟩ := ih (k := k) hk hs
      exact ⟨q, us, h1, h2, h3, h4, fun us' ys' r' s' => .leaf h (r.scal h _) (h5 us' ys' r' s')⟩
  | @lst q us xs vs ds A B h t1 t2 n1 n2 n3 ih1 ih2 =>
    intro k ys hk hs
    cases k with
    | zero =>
      cases hk
      obtain ⟨rfl, f⟩ := t1.flat hs
      exact ⟨q, us, rfl, h, List.mem_cons_self, f, fun us' ys' r' s' => .lst upd_same (OTA.of_flat r' s') (t2.upd n2) n1 n2 n3⟩
    | succ k =>
      obtain ⟨p, ws, h1, h2, h3, h4, h5⟩ := ih2 (k := k) hk hs
      have e : q ≠ p := fun e => n2 (by rw [e]; exact h3)
      exact ⟨p, ws, h1, h2, List.mem_cons_of_mem _ (List.mem_append_right _ h3), h4, fun us' ys' r' s' => .lst (by rw [upd_ne e]; exact h) (t1.upd fun hm => n3 p hm h3) (h5 us' ys' r' s') n1 n2 n3⟩
  | @tup q us xs vs ds A B h t1 t2 n1 n2 n3 ih1 ih2 =>
    intro k ys hk hs
    cases k with
    | zero => cases hk
    | succ k =>
      obtain ⟨p, ws, h1, h2, h3, h4, h5⟩ := ih2 (k := k) hk hs
      have e : q ≠ p := fun e => n2 (by rw [e]; exact h3)
      exact ⟨p, ws, h1, h2, List.mem_cons_of_mem _ (List.mem_append_right _ h3), h4, fun us' ys' r' s' => .tup (by rw [upd_ne e]; exact h) (t1.upd fun hm => n3 p hm h3) (h5 us' ys' r' s') n1 n2 n3⟩
/-- the list at place j of the whole -/
theorem OTA.atL {d : D} (t : OTA K H [v] [d] A) {j : Int} {m : Nat} {ys : List D} (h : inL d j = some (m, ys)) :
    ys.all isSc = true ∧ ∃ p ws q us, v = .ref p ∧ (H p = some (.lst ws) ∨ H p = some (.tup ws)) ∧ L2.atI ws j = some (.ref q) ∧ H q = some (.lst us) ∧ q ∈ A ∧ (∀ Hs, RpA K Hs us ys) ∧
      ∀ (us' : List V) (ys' : List D), RpA K Hs us' ys' → ys'.all isSc = true → OTA K (L2.upd H q (.lst us')) [v] [putL d m ys'] A := by
  have get : ∀ {xs : List D}, ((ixN xs.length j).bind fun m => match xs[m]? with | some (.list ys) => if ys.all isSc then some (m, ys) else none | _ => none) = some (m, ys) → ixN xs.length j = some m ∧ xs[m]? = some (.list ys) ∧ ys.all isSc = true := fun {xs} h => by
    cases e1 : ixN xs.length j with
    | none => rw [e1] at h; cases h
    | some n =>
      rw [e1] at h
      have h : (match xs[n]? with | some (.list ys) => if ys.all isSc then some (n, ys) else none | _ => none) = some (m, ys) := h
      split at h
      · rename_i zs e2
        split at h
        · rename_i e3
          cases h
          exact ⟨rfl, e2, e3⟩
        · cases h
      · cases h
  have at' : ∀ {ws : List V} {xs : List D} {q : Addr}, ws.length = xs.length → ixN xs.length j = some m → ws[m]? = some (.ref q) → L2.atI ws j = some (.ref q) := fun {ws xs q} hl h1 h2 => by
    unfold L2.atI
    rw [hl]
    have e' : L2.ixN xs.length j = some m := h1
    rw [e']
    exact h2
  cases t with
  | leaf h' => cases d <;> first | (cases h; done) | exact absurd h' Bool.false_ne_true
  | @lst p ws xs _ _ A0 B h0 t1 t2 n1 n2 n3 =>
    cases t2
    obtain ⟨g1, g2, g3⟩ := get (xs := xs) h
    obtain ⟨q, us, h1, h2, h3, h4, h5⟩ := t1.inner (Hs := Hs) g2 g3
    refine ⟨g3, p, ws, q, us, rfl, .inl h0, at' t1.length g1 h1, h2, List.mem_cons_of_mem _ (List.mem_append_left _ h3), h4, fun us' ys' r' s' => ?_⟩
    have e : p ≠ q := fun e => n1 (by rw [e]; exact h3)
    exact .lst (by rw [upd_ne e]; exact h0) (h5 us' ys' r' s') .nil n1 n2 n3
  | @tup p ws xs _ _ A0 B h0 t1 t2 n1 n2 n3 =>
    cases t2
    obtain ⟨g1, g2, g3⟩ := get (xs := xs) h
    obtain ⟨q, us, h1, h2, h3, h4, h5⟩ := t1.inner (Hs := Hs) g2 g3
    refine ⟨g3, p, ws, q, us, rfl, .inr h0, at' t1.length g1 h1, h2, List.mem_cons_of_mem _ (List.mem_append_left _ h3), h4, fun us' ys' r' s' => ?_⟩
    have e : p ≠ q := fun e => n1 (by rw [e]; exact h3)
    exact .tup (by rw [upd_ne e]; exact h0) (h5 us' ys' r' s') .nil n1 n2 n3
theorem OTA.of_tr {ws : List V} {xss : List (List D)} (t : TrA K H Hs ws xss) (hs : ∀ xs ∈ xss, xs.all isSc = true) : ∃ A, OTA K H ws (xss.map .list) A ∧ ∀ a ∈ A, V.ref a ∈ ws ∧ Hs a = none := by
  induction t with
  | nil => exact ⟨[], .nil, fun a h => by cases h⟩
  | @cons q vs ws xs xss h1 h2 h3 h4 _ ih =>
    obtain ⟨A, a1, a2⟩ := ih fun xs h => hs xs (List.mem_cons_of_mem _ h)
    refine ⟨q :: ([] ++ A), .lst h1 (OTA.of_flat h3 (hs xs List.mem_cons_self)) a1 (by simp) (fun hm => h4 (a2 q hm).1) (fun a h => by cases h), fun a ha => ?_⟩
    rcases List.mem_cons.mp ha with rfl | ha
    · exact ⟨List.mem_cons_self, h2⟩
    · exact ⟨List.mem_cons_of_mem _ (a2 a ha).1, (a2 a ha).2⟩
end
/-! ### statements where slot i holds one -/
structure SBO (K : PySem.W.Frag) (H0 Hb : Hp) (e : Env) (σ : St) (H Hs : Hp) (i : Nat) (v : V) (d : D) (A : List Addr) : Prop where
  sb : SB K H0 Hb e σ H Hs
  slot : e[i]? = some .no
  ptr : σ[i]? = some (some v)
  tr : OTA K H [v] [d] A
  nb : ∀ a ∈ A, Hs a = none
  n0 : ∀ a ∈ A, H0 a = none
  ow : ∀ (j : Nat) (ys : List D) (r : Addr), e[j]? = some (.ow ys) → σ[j]? = some (some (V.ref r)) → r ∉ A
def PostO (X : Cx) (W : WX) (RT : RTT) (H0 Hb : Hp) (i : Nat) (v : V) (o : OutO) (Dn : Ends) : Prop :=
  match o with
  | .next e' d' => ∀ σ' H' Hs' A', SBO X.K H0 Hb e' σ' H' Hs' i v d' A' → Dn.nx σ' H'
  | .ret d => ∀ v H' Hs', Grow H0 Hb H' Hs' → RT H0 H' Hs' v d → Dn.rt v H'
  | .err c => ∀ σ' H', Same H0 H' → Same Hb H' → W (clsV X.mg c) none σ' H'
  | .stk => False
structure PPO1 (X : Cx) (W : WX) (RT : RTT) (i : Nat) (st : Stmt) (f : OTF) : Prop where
  out : ∃ t : TS, PS X st t ∧ ∀ v d A e σ H Hs H0 Hb Dn, SBO X.K H0 Hb e σ H Hs i v d A → PostO X W RT H0 Hb i v (f d e) Dn → t Dn σ H
structure PPOR (X : Cx) (W : WX) (RT : RTT) (i : Nat) (st : List Stmt) (f : OTR) : Prop where
  out : ∃ t : TS, PSs X st t ∧ ∀ v d A e σ H Hs H0 Hb Dn, SBO X.K H0 Hb e σ H Hs i v d A → PostS X W RT H0 Hb (f d e) Dn → t Dn σ H
section
variable {K : PySem.W.Frag} {H0 Hb H Hs H1 Hs1 : Hp} {e : Env} {σ : St} {i : Nat} {v : V} {d : D} {A : List Addr}
theorem SBO.grow (s : SBO K H0 Hb e σ H Hs i v d A) (g : Grow H Hs H1 Hs1) : SBO K H0 Hb e σ H1 Hs1 i v d A :=
  ⟨s.sb.grow g, s.slot, s.ptr, s.tr.grow g.all, fun a ha => by obtain ⟨o, ho⟩ := s.tr.has a ha; exact g.own a o ho (s.nb a ha), s.n0, s.ow⟩
/-- it seen as a datum -/
theorem SBO.view (s : SBO K H0 Hb e σ H Hs i v d A) : ∃ Hs2, Same Hs Hs2 ∧ Same Hs2 H ∧ SB K H0 Hb (e.set i (.sh d)) σ H Hs2 := by
  obtain ⟨Hs2, a1, a2, a3, a4⟩ := s.tr.frz s.sb.sr.sub s.nb
  have hi : i < e.length := (List.getElem?_eq_some_iff.mp s.slot).1
  refine ⟨Hs2, a1, a2, ⟨⟨s.sb.gr.all, s.sb.gr.sh.trans a1, a2, fun b o hb nb => a4 b (s.sb.gr.own b o hb nb) fun hm => ?_⟩, ⟨a2, by rw [List.length_set]; exact s.sb.sr.len, fun j d hj => ?_, fun j ys hj => ?_, fun j k ys zs q h1 h2 h3 h4 => ?_⟩, fun j ys q h1 h2 => ?_⟩⟩
  · have := s.n0 b hm
    rw [hb] at this; cases this
  · rw [get_set] at hj
    by_cases q : i = j
    · rw [if_pos q, if_pos (by rw [← q]; exact hi)] at hj
      cases hj
      cases a3 with | cons a3 _ => exact ⟨v, by rw [← q]; exact s.ptr, a3⟩
    · rw [if_neg q] at hj
      obtain ⟨v, h1, h2⟩ := s.sb.sr.sh j d hj
      exact ⟨v, h1, h2.up a1⟩
  · rw [get_set] at hj
    by_cases q : i = j
    · rw [if_pos q] at hj
      split at hj <;> cases hj
    · rw [if_neg q] at hj
      obtain ⟨r, vs, h1, h2, h3, h4⟩ := s.sb.sr.ow j ys hj
      exact ⟨r, vs, h1, h2, a4 r h3 (s.ow j ys r hj h1), h4.up a1⟩
  · rw [get_set] at h1 h2
    by_cases q1 : i = j
    · rw [if_pos q1] at h1
      split at h1 <;> cases h1
    · by_cases q2 : i = k
      · rw [if_pos q2] at h2
        split at h2 <;> cases h2
      · rw [if_neg q1] at h1
        rw [if_neg q2] at h2
        exact s.sb.sr.ne j k ys zs q h1 h2 h3 h4
  · rw [get_set] at h1
    by_cases q' : i = j
    · rw [if_pos q'] at h1
      split at h1 <;> cases h1
    · rw [if_neg q'] at h1
      exact s.sb.new j ys q h1 h2
/-- a list of it is changed -/
theorem SBO.mut (s : SBO K H0 Hb e σ H Hs i v d A) {q : Addr} {us' : List V} {d' : D} (hq : q ∈ A) (t : OTA K (upd H q (.lst us')) [v] [d'] A) : SBO K H0 Hb e σ (upd H q (.lst us')) Hs i v d' A := by
  have q0 := s.n0 q hq
  have qn := s.nb q hq
  refine ⟨⟨⟨fun b o hb => ?_, s.sb.gr.sh, fun b o hb => ?_, s.sb.gr.own⟩, ⟨fun b o hb => ?_, s.sb.sr.len, s.sb.sr.sh, fun j ys hj => ?_, s.sb.sr.ne⟩, s.sb.new⟩, s.slot, s.ptr, t, s.nb, s.n0, s.ow⟩
  · rw [upd_ne (ne_of_none hb q0)]; exact s.sb.gr.all _ _ hb
  · rw [upd_ne (ne_of_none hb qn)]; exact s.sb.gr.sub _ _ hb
  · rw [upd_ne (ne_of_none hb qn)]; exact s.sb.sr.sub _ _ hb
  · obtain ⟨r, us, y1, y2, y3, y4⟩ := s.sb.sr.ow j ys hj
    have rq : r ≠ q := fun z => s.ow j ys r hj y1 (by rw [z]; exact hq)
    exact ⟨r, us, y1, by rw [upd_ne rq]; exact y2, y3, y4⟩
end
section
variable {X : Cx} {W : WX} {RT : RTT} {i : Nat} {pos pos' : Pos}
theorem o_cons {st : Stmt} {rest : List Stmt} {f : OTF} {g : OTR} (h1 : PPO1 X W RT i st f) (h2 : PPOR X W RT i rest g) : PPOR X W RT i (st :: rest) (oCons f g) := by
  obtain ⟨t1, p1, h1⟩ := h1.out
  obtain ⟨t2, p2, h2⟩ := h2.out
  refine ⟨_, pss_cons p1 p2, fun v d A e σ H Hs H0 Hb Dn s hp => ?_⟩
  refine h1 v d A e σ H Hs H0 Hb _ s ?_
  unfold oCons at hp
  cases e1 : f d e with
  | next e' d' => rw [e1] at hp; exact fun σ' H' Hs' A' s' => h2 v d' A' e' σ' H' Hs' H0 Hb Dn s' hp
  | ret d => rw [e1] at hp; exact hp
  | err d => rw [e1] at hp; exact hp
  | stk => rw [e1] at hp; exact hp
theorem o_frz {rest : List Stmt} {g : SF} (h : PPSs X W RT rest g) : PPOR X W RT i rest (oFrz i g) := by
  obtain ⟨t, p, h⟩ := h.out
  refine ⟨t, p, fun v d A e σ H Hs H0 Hb Dn s hp => ?_⟩
  obtain ⟨Hs2, a1, a2, sb⟩ := s.view
  exact h _ σ H Hs2 H0 Hb Dn sb hp
theorem o_away {st : Stmt} {f : SF} (h : PPS X W RT st f) : PPO1 X W RT i st (oAway f) := by
  obtain ⟨t, p, h⟩ := h.out
  refine ⟨t, p, fun v d A e σ H Hs H0 Hb Dn s hp => h e σ H Hs H0 Hb Dn s.sb ?_⟩
  unfold oAway at hp
  cases e1 : f e with
  | ret d => rw [e1] at hp; exact hp
  | err c => rw [e1] at hp; exact hp
  | next _ => rw [e1] at hp; exact (show False from hp).elim
  | brk _ => rw [e1] at hp; exact (show False from hp).elim
  | cont _ => rw [e1] at hp; exact (show False from hp).elim
  | stk => rw [e1] at hp; exact (show False from hp).elim
theorem o_if {c : Expr} {t : TF} {st : Stmt} {f : OTF} (hc : PPT X W c t) (ha : PPO1 X W RT i st f) : PPO1 X W RT i (.If c [st] [] pos) (oIf i t f) := by
  obtain ⟨tc, pc, hc⟩ := hc.out
  obtain ⟨ta, pa, ha⟩ := ha.out
  refine ⟨_, ps_if pc (pss_one pa) pss_nil, fun v d A e σ H Hs H0 Hb Dn s hp => ?_⟩
  obtain ⟨Hs2, a1, a2, sb⟩ := s.view
  refine hc (e.set i (.sh d)) σ H Hs2 _ sb.sr ?_
  unfold oIf at hp
  cases e1 : t (e.set i (.sh d)) with
  | err c => rw [e1] at hp; exact fun H' s' => hp σ H' (s.sb.gr.all.trans s') ((s.sb.gr.sh.trans s.sb.gr.sub).trans s')
  | stk => rw [e1] at hp; exact hp
  | ok k =>
    rw [e1] at hp
    intro b H1 Hs1 g1 eb
    subst eb
    have s1 := s.grow (garG s.sb.sr.sub g1.all)
    cases b with
    | true => exact ha v d A e σ H1 Hs H0 Hb Dn s1 hp
    | false => exact hp σ H1 Hs A s1
/-- x[j][k] = f -/
theorem o_put {x : Str} {j : Int} {jn : Nat} {k ex : Expr} {g f : EF} {p1 p2 p3 p4 : Pos} (hk : PPE X W k g) (ha : PPE X W ex f) (hN : X.N[i]? = some x := by rfl) (hv : Vis X.env.scope x := by first | exact Or.inl rfl | exact Or.inr (Or.inl rfl) | exact Or.inr (Or.inr rfl)) (hd : (x == ("__debug__" : Str)) = false := by decide) (hcd : (x == ("__classdict__" : Str)) = false := by decide)
    (hpl : PlainIx (.Constant (.int j) jn p3) := by exact fun _ _ => rfl)
    (hs : swapsWithSole [.Subscript (.Subscript (.Name x p1) (.Constant (.int j) jn p3) p4) k p2] ex pos.line X.env = pure false := by rfl) (hw : swappedStores [.Subscript (.Subscript (.Name x p1) (.Constant (.int j) jn p3) p4) k p2] ex X.env = pure none := by rfl)
    (h1 : (assignEach [.Subscript (.Subscript (.Name x p1) (.Constant (.int j) jn p3) p4) k p2] X.env).map (·.2) = [assign (.Subscript (.Subscript (.Name x p1) (.Constant (.int j) jn p3) p4) k p2) X.env] := by rfl)
    (hs2 : ∀ v, assign (.Subscript (.Subscript (.Name x p1) (.Constant (.int j) jn p3) p4) k p2) X.env v = (do
      let ov ← holding [v] (eval (.Subscript (.Name x p1) (.Constant (.int j) jn p3) p4) X.env)
      let iv ← holding [v, ov] (eval k X.env)
      standAt p2
      holding [v, ov, iv] (setItem ov iv v)
      release [v, ov, iv] []) := by intro _; rfl) : PPO1 X W RT i (.Assign [.Subscript (.Subscript (.Name x p1) (.Constant (.int j) jn p3) p4) k p2] ex pos) (oPut i j g f) := by
  obtain ⟨ta, pa, ha⟩ := ha.out
  obtain ⟨tk, pk, hk⟩ := hk.out
  refine ⟨_, ps_asg pa (pg_sub (pe_ix ix_seq (pe_var hN hv hd hcd) pe_int hpl) pk set_list hs2) hs hw h1, fun v d A e σ H Hs H0 Hb Dn s hp => ?_⟩
  obtain ⟨Hs2, a1, a2, sb⟩ := s.view
  refine ha (e.set i (.sh d)) σ H Hs2 _ sb.sr ?_
  unfold oPut at hp
  cases e0 : inL d j with
  | none => rw [e0] at hp; exact (show False from hp).elim
  | some my =>
    obtain ⟨m, ys⟩ := my
    rw [e0] at hp
    dsimp only at hp
    cases e1 : f (e.set i (.sh d)) with
    | err c => rw [e1] at hp; exact fun H' s' => hp σ H' (s.sb.gr.all.trans s') ((s.sb.gr.sh.trans s.sb.gr.sub).trans s')
    | stk => rw [e1] at hp; exact hp
    | ok dx =>
      rw [e1] at hp
      dsimp only at hp
      split at hp
      · rename_i hsc
        intro vx H1 Hs1 g1 rx
        have rx' := rx.scal hsc Hs
        have s1 := s.grow (garG s.sb.sr.sub g1.all)
        obtain ⟨Hs3, b1, b2, sb3⟩ := s1.view
        obtain ⟨ysc, p, ws, q, us, rfl, hp1, hat, _, _, _, _⟩ := s1.tr.atL (Hs := Hs) e0
        -- x[j]
        have rest : ∀ Q : VK, Q (.ref q) H1 → rIx X.K (.ref p) (.int j) H1 Q := fun Q hQ => by
          rcases hp1 with hp1 | hp1
          · exact .inl ⟨p, ws, j, .ref q, rfl, rfl, SqL.of hp1, hat, hQ⟩
          · exact .inr (.inl ⟨p, ws, j, .ref q, rfl, rfl, SqT.of hp1, hat, hQ⟩)
        refine ⟨_, s1.ptr, rest _ ?_⟩
        refine hk (e.set i (.sh d)) σ H1 Hs3 _ sb3.sr ?_
        cases e2 : g (e.set i (.sh d)) with
        | err c => rw [e2] at hp; exact fun H' s' => hp σ H' (s1.sb.gr.all.trans s') ((s1.sb.gr.sh.trans s1.sb.gr.sub).trans s')
        | stk => rw [e2] at hp; exact hp
        | ok dk =>
          rw [e2] at hp
          intro vk H2 Hs2' g2 rk
          have s2 := s1.grow (garG s1.sb.sr.sub g2.all)
          obtain ⟨n, rfl⟩ : ∃ n, dk = .int n := by
            cases dk <;> first
              | exact (show False from hp).elim
              | exact ⟨_, rfl⟩
          cases rk
          have hp' : PostO X W RT H0 Hb i (.ref p) (match ixN ys.length n with | some l => .next e (putL d m (ys.set l dx)) | none => .stk) Dn := hp
          cases e3 : ixN ys.length n with
          | none => rw [e3] at hp'; exact (show False from hp').elim
          | some l =>
            rw [e3] at hp'
            obtain ⟨_, p', ws', q', us', ep, hp2, hat', hq, hqA, hr, upd'⟩ := s2.tr.atL (Hs := Hs) e0
            cases ep
            have eqw : ws' = ws := by
              rcases hp1 with z | z
              · have z2 := g2.all _ _ z
                rcases hp2 with y | y <;> (rw [z2] at y; cases y)
                rfl
              · have z2 := g2.all _ _ z
                rcases hp2 with y | y <;> (rw [z2] at y; cases y)
                rfl
            subst eqw
            rw [hat] at hat'
            cases hat'
            have hlen := (hr Hs).length
            refine ⟨q, us', n, l, rfl, rfl, hq, ?_, hp' _ _ Hs A (s2.mut hqA (upd' _ (ys.set l dx) ((hr Hs).set rx') ?_))⟩
            · rw [hlen]; exact e3
            · rw [List.all_eq_true]
              intro x hx
              rcases List.mem_or_eq_of_mem_set hx with hx | rfl
              · exact List.all_eq_true.mp ysc x hx
              · exact hsc
      · exact (show False from hp).elim
/-- x[j].append(f) -/
theorem o_app {x : Str} {j : Int} {jn : Nat} {ex : Expr} {f : EF} {p1 p2 p3 p4 p5 p6 : Pos} (ha : PPE X W ex f) (hN : X.N[i]? = some x := by rfl) (hv : Vis X.env.scope x := by first | exact Or.inl rfl | exact Or.inr (Or.inl rfl) | exact Or.inr (Or.inr rfl)) (hd : (x == ("__debug__" : Str)) = false := by decide) (hcd : (x == ("__classdict__" : Str)) = false := by decide)
    (hpl : PlainIx (.Constant (.int j) jn p3) := by exact fun _ _ => rfl)
    (hs : swapsWith (.Call (.Attribute (.Subscript (.Name x p1) (.Constant (.int j) jn p3) p4) "append" p2) [ex] [] p5) none p6.line X.env = pure false := by rfl)
    (hbase : attributeBase (.Subscript (.Name x p1) (.Constant (.int j) jn p3) p4) "append" X.env (eval (.Subscript (.Name x p1) (.Constant (.int j) jn p3) p4) X.env) = eval (.Subscript (.Name x p1) (.Constant (.int j) jn p3) p4) X.env := by rfl)
    (hfew : ((backTo p5 (starEach [ex] X.env)).all (fun x => !x.1) && (backToKw p5 (keywordEach [] X.env)).all (fun x => x.1.isSome)
      && decide ([ex].length + ([] : List Keyword).length + (if ([] : List Keyword).isEmpty then 0 else 1) < 30)) = true := by rfl)
    (hline : (p2.endLine == p5.line) = true := by rfl) (hst : starEach [ex] X.env = (false, eval ex X.env) :: starEach [] X.env := by rfl) :
    PPO1 X W RT i (.Expr (.Call (.Attribute (.Subscript (.Name x p1) (.Constant (.int j) jn p3) p4) "append" p2) [ex] [] p5) p6) (oApp i j f) := by
  obtain ⟨ta, pa, ha⟩ := ha.out
  refine ⟨_, ps_expr (pe_bm PySem.F.plainAttrs_list PySem.F.slot_list_append PySem.F.type_list_append mt_append (pe_ix ix_seq (pe_var hN hv hd hcd) pe_int hpl) (pa_cons pa pa_nil hst) hbase hfew hline hst) hs, fun v d A e σ H Hs H0 Hb Dn s hp => ?_⟩
  unfold oApp at hp
  cases e0 : inL d j with
  | none => rw [e0] at hp; exact (show False from hp).elim
  | some my =>
    obtain ⟨m, ys⟩ := my
    rw [e0] at hp
    dsimp only at hp
    obtain ⟨ysc, p, ws, q, us, rfl, hp1, hat, hq0, hqA, hr0, _⟩ := s.tr.atL (Hs := Hs) e0
    have rest : ∀ Q : VK, Q (.ref q) H → rIx X.K (.ref p) (.int j) H Q := fun Q hQ => by
      rcases hp1 with hp1 | hp1
      · exact .inl ⟨p, ws, j, .ref q, rfl, rfl, SqL.of hp1, hat, hQ⟩
      · exact .inr (.inl ⟨p, ws, j, .ref q, rfl, rfl, SqT.of hp1, hat, hQ⟩)
    refine ⟨_, s.ptr, rest _ ⟨.inl ⟨rfl, us, SqL.of hq0⟩, ?_⟩⟩
    obtain ⟨Hs2, a1, a2, sb⟩ := s.view
    refine ha (e.set i (.sh d)) σ H Hs2 _ sb.sr ?_
    cases e1 : f (e.set i (.sh d)) with
    | err c => rw [e1] at hp; exact fun H' s' => hp σ H' (s.sb.gr.all.trans s') ((s.sb.gr.sh.trans s.sb.gr.sub).trans s')
    | stk => rw [e1] at hp; exact hp
    | ok dx =>
      rw [e1] at hp
      dsimp only at hp
      split at hp
      · rename_i hc
        obtain ⟨hsc, hz⟩ := hc
        intro vx H1 Hs1 g1 rx
        have rx' := rx.scal hsc Hs
        have s1 := s.grow (garG s.sb.sr.sub g1.all)
        obtain ⟨_, p', ws', q', us', ep, hp2, hat', hq, hqA', hr, upd'⟩ := s1.tr.atL (Hs := Hs) e0
        cases ep
        have eqw : ws' = ws := by
          rcases hp1 with z | z
          · have z2 := g1.all _ _ z
            rcases hp2 with y | y <;> (rw [z2] at y; cases y)
            rfl
          · have z2 := g1.all _ _ z
            rcases hp2 with y | y <;> (rw [z2] at y; cases y)
            rfl
        subst eqw
        rw [hat] at hat'
        cases hat'
        refine ⟨q, us', vx, rfl, rfl, hq, by rw [(hr Hs).length]; exact hz, hp _ _ Hs A (s1.mut hqA' (upd' _ (ys ++ [dx]) ((hr Hs).append (.cons rx' .nil)) ?_))⟩
        rw [List.all_append, ysc, List.all_cons, hsc]; rfl
      · exact (show False from hp).elim
/-- slot i = a list of new lists, then the rest -/
theorem pps_ownT (i : Nat) {elt tg iter : Expr} {scope : Scope} {own : List (Str × Nat)} {cpos : Pos} {it : LF} {g : GF} {lf : LF} {sl : List Nat} {x : Str} {py pos : Pos} {rest : List Stmt} {r : OTR}
    (hN : X.N.Nodup) (hi : PPI X W false tg iter it) (ok : blkC X.N X.env.scope scope own = true)
    (hg : ∀ (s : Shared) (H : Hp) (C : Addr) (cl : List (Str × Addr)) (fp : List Addr), PPG (X.blk s H scope (compEnvC scope cl C X.env) fp) tg sl g)
    (he : ∀ (s : Shared) (H : Hp) (C : Addr) (cl : List (Str × Addr)) (fp : List Addr), PPF (X.blk s H scope (compEnvC scope cl C X.env) fp) noW elt lf)
    (h2 : PPOR X W RT i rest r) (hsl : ∀ i ∈ sl, i ∈ own.map (·.2) := by decide)
    (hc : X.calm = true := by rfl) (hs : ∀ x, foldedSetIterable iter X.env x = pure x := by intro _; rfl) (hy : X.N[i]? = some x := by rfl) (hyl : X.env.scope.names.lookup x = some .local := by rfl)
    (hsw : swapsWith (.ListComp elt [⟨tg, iter, [], 0⟩] scope cpos) (some (.Name x py)) pos.line X.env = pure true := by exact sw_true rfl rfl rfl (by kernel_rfl)) :
    PPSs X W RT (.Assign [.Name x py] (.ListComp elt [⟨tg, iter, [], 0⟩] scope cpos) pos :: rest) (sOwnT i (cmpT it (own.map (·.2)) g lf) r) := by
  obtain ⟨tl, _, h3, h4⟩ := ppt_comp0 (W := W) (pos := cpos) hN hi ok hg he hsl hc
  obtain ⟨t2, pr, h2⟩ := h2.out
  refine ⟨_, pss_cons (h3 hs hy hyl hsw) pr, fun e σ H Hs H0 Hb Dn s hp => ?_⟩
  unfold sOwnT at hp
  refine h4 e σ H Hs _ s.sr (postS_bind s hp fun xss v H1 Hs1 _ g1 s1 r1 hp1 => ?_)
  split at hp1
  · rename_i hcc
    obtain ⟨hsc, hi⟩ := hcc
    obtain ⟨p, ws, rfl, q1, q2, q3, q4, q5, q6⟩ := r1
    obtain ⟨A, a1, a2⟩ := OTA.of_tr q4 fun xs hx => List.all_eq_true.mp hsc xs hx
    have npA : p ∉ A := fun hm => q5 (a2 p hm).1
    have fresh : ∀ a ∈ p :: (A ++ []), H a = none := fun a ha => by
      rcases List.mem_cons.mp ha with rfl | ha
      · exact q1
      · rw [List.append_nil] at ha; exact q6 a (a2 a ha).1
    have nbA : ∀ a ∈ p :: (A ++ []), Hs1 a = none := fun a ha => by
      rcases List.mem_cons.mp ha with rfl | ha
      · exact q3
      · rw [List.append_nil] at ha; exact (a2 a ha).2
    refine h2 (.ref p) _ (p :: (A ++ [])) (e.set i .no) (σ.set i (some (.ref p))) H1 Hs1 H0 Hb Dn ⟨?_, by rw [get_set, if_pos rfl, if_pos hi], by rw [get_set, if_pos rfl, if_pos (by rw [← s.sr.len]; exact hi)], .lst q2 a1 .nil npA (by simp) (fun a _ h => by cases h), nbA, fun a ha => s.gr.all.free (fresh a ha), fun j ys r g1' g2' => ?_⟩ hp1
    · refine ⟨s1.gr, s1.sr.drop i, fun j xs q g1' g2' => ?_⟩
      rw [get_set] at g1' g2'
      by_cases z : i = j
      · rw [if_pos z] at g1'
        split at g1' <;> cases g1'
      · rw [if_neg z] at g1' g2'
        exact s1.new j xs q g1' g2'
    · rw [get_set] at g1' g2'
      by_cases z : i = j
      · rw [if_pos z] at g1'
        split at g1' <;> cases g1'
      · rw [if_neg z] at g1' g2'
        obtain ⟨r', us, y1, y2, _⟩ := s.sr.ow j ys g1'
        rw [g2'] at y1
        cases y1
        intro hm
        rw [fresh _ hm] at y2; cases y2
  · exact (show False from hp1).elim
end
end PL

namespace PL
open PySem PySem.Spec PyProof.Rows L2
/-! ### a def that hands back a tuple whose list is nobody else's -/
def RepU (K : PySem.W.Frag) : Hp → Hp → Hp → V → D → Prop := fun H H' Hs' v d => (deepB d = true ∧ ∃ A, OTA K H' [v] [d] A ∧ (∀ a ∈ A, Hs' a = none) ∧ ∀ a ∈ A, H a = none) ∨ (deepB d = false ∧ Rp K Hs' v d)
section
variable {K : PySem.W.Frag} {H Hs H1 Hs1 H' Hs' H0 Hb : Hp} {v : V} {d : D}
theorem RepU.at (s : Same H H1) (r : RepU K H1 H' Hs' v d) : RepU K H H' Hs' v d := by
  rcases r with ⟨h, A, a1, a2, a3⟩ | r
  · exact .inl ⟨h, A, a1, a2, fun a ha => s.free (a3 a ha)⟩
  · exact .inr r
theorem frzO (g : Grow H Hs H' Hs') (r : RepU K H H' Hs' v d) : ∃ Hs2, Grow H Hs H' Hs2 ∧ Rp K Hs2 v d := by
  rcases r with ⟨_, A, a1, a2, a3⟩ | ⟨_, r⟩
  · obtain ⟨Hs2, b1, b2, b3, b4⟩ := a1.frz g.sub a2
    refine ⟨Hs2, ⟨g.all, g.sh.trans b1, b2, fun b o hb nb => b4 b (g.own b o hb nb) fun hm => ?_⟩, ?_⟩
    · have := a3 b hm
      rw [hb] at this; cases this
    · cases b3 with | cons b3 _ => exact b3
  · exact ⟨Hs', g, r⟩
/-- the tuple is made -/
theorem endO {e : Env} {σ : St} {l p : Addr} {us vs3 : List V} {ys ds3 : List D} {s : Str} {Q : VK} (sb : SB K H0 Hb e σ H Hs) (h1 : H l = some (.lst us)) (h2 : Hs l = none) (h3 : H0 l = none) (r : RpA K Hs us ys) (r3 : RpA K Hs vs3 ds3) (hp : H p = none)
    (hq : ∀ v H' Hs', Grow H0 Hb H' Hs' → RepU K H0 H' Hs' v (.tuple (.str s :: .list ys :: ds3)) → Q v H') : Q (.ref p) (upd H p (.tup (.str s :: .ref l :: vs3))) := by
  have sub := sb.gr.sub
  have np : Hs p = none := sub.free hp
  have pl : p ≠ l := fun e => by rw [e, h1] at hp; cases hp
  have p0 : H0 p = none := sb.gr.all.free hp
  by_cases c : (ys.all isSc && ds3.all isSc) = true
  · have c' := c
    rw [Bool.and_eq_true] at c'
    have t1 : OTA K (upd H p (.tup (.str s :: .ref l :: vs3))) (.ref l :: vs3) (.list ys :: ds3) (l :: ([] ++ [])) := .lst (by rw [upd_ne pl.symm]; exact h1) (OTA.of_flat r c'.1) (OTA.of_flat r3 c'.2) (by simp) (by simp) (fun a h => by cases h)
    have t2 : OTA K (upd H p (.tup (.str s :: .ref l :: vs3))) (.str s :: .ref l :: vs3) (.str s :: .list ys :: ds3) (l :: ([] ++ [])) := .leaf rfl (.str s) t1
    refine hq _ _ Hs (sb.gr.trans (Grow.gar sub hp)) (.inl ⟨c, p :: ((l :: ([] ++ [])) ++ []), .tup upd_same t2 .nil (by simp [pl]) (by simp) (fun a _ h => by cases h), fun a ha => ?_, fun a ha => ?_⟩)
    · simp at ha
      rcases ha with rfl | rfl
      · exact np
      · exact h2
    · simp at ha
      rcases ha with rfl | rfl
      · exact p0
      · exact h3
  · have c' : (ys.all isSc && ds3.all isSc) = false := by simpa using c
    have sm : Same Hs (upd Hs l (.lst us)) := same_upd h2
    have s2 : Same (upd Hs l (.lst us)) H := fun b o hb => by
      by_cases q : b = l
      · subst q; rw [upd_same] at hb; cases hb; exact h1
      · rw [upd_ne q] at hb; exact sub _ _ hb
    have g2 : Grow H0 Hb H (upd Hs l (.lst us)) := ⟨sb.gr.all, sb.gr.sh.trans sm, s2, fun b o hb nb => by rw [upd_ne (ne_of_none hb h3)]; exact sb.gr.own b o hb nb⟩
    have gn := Grow.new (o := .tup (.str s :: .ref l :: vs3)) s2 hp
    exact hq _ _ _ (g2.trans gn) (.inr ⟨c', .tup upd_same ((RpA.cons (.str s) (.cons (.lst upd_same (r.up sm)) (r3.up sm))).up gn.sh)⟩)
end
section
variable {X : Cx} {W : WX} {pos : Pos}
theorem pps_retO1 (i : Nat) {s : Str} {j x1 : Nat} {x : Str} {p1 p2 p3 : Pos} (hN : X.N[i]? = some x := by rfl) (hv : Vis X.env.scope x := by first | exact Or.inl rfl | exact Or.inr (Or.inl rfl) | exact Or.inr (Or.inr rfl)) (hd : (x == ("__debug__" : Str)) = false := by decide) (hcd : (x == ("__classdict__" : Str)) = false := by decide)
    (h1 : starEach [.Constant (.str s) j p1, .Name x p2] X.env = (false, eval (.Constant (.str s) j p1) X.env) :: starEach [.Name x p2] X.env := by rfl) (h2 : starEach [.Name x p2] X.env = (false, eval (.Name x p2) X.env) :: starEach [] X.env := by rfl) :
    PPS X W (RepU X.K) (.Return (some (.Tuple [.Constant (.str s) j p1, .Name x p2] x1 p3)) pos) (sRetO i s) := by
  refine ⟨_, ps_ret (pe_tup (pa_cons pe_str (pa_cons (pe_var hN hv hd hcd) pa_nil h2) h1)), fun e σ H Hs H0 Hb Dn sb hp => ?_⟩
  unfold sRetO at hp
  split at hp
  · rename_i xs hi
    obtain ⟨q, vs, a1, a2, a3, a4⟩ := sb.sr.ow i xs hi
    refine ⟨_, a1, ?_⟩
    refine ⟨by show 2 ≤ sizeLine; decide, fun p hp0 => ?_⟩
    exact endO sb a2 a3 (sb.new i xs q hi a1) a4 .nil hp0 hp
  · exact (show False from hp).elim
theorem out_sl {s : Str} {f g : EF} {l u : Env → R (Option Int)} {e : Env} : sRet (eT (aC (eK (.str s)) (aC (eSl f l u) (aC g aN)))) e = (f e).out fun d => (l e).out fun a => (u e).out fun b => (opSl d a b).out fun d2 => (g e).out fun d3 => .ret (.tuple [.str s, d2, d3]) := by
  unfold sRet eT aC eSl aN eK
  cases f e with
  | err c => rfl
  | stk => rfl
  | ok d =>
    cases l e with
    | err c => rfl
    | stk => rfl
    | ok a =>
      cases u e with
      | err c => rfl
      | stk => rfl
      | ok b =>
        show (((((opSl d a b).bind _).bind _).bind _).out _) = (opSl d a b).out _
        cases opSl d a b with
        | err c => rfl
        | stk => rfl
        | ok d2 =>
          cases g e with
          | err c => rfl
          | stk => rfl
          | ok d3 => rfl
theorem pps_retO2 {s : Str} {j x1 : Nat} {a ex : Expr} {lo hi : Option Expr} {f g : EF} {l u : Env → R (Option Int)} {p1 p2 p3 p4 : Pos} (ha : PPB X W a f) (hl : PPO X W lo l) (hh : PPO X W hi u) (hg : PPE X W ex g)
    (h1 : starEach [.Constant (.str s) j p1, .Subscript a (.Slice lo hi none p2) p4, ex] X.env = (false, eval (.Constant (.str s) j p1) X.env) :: starEach [.Subscript a (.Slice lo hi none p2) p4, ex] X.env := by rfl) (h2 : starEach [.Subscript a (.Slice lo hi none p2) p4, ex] X.env = (false, eval (.Subscript a (.Slice lo hi none p2) p4) X.env) :: starEach [ex] X.env := by rfl) (h3 : starEach [ex] X.env = (false, eval ex X.env) :: starEach [] X.env := by rfl) :
    PPS X W (RepU X.K) (.Return (some (.Tuple [.Constant (.str s) j p1, .Subscript a (.Slice lo hi none p2) p4, ex] x1 p3)) pos) (sRet (eT (aC (eK (.str s)) (aC (eSl f l u) (aC g aN))))) := by
  obtain ⟨ta, pa, ha⟩ := ha.out
  obtain ⟨tl, pl, hl⟩ := hl.out
  obtain ⟨th, ph, hh⟩ := hh.out
  obtain ⟨tg, pg, hg⟩ := hg.out
  refine ⟨_, ps_ret (pe_tup (pa_cons pe_str (pa_cons (pe_slice (sl_list.or (sl_tupA.or sl_str)) pa pl ph) (pa_cons pg pa_nil h3) h2) h1)), fun e σ H Hs H0 Hb Dn sb hp => ?_⟩
  rw [out_sl] at hp
  refine ha e σ H Hs _ sb.sr (postS_bind sb hp fun d x H1 Hs1 _ g1 s1 r1 hp1 => ?_)
  refine hl e σ H1 Hs1 _ s1.sr (postS_bind s1 hp1 fun d2 y H2 Hs2 _ g2 s2 r2 hp2 => ?_)
  subst r2
  refine hh e σ H2 Hs2 _ s2.sr (postS_bind s2 hp2 fun d3 z H3 Hs3 _ g3 s3 r3 hp3 => ?_)
  subst r3
  have r1' := (r1.up g2).up g3
  have own : ∀ (xs : List D) (q : Addr) (vs : List V), x = .ref q → SqL X.K H3 q vs → RpA X.K Hs3 vs xs → opSl d y z = .ok (.list (cut xs y z)) → rSlL X.K x y z H3 (fun v2 H4 => tg σ H4 fun v3 H5 => [V.str s, v2, v3].length ≤ sizeLine ∧ ∀ p, H5 p = none → Dn.rt (.ref p) (upd H5 p (.tup [.str s, v2, v3]))) := fun xs q vs ex k1 k2 ho => by
    rw [ho] at hp3
    refine ⟨q, vs, ex, k1, fun l hl0 => ?_⟩
    have s4 := s3.grow (Grow.gar (o := .lst (cutV vs y z)) g3.sub hl0)
    have hp4 : PostS X W (RepU X.K) H0 Hb ((g e).out fun d3 => .ret (.tuple [.str s, .list (cut xs y z), d3])) Dn := hp3
    refine hg e σ _ Hs3 _ s4.sr (postS_bind s4 hp4 fun dd vv H5 Hs5 _ g5 s5 r5 hp5 => ⟨by show 3 ≤ sizeLine; decide, fun p hp0 => ?_⟩)
    exact endO (Q := Dn.rt) s5 (g5.all _ _ upd_same) (g5.own l _ upd_same (g3.sub.free hl0)) (s3.gr.all.free hl0) ((cut_rp k2).up g5.sh) (.cons r5 .nil) hp0 hp5
  by_cases hdl : (∃ xs, d = .list xs) ∨ ∃ xs, d = .dict [(.none, .list xs)]
  · rcases hdl with ⟨xs, rfl⟩ | ⟨xs, rfl⟩
    · obtain ⟨q, vs, ex, k1, k2⟩ := r1'.list g3.sub
      exact .inl (own xs q vs ex (SqL.of k1) k2 rfl)
    · obtain ⟨q, vs, ex, k1, k2⟩ := Bo.scr (xs := xs) r1' g3.sub
      exact .inl (own xs q vs ex k1 k2 rfl)
  · refine sl_post g3.sub r1' (postS_bind s3 hp3 fun dd vv H4 Hs4 ho g4 s4 r4 hp4 => ?_)
    refine hg e σ H4 Hs4 _ s4.sr (postS_bind s4 hp4 fun d3 v3 H5 Hs5 _ g5 s5 r5 hp5 => ⟨by show 3 ≤ sizeLine; decide, fun p hp0 => ?_⟩)
    have gn := Grow.new (o := .tup [.str s, vv, v3]) s5.sr.sub hp0
    refine hp5 (.ref p) _ _ (s5.gr.trans gn) (.inr ⟨?_, .tup upd_same ((RpA.cons (.str s) (.cons (r4.up g5.sh) (.cons r5 .nil))).up gn.sh)⟩)
    unfold opSl at ho
    split at ho
    · exact absurd (.inl ⟨_, rfl⟩) hdl
    · cases ho; rfl
    · split at ho <;> cases ho
      rfl
    · exact absurd (.inr ⟨_, rfl⟩) hdl
    · cases ho
end
/-! ### the def, its calls -/
def pureSpU (K : PySem.W.Frag) (mg : Str → Option Value) (n : Nat) (m : List D → R D) : Sp := fun vs H Q E => ∃ Hs ds, Same Hs H ∧ RpA K Hs vs ds ∧ ds.length = n ∧
  (match m ds with
    | .ok d => ∀ v H' Hs', Grow H Hs H' Hs' → RepU K H H' Hs' v d → Q v H'
    | .err c => ∀ H', Same H H' → E (clsV mg c) none H'
    | .stk => False)
abbrev FnU (P : Program) (w : World) (K : PySem.W.Frag) (mg : Str → Option Value) (base : Heap) (k : Nat) (f : Addr) (fd : FuncData) (ps : List Str) (m : List D → R D) : Prop :=
  FnOk P w K mg base (L2.CX P w) k f fd ps (pureSpU K mg ps.length m)
structure CalU (P : Program) (w : World) (K : PySem.W.Frag) (mg : Str → Option Value) (base : Heap) (x : Str) (ps : List Str) (k : Nat) (m : List D → R D) : Prop where
  ex : ∃ f fd, FnU P w K mg base k f fd ps m ∧ mg x = some (.ref f) ∧ PySem.W.keepIn K (.ref f) = true ∧ Binds K fd ps []
theorem CalU.cal {P : Program} {w : World} {K : PySem.W.Frag} {mg : Str → Option Value} {base : Heap} {x : Str} {ps : List Str} {k : Nat} {m : List D → R D} (C : CalU P w K mg base x ps k m) : Cal P w K mg base x ps k m := by
  obtain ⟨f, fd, F, h⟩ := C.ex
  refine ⟨f, fd, F.imp fun vs H Q E q => ?_, h⟩
  obtain ⟨Hs, ds, q1, q2, q3, q4⟩ := q
  refine ⟨Hs, ds, q1, q2, q3, ?_⟩
  cases e : m ds with
  | ok d =>
    rw [e] at q4
    intro v H' Hs' g r
    obtain ⟨Hs2, g2, r2⟩ := frzO g r
    exact q4 v H' Hs2 g2 r2
  | err c => rw [e] at q4; exact q4
  | stk => rw [e] at q4; exact q4
theorem fnU_of {P : Program} {w : World} {K : PySem.W.Frag} {mg : Str → Option Value} {base : Heap} {x qual : Str} {st : Stmt} {f : Addr} {fd : FuncData} {N ps : List Str} {k : Nat} {b : SF} (F : Fun K x qual st f fd) (S : FnScope N ps (defScope st))
    (hbody : ∀ (cdv : Value) (A : Around) (outer : List PySem.Env) (s : Shared) (H : Hp) (E : XK), Room k (A.deeper (envOfC qual (defScope st) s.heap.objs.size f cdv)) →
      PPSs (cxOf (L2.CX P w) P w K mg base N qual (defScope st) f cdv A outer s H E) (fun cls d _ H => E cls d H) (RepU K) (defBody st) b) :
    FnU P w K mg base (k + 1) f fd ps (fnR N.length b) := by
  refine F.okX S (fun vs H Q E h => ?_) fun cdv A outer s H vs Q E hr h => ?_
  · obtain ⟨Hs, ds, _, r, hl, _⟩ := h
    rw [r.length]; exact hl
  · obtain ⟨Hs, ds, sm, r, hl, h⟩ := h
    obtain ⟨t, p, ht⟩ := (hbody cdv A outer s H E hr).out
    refine ⟨t, p, ht (ds.map SV.sh ++ List.replicate (N.length - ds.length) SV.no) (L2.start N vs) H Hs H Hs _ ⟨Grow.refl sm, sr_start sm r, fun i xs q h1 h2 => ?_⟩ ?_⟩
    · exact absurd h1 (start_ow i xs)
    · unfold fnR at h
      cases e1 : b (ds.map SV.sh ++ List.replicate (N.length - ds.length) SV.no) with
      | next e' => rw [e1] at h; exact fun σ' H' Hs' s' => h .non H' Hs' s'.gr (.inr ⟨rfl, .non⟩)
      | ret d => rw [e1] at h; exact fun v H' Hs' g rt => h v H' Hs' g rt
      | brk e' => rw [e1] at h; exact (show False from h).elim
      | cont e' => rw [e1] at h; exact (show False from h).elim
      | err c => rw [e1] at h; exact fun σ' H' g _ => h H' g
      | stk => rw [e1] at h; exact h
section
variable {X : Cx} {W : WX} {pos : Pos}
/-- slot i = f(..), what f hands back is nobody else's; then the rest -/
theorem pps_ownC {RT : RTT} (i : Nat) {x y : Str} {a : Expr} {es : List Expr} {fs : LF} {rest : List Stmt} {g : OTR} {ps : List Str} {k j : Nat} {m : List D → R D} {py pc p2 : Pos} (C : CalU X.prog X.w X.K X.mg X.base x ps k m) (hr : Room j X.A) (tk : Takes X W) (ha : PPA X W (a :: es) fs)
    (h2 : PPOR X W RT i rest g) (hN : X.N.Nodup) (hj : k ≤ j := by decide) (hlen : (a :: es).length = ps.length := by rfl) (hg : Gl X x := by rfl) (hdb : (x == ("__debug__" : Str)) = false := by decide)
    (he : starEach (a :: es) X.env = (false, eval a X.env) :: starEach es X.env := by rfl) (hpl : (backTo pc (starEach es X.env)).any (·.1) = false := by rfl)
    (hx : Loc X.env.scope y := by first | exact Or.inl rfl | exact Or.inr rfl) (hi : X.N[i]? = some y := by rfl) (hs : swapsWith (.Call (.Name x p2) (a :: es) [] pc) (some (.Name y py)) pos.line X.env = pure false := by rfl)
    (hf : X.fn y = true ∨ X.env.scope.names.lookup y = some .local := by first | exact .inl rfl | exact .inr rfl) :
    PPSs X W RT (.Assign [.Name y py] (.Call (.Name x p2) (a :: es) [] pc) pos :: rest) (sOwnC i m fs g) := by
  obtain ⟨f, fd, F, hm, hk, hb⟩ := C.ex
  have hA := ha
  obtain ⟨⟨ta, pa, ha⟩, _⟩ := ha
  obtain ⟨t2, pr, h2⟩ := h2.out
  refine ⟨_, pss_cons (ps_set hN hi hx (pe_callS F (hr.mono hj) hg hm hk hb (passAt tk) pa hdb he hpl) hs hf) pr, fun e σ H Hs H0 Hb Dn s hp => ?_⟩
  unfold sOwnC at hp
  refine ha e σ H Hs _ s.sr (postS_bind s hp fun ds vs H1 Hs1 hds g1 s1 r1 hp1 => ?_)
  refine ⟨Hs1, ds, g1.sub, r1, by rw [hA.len e ds hds]; exact hlen, ?_⟩
  cases e2 : m ds with
  | err c => rw [e2] at hp1; exact fun H' s' => hp1 σ H' (s1.gr.all.trans s') ((s1.gr.sh.trans s1.gr.sub).trans s')
  | stk => rw [e2] at hp1; exact hp1
  | ok d =>
    rw [e2] at hp1
    have hp2 : PostS X W RT H0 Hb (if i < e.length ∧ deepB d = true then g d (e.set i .no) else .stk) Dn := hp1
    split at hp2
    · rename_i hc
      obtain ⟨hil, hdp⟩ := hc
      intro v H' Hs' gg rr
      rcases rr with ⟨_, A, q1, q2, q3⟩ | ⟨hno, _⟩
      · have s2 := s1.grow gg
        refine h2 v d A (e.set i .no) (σ.set i (some v)) H' Hs' H0 Hb Dn ⟨⟨s2.gr, s2.sr.drop i, fun j xs q g1' g2' => ?_⟩, by rw [get_set, if_pos rfl, if_pos hil], by rw [get_set, if_pos rfl, if_pos (by rw [← s.sr.len]; exact hil)], q1, q2, fun a ha => s1.gr.all.free (q3 a ha), fun j ys r g1' g2' => ?_⟩ hp2
        · rw [get_set] at g1' g2'
          by_cases z : i = j
          · rw [if_pos z] at g1'
            split at g1' <;> cases g1'
          · rw [if_neg z] at g1' g2'
            exact s2.new j xs q g1' g2'
        · rw [get_set] at g1' g2'
          by_cases z : i = j
          · rw [if_pos z] at g1'
            split at g1' <;> cases g1'
          · rw [if_neg z] at g1' g2'
            obtain ⟨r', us, y1, y2, _⟩ := s1.sr.ow j ys g1'
            rw [g2'] at y1
            cases y1
            intro hm
            rw [q3 _ hm] at y2; cases y2
      · rw [hdp] at hno; cases hno
    · exact (show False from hp2).elim
end
end PL

namespace PL
open PySem
/-! ## the mirrors -/
def nmOf : Str → Option Str := fun c => if c = "BadTable" then some "" else none
/-- is_whole(thing) -/
def b_is_whole : SF :=
  (sRet (eAnd (eC (bIsi .int) (aC (eB 0) aN)) (eNot (eC (bIsi .bool) (aC (eB 0) aN)))))
abbrev m_is_whole : List D → R D := fnR 1 b_is_whole

/-- are_whole(thing, size) -/
def b_are_whole : SF :=
  (sRet (eAnd (eC (bIsi .list) (aC (eB 0) aN)) (eAnd (e2 opEq (eC bLen (aC (eB 0) aN)) (eB 1)) (eC bAll (aC (eL (cmp (iL (eB 0)) [2] (gN 2) qY (eC m_is_whole (aC (eV 2) aN)))) aN)))))
abbrev m_are_whole : List D → R D := fnR 3 b_are_whole

/-- need_table(lines, wanted, free) -/
def b_need_table : SF :=
  (sSeq (sIf (qOr (qNot (qV (eC (bIsi .list) (aC (eB 0) aN)))) (qOr (qNot (qV (eCh opLe opLe (eK (.int 1)) (eC bLen (aC (eB 0) aN)) (eK (.int 40))))) (qNot (qV (eC (bIsi .list) (aC (e2 opIx (eB 0) (eK (.int 0))) aN)))))) (sRaise "BadTable") sNil)
  (sSeq (sSet (gN 3) (eC bLen (aC (e2 opIx (eB 0) (eK (.int 0))) aN)))
  (sSeq (sIf (qOr (qNot (qV (eCh opLe opLe (eK (.int 1)) (eB 3) (eK (.int 60))))) (qNot (qV (eC bAll (aC (eL (cmp (iL (eB 0)) [4] (gN 4) qY (eC m_are_whole (aC (eV 4) (aC (eV 3) aN))))) aN))))) (sRaise "BadTable") sNil)
  (sIf (qOr (qNot (qV (eC m_are_whole (aC (eV 1) (aC (eC bLen (aC (eB 0) aN)) aN))))) (qOr (qNot (qV (eC m_is_whole (aC (eV 2) aN)))) (qNot (qV (eCh opLe opLe (eK (.int 0)) (eB 2) (eB 3)))))) (sRaise "BadTable") sNil))))
abbrev m_need_table : List D → R D := fnR 5 b_need_table

/-- begun(lines, wanted, free) -/
def b_begun : SF :=
  (sSeq (sOwn 3 aN)
  (sSeq (sFor (iE (eV 0)) (gT [(gN 4), (gN 5)]) (sSeq (sSet (gN 6) (e2 opSub (eK (.int 1)) (e2 opMul (eK (.int 2)) (eC bInt (aC (e2 opLt (e2 opIx (eB 1) (eV 4)) (eK (.int 0))) aN)))))
  (sSeq (sSet (gN 7) (e2 opAdd (eL (cmp (iL (eB 5)) [8] (gN 8) qY (e2 opMul (eB 6) (eB 8)))) (eL (cmp (iL (eSl (eB 5) oN (oS (eV 2)))) [8] (gN 8) qY (e2 opSub (eK (.int 0)) (e2 opMul (eB 6) (eB 8)))))))
  (sApp 3 (e2 opAdd (e2 opAdd (eB 7) (eL (cmp (iR1 (eC bLen (aC (eB 0) aN))) [9] (gN 9) qY (eC bInt (aC (e2 opEq (eB 9) (eB 4)) aN))))) (eL (aC (e2 opMul (eB 6) (e2 opIx (eB 1) (eV 4))) aN)))))))
  (sSeq (sSet (gN 10) (e2 opAdd (eC bLen (aC (e2 opIx (eB 0) (eK (.int 0))) aN)) (eB 2)))
  (sSeq (sSet (gN 11) (eL (cmp (iR1 (eV 10)) [12] (gN 12) qY (e2 opSub (eK (.int 0)) (eC bSum (aC (eL (cmp (iL (eB 3)) [7] (gN 7) qY (e2 opIx (eB 7) (eV 12)))) aN))))))
  (sRet (e2 opAdd (eB 3) (eL (aC (e2 opAdd (e2 opAdd (eB 11) (e2 opMul (eL (aC (eK (.int 0)) aN)) (eC bLen (aC (eB 0) aN)))) (eL (aC (e2 opSub (eK (.int 0)) (eC bSum (aC (eL (cmp (iL (eB 3)) [7] (gN 7) qY (e2 opIx (eB 7) (e1 opNeg (eK (.int 1)))))) aN))) aN))) aN))))))))
abbrev m_begun : List D → R D := fnR 13 b_begun

/-- entering(cost, wide) -/
def b_entering : SF :=
  (sSeq (sFor (iR1 (eV 1)) (gN 2) (sIf (qV (e2 opLt (e2 opIx (eB 0) (eV 2)) (eK (.int 0)))) (sRet (eV 2)) sNil))
  (sRet (eK .none)))
abbrev m_entering : List D → R D := fnR 3 b_entering

/-- leaving(rows, place, basis) -/
def b_leaving : SF :=
  (sSeq (sSet (gN 3) (eK .none))
  (sSeq (sFor (iR1 (eC bLen (aC (eB 2) aN))) (gN 4) (sIf (qV (e2 opGt (e2 opIx (e2 opIx (eB 0) (eV 4)) (eV 1)) (eK (.int 0)))) (sIf (qV (e2 opIs (eB 3) (eK .none))) (sSet (gN 3) (eV 4)) (sSeq (sSet (gN 5) (e2 opMul (e2 opIx (e2 opIx (eB 0) (eV 4)) (e1 opNeg (eK (.int 1)))) (e2 opIx (e2 opIx (eB 0) (eV 3)) (eV 1))))
  (sSeq (sSet (gN 6) (e2 opMul (e2 opIx (e2 opIx (eB 0) (eV 3)) (e1 opNeg (eK (.int 1)))) (e2 opIx (e2 opIx (eB 0) (eV 4)) (eV 1))))
  (sIf (qOr (qV (e2 opLt (eB 5) (eB 6))) (qAnd (qV (e2 opEq (eB 5) (eB 6))) (qV (e2 opLt (e2 opIx (eB 2) (eV 4)) (e2 opIx (eB 2) (eV 3)))))) (sSet (gN 3) (eV 4)) sNil)))) sNil))
  (sRet (eV 3))))
abbrev m_leaving : List D → R D := fnR 7 b_leaving

/-- pivoted(rows, at, place, by) -/
def b_pivoted : SF :=
  (sSeq (sSet (gN 4) (e2 opIx (eB 0) (eV 1)))
  (sSeq (sOwn 5 aN)
  (sSeq (sFor (iE (eV 0)) (gT [(gN 6), (gN 7)]) (sIf (qV (e2 opEq (eB 6) (eB 1))) (sApp 5 (eV 7)) (sApp 5 (eL (cmp (iZ (eB 7) (eB 4)) [8, 9] (gT [(gN 8), (gN 9)]) qY (e2 opDiv (e2 opSub (e2 opMul (eB 8) (e2 opIx (eB 4) (eV 2))) (e2 opMul (e2 opIx (eB 7) (eV 2)) (eB 9))) (eB 3)))))))
  (sFrz 5 (sRet (eV 5))))))
abbrev m_pivoted : List D → R D := fnR 10 b_pivoted

/-- worked(rows, many, wide) -/
noncomputable def b_worked : SF :=
  (sSeq (sOwn 3 (bLR (eV 2) (e2 opAdd (eB 2) (eB 1))))
  (sSeq (sSet (gN 4) (eK (.int 1)))
  (sSeq (sSet (gN 5) (eC m_entering (aC (e2 opIx (eB 0) (e1 opNeg (eK (.int 1)))) (aC (eV 2) aN))))
  (sSeq (sWhile (qV (e2 opIsNot (eB 5) (eK .none))) (sSeq (sSet (gN 6) (eCb m_leaving (aC (eB 0) (aC (eB 5) (aC (eB 3) aN)))))
  (sSeq (sSet (gN 0) (eC m_pivoted (aC (eV 0) (aC (eV 6) (aC (eV 5) (aC (eV 4) aN))))))
  (sSeq (sSet (gN 4) (e2 opIx (e2 opIx (eB 0) (eV 6)) (eV 5)))
  (sSeq (sPut 3 (eV 6) (eV 5))
  (sSet (gN 5) (eC m_entering (aC (e2 opIx (eB 0) (e1 opNeg (eK (.int 1)))) (aC (eV 2) aN)))))))))
  (sFrz 3 (sRet (eT (aC (eV 0) (aC (eV 3) (aC (eV 4) aN))))))))))
noncomputable abbrev m_worked : List D → R D := fnR 7 b_worked

/-- solved(lines, wanted, free) -/
noncomputable def b_solved : SF :=
  (sSeq (sDo (eC m_need_table (aC (eV 0) (aC (eV 1) (aC (eV 2) aN)))))
  (sSeq (sSet (gN 3) (eC bLen (aC (e2 opIx (eB 0) (eK (.int 0))) aN)))
  (sSeq (sSet (gN 4) (e2 opAdd (eB 3) (eB 2)))
  (sSeq (sSet (gT [(gN 5), (gN 6), (gN 7)]) (eC m_worked (aC (eC m_begun (aC (eV 0) (aC (eV 1) (aC (eV 2) aN)))) (aC (eC bLen (aC (eB 0) aN)) (aC (eV 4) aN)))))
  (sSeq (sIf (qV (e2 opLt (e2 opIx (e2 opIx (eB 5) (e1 opNeg (eK (.int 1)))) (e1 opNeg (eK (.int 1)))) (eK (.int 0)))) (sSeq (sOwn 8 aN)
  (sSeq (sFor (iR1 (eC bLen (aC (eB 0) aN))) (gN 9) (sSeq (sSet (gN 10) (e2 opSub (eK (.int 1)) (e2 opMul (eK (.int 2)) (eC bInt (aC (e2 opLt (e2 opIx (eB 1) (eV 9)) (eK (.int 0))) aN)))))
  (sApp 8 (e2 opMul (eB 10) (e2 opSub (eB 7) (e2 opIx (e2 opIx (eB 5) (e1 opNeg (eK (.int 1)))) (e2 opAdd (eB 4) (eB 9))))))))
  (sRetO 8 "weights"))) sNil)
  (sSeq (sOwn 11 (lMul (eL (aC (eK (.int 0)) aN)) (eB 4)))
  (sSeq (sFor (iE (eV 6)) (gT [(gN 9), (gN 12)]) (sIf (qV (e2 opLt (eB 12) (eB 4))) (sPut 11 (eV 12) (e2 opIx (e2 opIx (eB 5) (eV 9)) (e1 opNeg (eK (.int 1))))) sNil))
  (sSeq (sFor (iR1 (eV 2)) (gN 12) (sPut 11 (eV 12) (e2 opSub (e2 opIx (eB 11) (eV 12)) (e2 opIx (eB 11) (e2 opAdd (eB 3) (eB 12))))))
  (sRet (eT (aC (eK (.str "answer")) (aC (eSl (eB 11) oN (oS (eV 3))) (aC (eV 7) aN)))))))))))))
noncomputable abbrev m_solved : List D → R D := fnR 13 b_solved

/-- _law_cell_at(_law_script, _law_k) -/
def b_law_cell_at : SF :=
  (sSeq (sIf (qV (e2 opLt (eB 1) (eC bLen (aC (eB 0) aN)))) (sRet (e2 opIx (eB 0) (eV 1))) sNil)
  (sRet (eK (.int 0))))
abbrev m_law_cell_at : List D → R D := fnR 2 b_law_cell_at

/-- _law_drawn(_law_seed, _law_k) -/
def b_law_drawn : SF :=
  (sSeq (sSet (gN 2) (e2 opMod (e2 opMul (e2 opAdd (e2 opAdd (eB 0) (e2 opMul (eK (.int 101)) (eB 1))) (eK (.int 7))) (eK (.int 48271))) (eK (.int 2147483647))))
  (sRet (e2 opDiv (e2 opMod (e2 opMul (e2 opAdd (e2 opDiv (eB 2) (eK (.int 7))) (eB 1)) (eK (.int 16807))) (eK (.int 2147483647))) (eK (.int 64)))))
abbrev m_law_drawn : List D → R D := fnR 3 b_law_drawn

def b_law_copied (mc : List D → R D) : SF :=
  (sSeq (sIf (qV (eC (bIsi .list) (aC (eB 0) aN))) (sRet (eL (cmp (iL (eB 0)) [1] (gN 1) qY (eC mc (aC (eV 1) aN))))) sNil)
  (sSeq (sIf (qV (eC (bIsi .tuple) (aC (eB 0) aN))) (sRet (eC bTup (aC (eL (cmp (iT (eV 0)) [1] (gN 1) qY (eC mc (aC (eV 1) aN)))) aN))) sNil)
  (sRet (eV 0))))
def m_law_copied : Nat → List D → R D
  | 0 => fun _ => .stk
  | n + 1 => fnR 2 (b_law_copied (m_law_copied n))

/-- _law_whole_ones(_law_thing, _law_size) -/
def b_law_whole_ones : SF :=
  (sSeq (sIf (qOr (qNot (qV (eC (bIsi .list) (aC (eB 0) aN)))) (qV (e2 opNe (eC bLen (aC (eB 0) aN)) (eB 1)))) (sRet (eK (.bool false))) sNil)
  (sRet (eC bAll (aC (eL (cmp (iL (eB 0)) [2] (gN 2) qY (eAnd (eC (bIsi .int) (aC (eB 2) aN)) (eNot (eC (bIsi .bool) (aC (eB 2) aN)))))) aN))))
abbrev m_law_whole_ones : List D → R D := fnR 3 b_law_whole_ones

/-- _law_lines(_law_script, _law_size, _law_many) -/
def b_law_lines : SF :=
  (sSeq (sOwn 3 aN)
  (sSeq (sSet (gN 4) (e2 opIx (eL (aC (eK (.int 1)) (aC (eK (.int 1)) (aC (eK (.int 1)) (aC (eK (.int 1)) (aC (eK (.int 1)) (aC (e2 opAdd (e2 opPow (eK (.int 10)) (eK (.int 9))) (eK (.int 7))) aN))))))) (e2 opMod (eC m_law_cell_at (aC (eV 0) (aC (eK (.int 1)) aN))) (eK (.int 6)))))
  (sSeq (sIf (qV (e2 opGt (eB 1) (eK (.int 9)))) (sSeq (sSet (gN 5) (eC m_law_cell_at (aC (eV 0) (aC (eK (.int 5)) aN))))
  (sSeq (sFor (iR1 (eV 1)) (gN 6) (sSeq (sSet (gN 7) (eL (cmp (iR1 (eV 2)) [8] (gN 8) qY (e2 opMod (eC m_law_drawn (aC (eV 5) (aC (e2 opAdd (e2 opMul (eK (.int 40)) (eB 6)) (eB 8)) aN))) (eK (.int 20))))))
  (sApp 3 (eL (cmp (iL (eB 7)) [9] (gN 9) qY (e2 opIx (eL (aC (eK (.int 0)) (aC (e2 opSub (eB 9) (eK (.int 2))) aN))) (eC bInt (aC (e2 opLt (eB 9) (eK (.int 5))) aN))))))))
  (sFrz 3 (sRet (eV 3))))) sNil)
  (sSeq (sFor (iR1 (eV 1)) (gN 6) (sSeq (sSet (gN 5) (eC m_law_cell_at (aC (eV 0) (aC (e2 opAdd (eK (.int 5)) (eB 6)) aN))))
  (sIf (qAnd (qV (e2 opEq (e2 opMod (eB 5) (eK (.int 5))) (eK (.int 1)))) (qV (e2 opGt (eB 6) (eK (.int 1))))) (sApp 3 (eL (cmp (iR1 (eV 2)) [8] (gN 8) qY (e2 opAdd (e2 opIx (e2 opIx (eB 3) (e2 opSub (eB 6) (eK (.int 1)))) (eV 8)) (e2 opIx (e2 opIx (eB 3) (e2 opSub (eB 6) (eK (.int 2)))) (eV 8)))))) (sApp 3 (eL (cmp (iR1 (eV 2)) [8] (gN 8) qY (e2 opMul (eB 4) (e2 opSub (e2 opMod (eC m_law_drawn (aC (eV 5) (aC (eV 8) aN))) (eK (.int 7))) (eK (.int 3))))))))))
  (sFrz 3 (sRet (eV 3)))))))
abbrev m_law_lines : List D → R D := fnR 10 b_law_lines

/-- _law_wanted(_law_script, _law_lines_here, _law_many, _law_free) -/
def b_law_wanted : SF :=
  (sSeq (sSet (gN 4) (eC m_law_cell_at (aC (eV 0) (aC (eK (.int 2)) aN))))
  (sSeq (sIf (qV (e2 opEq (e2 opMod (eB 4) (eK (.int 3))) (eK (.int 0)))) (sRet (eL (cmp (iR1 (eC bLen (aC (eB 1) aN))) [5] (gN 5) qY (e2 opSub (e2 opMod (eC m_law_drawn (aC (eV 4) (aC (e2 opAdd (eK (.int 50)) (eB 5)) aN))) (eK (.int 15))) (eK (.int 7)))))) sNil)
  (sSeq (sSet (gN 6) (eL (cmp (iR1 (eV 2)) [7] (gN 7) qY (e2 opSub (e2 opMod (eC m_law_drawn (aC (eV 4) (aC (eV 7) aN))) (eK (.int 6))) (e2 opMul (eK (.int 2)) (eC bInt (aC (e2 opLt (eB 7) (eB 3)) aN)))))))
  (sSeq (sOwn 8 aN)
  (sSeq (sFor (iL (eV 1)) (gN 9) (sApp 8 (eC bSum (aC (eL (cmp (iR1 (eV 2)) [7] (gN 7) qY (e2 opMul (e2 opIx (eB 9) (eV 7)) (e2 opIx (eB 6) (eV 7))))) aN))))
  (sSeq (sIf (qV (e2 opEq (e2 opMod (eB 4) (eK (.int 3))) (eK (.int 1)))) (sSeq (sSet (gN 10) (e2 opMod (e2 opDiv (eB 4) (eK (.int 3))) (eC bLen (aC (eB 1) aN))))
  (sPut 8 (eV 10) (e2 opSub (e2 opAdd (e2 opIx (eB 8) (eV 10)) (e2 opMod (eC m_law_drawn (aC (eV 4) (aC (eK (.int 99)) aN))) (eK (.int 3)))) (eK (.int 1))))) sNil)
  (sFrz 8 (sRet (eV 8)))))))))
abbrev m_law_wanted : List D → R D := fnR 11 b_law_wanted

/-- _law_answers(_law_lines_here, _law_wanted_here, _law_free, _law_found) -/
def b_law_answers : SF :=
  (sSeq (sIf (qOr (qV (e2 opNe (eC bLen (aC (eB 3) aN)) (eK (.int 3)))) (qOr (qNot (qV (eC m_law_whole_ones (aC (e2 opIx (eB 3) (eK (.int 1))) (aC (eC bLen (aC (e2 opIx (eB 0) (eK (.int 0))) aN)) aN))))) (qNot (qV (eC m_law_whole_ones (aC (eL (aC (e2 opIx (eB 3) (eK (.int 2))) aN)) (aC (eK (.int 1)) aN))))))) (sRet (eK (.bool false))) sNil)
  (sSeq (sIf (qOr (qV (e2 opLt (e2 opIx (eB 3) (eK (.int 2))) (eK (.int 1)))) (qV (e2 opLt (eC bMinL (aC (e2 opAdd (eSl (e2 opIx (eB 3) (eK (.int 1))) (oS (eV 2)) oN) (eL (aC (eK (.int 0)) aN))) aN)) (eK (.int 0))))) (sRet (eK (.bool false))) sNil)
  (sSeq (sFor (iZ (eV 0) (eV 1)) (gT [(gN 4), (gN 5)]) (sIf (qV (e2 opNe (eC bSum (aC (eL (cmp (iZ (eB 4) (e2 opIx (eB 3) (eK (.int 1)))) [6, 7] (gT [(gN 6), (gN 7)]) qY (e2 opMul (eB 6) (eB 7)))) aN)) (e2 opMul (eB 5) (e2 opIx (eB 3) (eK (.int 2)))))) (sRet (eK (.bool false))) sNil))
  (sRet (eK (.bool true))))))
abbrev m_law_answers : List D → R D := fnR 8 b_law_answers

/-- _law_shows(_law_lines_here, _law_wanted_here, _law_free, _law_found) -/
def b_law_shows : SF :=
  (sSeq (sIf (qOr (qV (e2 opNe (eC bLen (aC (eB 3) aN)) (eK (.int 2)))) (qNot (qV (eC m_law_whole_ones (aC (e2 opIx (eB 3) (eK (.int 1))) (aC (eC bLen (aC (eB 0) aN)) aN)))))) (sRet (eK (.bool false))) sNil)
  (sSeq (sFor (iR1 (eC bLen (aC (e2 opIx (eB 0) (eK (.int 0))) aN))) (gN 4) (sSeq (sSet (gN 5) (eC bSum (aC (eL (cmp (iR1 (eC bLen (aC (eB 0) aN))) [6] (gN 6) qY (e2 opMul (e2 opIx (e2 opIx (eB 0) (eV 6)) (eV 4)) (e2 opIx (e2 opIx (eB 3) (eK (.int 1))) (eV 6))))) aN)))
  (sIf (qOr (qV (e2 opGt (eB 5) (eK (.int 0)))) (qAnd (qV (e2 opLt (eB 4) (eB 2))) (qV (e2 opNe (eB 5) (eK (.int 0)))))) (sRet (eK (.bool false))) sNil)))
  (sRet (e2 opGt (eC bSum (aC (eL (cmp (iR1 (eC bLen (aC (eB 0) aN))) [6] (gN 6) qY (e2 opMul (e2 opIx (eB 1) (eV 6)) (e2 opIx (e2 opIx (eB 3) (eK (.int 1))) (eV 6))))) aN)) (eK (.int 0))))))
abbrev m_law_shows : List D → R D := fnR 7 b_law_shows

/-- _law_right(_law_lines_here, _law_wanted_here, _law_free, _law_found) -/
def b_law_right : SF :=
  (sSeq (sIf (qOr (qNot (qV (eC (bIsi .tuple) (aC (eB 3) aN)))) (qOr (qV (e2 opLt (eC bLen (aC (eB 3) aN)) (eK (.int 2)))) (qNot (qV (eC (bIsi .str) (aC (e2 opIx (eB 3) (eK (.int 0))) aN)))))) (sRet (eK (.bool false))) sNil)
  (sSeq (sIf (qV (e2 opEq (e2 opIx (eB 3) (eK (.int 0))) (eK (.str "answer")))) (sRet (eC m_law_answers (aC (eV 0) (aC (eV 1) (aC (eV 2) (aC (eV 3) aN)))))) sNil)
  (sRet (eAnd (e2 opEq (e2 opIx (eB 3) (eK (.int 0))) (eK (.str "weights"))) (eC m_law_shows (aC (eV 0) (aC (eV 1) (aC (eV 2) (aC (eV 3) aN)))))))))
abbrev m_law_right : List D → R D := fnR 4 b_law_right

/-- law(_law_script) -/
noncomputable def b_law : SF :=
  (sSeq (sSet (gN 1) (e2 opAdd (eK (.int 1)) (e2 opMod (eC m_law_cell_at (aC (eV 0) (aC (eK (.int 0)) aN))) (eK (.int 4)))))
  (sSeq (sSet (gN 2) (e2 opAdd (eK (.int 1)) (e2 opMod (e2 opDiv (eC m_law_cell_at (aC (eV 0) (aC (eK (.int 0)) aN))) (eK (.int 4))) (eK (.int 5)))))
  (sSeq (sIf (qV (e2 opEq (e2 opMod (e2 opDiv (eC m_law_cell_at (aC (eV 0) (aC (eK (.int 0)) aN))) (eK (.int 20))) (eK (.int 8))) (eK (.int 1)))) (sSeq (sSet (gN 1) (e2 opAdd (eB 1) (eK (.int 3))))
  (sSet (gN 2) (e2 opAdd (eB 2) (eK (.int 4))))) (sIf (qV (e2 opEq (e2 opMod (e2 opDiv (eC m_law_cell_at (aC (eV 0) (aC (eK (.int 0)) aN))) (eK (.int 20))) (eK (.int 16))) (eK (.int 2)))) (sSeq (sSet (gN 1) (e2 opAdd (eK (.int 8)) (e2 opMul (eK (.int 3)) (eB 1))))
  (sSet (gN 2) (e2 opAdd (eK (.int 10)) (e2 opMul (eK (.int 3)) (eB 2))))) sNil))
  (sSeq (sSet (gN 3) (e2 opDiv (e2 opMod (eC m_law_cell_at (aC (eV 0) (aC (eK (.int 3)) aN))) (e2 opAdd (eB 2) (eK (.int 1)))) (e2 opIx (eL (aC (eK (.int 1)) (aC (eK (.int 2)) aN))) (e2 opMod (eC m_law_cell_at (aC (eV 0) (aC (eK (.int 4)) aN))) (eK (.int 2))))))
  (sSeq (sSet (gN 4) (eC m_law_lines (aC (eV 0) (aC (eV 1) (aC (eV 2) aN)))))
  (sSeq (sSet (gN 5) (eC m_law_wanted (aC (eV 0) (aC (eV 4) (aC (eV 2) (aC (eV 3) aN))))))
  (sSeq (sSet (gN 6) (eL (aC (eC (m_law_copied 12) (aC (eV 4) aN)) (aC (eC bList (aC (eB 5) aN)) aN))))
  (sOwnC 7 m_solved (aC (e2 opIx (eB 6) (eK (.int 0))) (aC (e2 opIx (eB 6) (eK (.int 1))) (aC (eV 3) aN)))
  (oCons (oIf 7 (qOr (qNot (qV (eC m_law_right (aC (eV 4) (aC (eV 5) (aC (eV 3) (aC (eV 7) aN))))))) (qV (e2 opNe (eB 6) (eL (aC (eV 4) (aC (eV 5) aN)))))) (oAway (sRet (eK (.bool false)))))
  (oCons (oApp 7 (1) (eK (.int 0)))
  (oFrz 7 (sSeq (sSet (gN 8) (eC m_solved (aC (e2 opIx (eB 6) (eK (.int 0))) (aC (e2 opIx (eB 6) (eK (.int 1))) (aC (eV 3) aN)))))
  (sRet (eAnd (eC m_law_right (aC (eV 4) (aC (eV 5) (aC (eV 3) (aC (eV 8) aN))))) (e2 opEq (eB 6) (eL (aC (eV 4) (aC (eV 5) aN))))))))))))))))))
noncomputable abbrev m_law : List D → R D := fnR 9 b_law
end PL

namespace PL
open PySem PySem.Spec PyProof.Rows L2
/-! ## the walk -/
def topS (i : Nat) : Stmt := PySem.Challenge.pw_loopgauge_k04_tables_answered.main.body.getD i (.Pass ⟨0, 0, 0, 0⟩)
structure Txt (K : PySem.W.Frag) (mg : Str → Option Value) : Type where
  b_all : mg "all" = none
  b_bool : mg "bool" = none
  b_enumerate : mg "enumerate" = none
  b_int : mg "int" = none
  b_isinstance : mg "isinstance" = none
  b_len : mg "len" = none
  b_list : mg "list" = none
  b_min : mg "min" = none
  b_range : mg "range" = none
  b_str : mg "str" = none
  b_sum : mg "sum" = none
  b_tuple : mg "tuple" = none
  b_zip : mg "zip" = none
  k_MOST_LINES : ∃ t, mg "MOST_LINES" = some (.int 40 t)
  k_MOST_PLACES : ∃ t, mg "MOST_PLACES" = some (.int 60 t)
  c_BadTable : Addr
  x_BadTable : ExcF K mg "BadTable" c_BadTable
abbrev s_is_whole : Stmt := topS 4
theorem sc_is_whole : FnScope ["thing"] ["thing"] (defScope s_is_whole) := ⟨rfl, rfl, rfl, by decide +kernel, rfl, by decide +kernel, by decide +kernel⟩
theorem ok_is_whole {P : Program} {w : World} {K : PySem.W.Frag} {mg : Str → Option Value} {base : Heap} {fa : Addr} {fd : FuncData} (T : Txt K mg) (F : Fun K "is_whole" "is_whole" s_is_whole fa fd) : FnP P w K mg base 1 fa fd ["thing"] m_is_whole :=
  fnP_of (N := ["thing"]) (k := 0) F sc_is_whole fun cdv A outer s H E hr => by
    have nd : (["thing"] : List Str).Nodup := sc_is_whole.nd
    have tk := @takes_of (cxOf (L2.CX P w) P w K mg base ["thing"] "is_whole" (defScope s_is_whole) fa cdv A outer s H E) E rfl rfl rfl _ rfl
    exact (ppss_one (pps_ret (ppe_and (ppe_isi .int (ppb_v 0) T.b_isinstance boot_isi T.b_int boot_int) (ppe_one (ppe_not (ppe_isi .bool (ppb_v 0) T.b_isinstance boot_isi T.b_bool boot_bool))))))

abbrev s_are_whole : Stmt := topS 5
theorem sc_are_whole : FnScope ["thing", "size", "one"] ["thing", "size"] (defScope s_are_whole) := ⟨rfl, rfl, rfl, by decide +kernel, rfl, by decide +kernel, by decide +kernel⟩
theorem ok_are_whole {P : Program} {w : World} {K : PySem.W.Frag} {mg : Str → Option Value} {base : Heap} {fa : Addr} {fd : FuncData} (T : Txt K mg) (c_is_whole : Cal P w K mg base "is_whole" ["thing"] 1 m_is_whole) (F : Fun K "are_whole" "are_whole" s_are_whole fa fd) : FnP P w K mg base 2 fa fd ["thing", "size"] m_are_whole :=
  fnP_of (N := ["thing", "size", "one"]) (k := 1) F sc_are_whole fun cdv A outer s H E hr => by
    have nd : (["thing", "size", "one"] : List Str).Nodup := sc_are_whole.nd
    have tk := @takes_of (cxOf (L2.CX P w) P w K mg base ["thing", "size", "one"] "are_whole" (defScope s_are_whole) fa cdv A outer s H E) E rfl rfl rfl _ rfl
    exact (ppss_one (pps_ret (ppe_and (ppe_isi .list (ppb_v 0) T.b_isinstance boot_isi T.b_list boot_list) (ppe_and (ppe_cmp (os_eq hr.units) (ppe_callB cs_len T.b_len PySem.boot_len (ppba_cons (ppb_v 0) ppba_nil)).bo (ppb_v 1) (nomark _)) (ppe_one (ppe_callB (cs_all rfl) T.b_all boot_all (ppba_cons (ppe_comp (own := [("one", 2)]) nd (ppi_list (ppb_v 0)) (by kernel_rfl) (fun _ _ _ _ _ => (ppg_n 2 nd)) (fun _ _ _ _ _ => ppts_nil) (fun _ _ _ _ _ => (ppe_cal c_is_whole hr takes0 (ppa_cons (ppe_v 2) ppa_nil)))).bo ppba_nil)))))))

abbrev s_need_table : Stmt := topS 9
theorem sc_need_table : FnScope ["lines", "wanted", "free", "many", "line"] ["lines", "wanted", "free"] (defScope s_need_table) := ⟨rfl, rfl, rfl, by decide +kernel, rfl, by decide +kernel, by decide +kernel⟩
theorem ok_need_table {P : Program} {w : World} {K : PySem.W.Frag} {mg : Str → Option Value} {base : Heap} {fa : Addr} {fd : FuncData} (T : Txt K mg) (c_are_whole : Cal P w K mg base "are_whole" ["thing", "size"] 2 m_are_whole) (c_is_whole : Cal P w K mg base "is_whole" ["thing"] 1 m_is_whole) (F : Fun K "need_table" "need_table" s_need_table fa fd) : FnP P w K mg base 3 fa fd ["lines", "wanted", "free"] m_need_table :=
  fnP_of (N := ["lines", "wanted", "free", "many", "line"]) (k := 2) F sc_need_table fun cdv A outer s H E hr => by
    have nd : (["lines", "wanted", "free", "many", "line"] : List Str).Nodup := sc_need_table.nd
    have tk := @takes_of (cxOf (L2.CX P w) P w K mg base ["lines", "wanted", "free", "many", "line"] "need_table" (defScope s_need_table) fa cdv A outer s H E) E rfl rfl rfl _ rfl
    exact (ppss_cons (pps_if (ppw_or (ppt_not (ppt_v (ppe_isi .list (ppb_v 0) T.b_isinstance boot_isi T.b_list boot_list))) (ppw_or (ppt_not (ppt_chain os_le os_le ppe_int.bo (ppe_callB cs_len T.b_len PySem.boot_len (ppba_cons (ppb_v 0) ppba_nil)).bo (ppe_gi T.k_MOST_LINES).bo)) (ppw_or1 (ppt_not (ppt_v (ppe_isi .list (ppe_ix (ppb_v 0) ppe_int (fun _ _ => rfl)).bo T.b_isinstance boot_isi T.b_list boot_list)))))).pt (ppss_one (pps_raise tk PySem.F.excBase_ValueError T.x_BadTable.xi T.x_BadTable.gC T.x_BadTable.kC (raises_own T.x_BadTable.bC T.x_BadTable.tC))) ppss_nil)
    (ppss_cons (pps_set 3 nd (ppe_callB cs_len T.b_len PySem.boot_len (ppba_cons (ppe_ix (ppb_v 0) ppe_int (fun _ _ => rfl)).bo ppba_nil)))
    (ppss_cons (pps_if (ppw_or (ppt_not (ppt_chain os_le os_le ppe_int.bo (ppb_v 3) (ppe_gi T.k_MOST_PLACES).bo)) (ppw_or1 (ppt_not (ppt_v (ppe_callB (cs_all rfl) T.b_all boot_all (ppba_cons (ppe_comp (own := [("line", 4)]) nd (ppi_list (ppb_v 0)) (by kernel_rfl) (fun _ _ _ _ _ => (ppg_n 4 nd)) (fun _ _ _ _ _ => ppts_nil) (fun _ _ _ _ _ => (ppe_cal c_are_whole hr takes0 (ppa_cons (ppe_v 4) (ppa_cons (ppe_v 3) ppa_nil))))).bo ppba_nil)))))).pt (ppss_one (pps_raise tk PySem.F.excBase_ValueError T.x_BadTable.xi T.x_BadTable.gC T.x_BadTable.kC (raises_own T.x_BadTable.bC T.x_BadTable.tC))) ppss_nil)
    (ppss_one (pps_if (ppw_or (ppt_not (ppt_v (ppe_cal c_are_whole hr tk (ppa_cons (ppe_v 1) (ppa_cons (ppe_callB cs_len T.b_len PySem.boot_len (ppba_cons (ppb_v 0) ppba_nil)) ppa_nil))))) (ppw_or (ppt_not (ppt_v (ppe_cal c_is_whole hr tk (ppa_cons (ppe_v 2) ppa_nil)))) (ppw_or1 (ppt_not (ppt_chain os_le os_le ppe_int.bo (ppb_v 2) (ppb_v 3)))))).pt (ppss_one (pps_raise tk PySem.F.excBase_ValueError T.x_BadTable.xi T.x_BadTable.gC T.x_BadTable.kC (raises_own T.x_BadTable.bC T.x_BadTable.tC))) ppss_nil)))))

abbrev s_begun : Stmt := topS 10
theorem sc_begun : FnScope ["lines", "wanted", "free", "rows", "at", "line", "side", "row", "one", "k", "wide", "cost", "place"] ["lines", "wanted", "free"] (defScope s_begun) := ⟨rfl, rfl, rfl, by decide +kernel, rfl, by decide +kernel, by decide +kernel⟩
theorem ok_begun {P : Program} {w : World} {K : PySem.W.Frag} {mg : Str → Option Value} {base : Heap} {fa : Addr} {fd : FuncData} (T : Txt K mg) (F : Fun K "begun" "begun" s_begun fa fd) : FnP P w K mg base 1 fa fd ["lines", "wanted", "free"] m_begun :=
  fnP_of (N := ["lines", "wanted", "free", "rows", "at", "line", "side", "row", "one", "k", "wide", "cost", "place"]) (k := 0) F sc_begun fun cdv A outer s H E hr => by
    have nd : (["lines", "wanted", "free", "rows", "at", "line", "side", "row", "one", "k", "wide", "cost", "place"] : List Str).Nodup := sc_begun.nd
    have tk := @takes_of (cxOf (L2.CX P w) P w K mg base ["lines", "wanted", "free", "rows", "at", "line", "side", "row", "one", "k", "wide", "cost", "place"] "begun" (defScope s_begun) fa cdv A outer s H E) E rfl rfl rfl _ rfl
    have hpo : PassesOwn (model P w) (cxOf (L2.CX P w) P w K mg base ["lines", "wanted", "free", "rows", "at", "line", "side", "row", "one", "k", "wide", "cost", "place"] "begun" (defScope s_begun) fa cdv A outer s H E).A (cxOf (L2.CX P w) P w K mg base ["lines", "wanted", "free", "rows", "at", "line", "side", "row", "one", "k", "wide", "cost", "place"] "begun" (defScope s_begun) fa cdv A outer s H E).env (cxOf (L2.CX P w) P w K mg base ["lines", "wanted", "free", "rows", "at", "line", "side", "row", "one", "k", "wide", "cost", "place"] "begun" (defScope s_begun) fa cdv A outer s H E).xe := passes_of rfl
    exact (ppss_cons (pps_own 3 nd (ppf_list ppa_nil))
    (ppss_cons (pps_for hpo (ppi_enS T.b_enumerate (ppe_v 0)) (ppg_t rfl (ppgs_cons (ppg_n 4 nd) (ppgs_cons (ppg_n 5 nd) ppgs_nil))) (ppss_cons (pps_set 6 nd (ppe_op os_sub ppe_int.bo (ppe_op os_mul ppe_int.bo (ppe_callTy cs_int T.b_int boot_int (ppba_cons (ppe_cmp os_lt (ppe_ix (ppb_v 1) (ppe_v 4) (fun _ _ => rfl)).bo ppe_int.bo (nomark _)).bo ppba_nil)).bo).bo))
    (ppss_cons (pps_set 7 nd (ppe_op os_add (ppe_comp (own := [("one", 8)]) nd (ppi_list (ppb_v 5)) (by kernel_rfl) (fun _ _ _ _ _ => (ppg_n 8 nd)) (fun _ _ _ _ _ => ppts_nil) (fun _ _ _ _ _ => (ppe_op os_mul (ppb_v 6) (ppb_v 8)))).bo (ppe_comp (own := [("one", 8)]) nd (ppi_list (ppe_sl (ppb_v 5) ppo_none (ppo_some (ppe_v 2))).bo) (by kernel_rfl) (fun _ _ _ _ _ => (ppg_n 8 nd)) (fun _ _ _ _ _ => ppts_nil) (fun _ _ _ _ _ => (ppe_op os_sub ppe_int.bo (ppe_op os_mul (ppb_v 6) (ppb_v 8)).bo))).bo))
    (ppss_one (pps_app 3 (ppe_op os_add (ppe_op os_add (ppb_v 7) (ppe_comp (own := [("k", 9)]) nd (ppi_r1 T.b_range (ppe_callB cs_len T.b_len PySem.boot_len (ppba_cons (ppb_v 0) ppba_nil))) (by kernel_rfl) (fun _ _ _ _ _ => (ppg_n 9 nd)) (fun _ _ _ _ _ => ppts_nil) (fun _ _ _ _ _ => (ppe_callTy cs_int T.b_int boot_int (ppba_cons (ppe_cmp (os_eq hr.units) (ppb_v 9) (ppb_v 4) (nomark _)).bo ppba_nil)))).bo).bo (ppe_list (ppa_cons (ppe_op os_mul (ppb_v 6) (ppe_ix (ppb_v 1) (ppe_v 4) (fun _ _ => rfl)).bo) ppa_nil)).bo))))))
    (ppss_cons (pps_set 10 nd (ppe_op os_add (ppe_callB cs_len T.b_len PySem.boot_len (ppba_cons (ppe_ix (ppb_v 0) ppe_int (fun _ _ => rfl)).bo ppba_nil)).bo (ppb_v 2)))
    (ppss_cons (pps_setC 11 (own := [("place", 12)]) (hN := nd) (hi := (ppi_r1 T.b_range (ppe_v 10))) (ok := by kernel_rfl) (hg := (fun _ _ _ _ _ => (ppg_n 12 nd))) (ht := (fun _ _ _ _ _ => ppts_nil)) (he := (fun _ _ _ _ _ => (ppe_op os_sub ppe_int.bo (ppe_callB (cs_sum rfl) T.b_sum boot_sum (ppba_cons (ppe_comp (own := [("row", 7)]) nd (ppi_list (ppb_v 3)) (by kernel_rfl) (fun _ _ _ _ _ => (ppg_n 7 nd)) (fun _ _ _ _ _ => ppts_nil) (fun _ _ _ _ _ => (ppe_ix (ppb_v 7) (ppe_v 12) (fun _ _ => rfl)))).bo ppba_nil)).bo))))
    (ppss_one (pps_ret (ppe_op os_add (ppb_v 3) (ppe_list (ppa_cons (ppe_op os_add (ppe_op os_add (ppb_v 11) (ppe_op os_mul (ppe_list (ppa_cons ppe_int ppa_nil)).bo (ppe_callB cs_len T.b_len PySem.boot_len (ppba_cons (ppb_v 0) ppba_nil)).bo).bo).bo (ppe_list (ppa_cons (ppe_op os_sub ppe_int.bo (ppe_callB (cs_sum rfl) T.b_sum boot_sum (ppba_cons (ppe_comp (own := [("row", 7)]) nd (ppi_list (ppb_v 3)) (by kernel_rfl) (fun _ _ _ _ _ => (ppg_n 7 nd)) (fun _ _ _ _ _ => ppts_nil) (fun _ _ _ _ _ => (ppe_ix (ppb_v 7) (ppe_un us_neg ppe_int.bo) (fun _ _ => rfl)))).bo ppba_nil)).bo) ppa_nil)).bo) ppa_nil)).bo)))))))

abbrev s_entering : Stmt := topS 11
theorem sc_entering : FnScope ["cost", "wide", "place"] ["cost", "wide"] (defScope s_entering) := ⟨rfl, rfl, rfl, by decide +kernel, rfl, by decide +kernel, by decide +kernel⟩
theorem ok_entering {P : Program} {w : World} {K : PySem.W.Frag} {mg : Str → Option Value} {base : Heap} {fa : Addr} {fd : FuncData} (T : Txt K mg) (F : Fun K "entering" "entering" s_entering fa fd) : FnP P w K mg base 1 fa fd ["cost", "wide"] m_entering :=
  fnP_of (N := ["cost", "wide", "place"]) (k := 0) F sc_entering fun cdv A outer s H E hr => by
    have nd : (["cost", "wide", "place"] : List Str).Nodup := sc_entering.nd
    have tk := @takes_of (cxOf (L2.CX P w) P w K mg base ["cost", "wide", "place"] "entering" (defScope s_entering) fa cdv A outer s H E) E rfl rfl rfl _ rfl
    have hpo : PassesOwn (model P w) (cxOf (L2.CX P w) P w K mg base ["cost", "wide", "place"] "entering" (defScope s_entering) fa cdv A outer s H E).A (cxOf (L2.CX P w) P w K mg base ["cost", "wide", "place"] "entering" (defScope s_entering) fa cdv A outer s H E).env (cxOf (L2.CX P w) P w K mg base ["cost", "wide", "place"] "entering" (defScope s_entering) fa cdv A outer s H E).xe := passes_of rfl
    exact (ppss_cons (pps_for hpo (ppi_r1 T.b_range (ppe_v 1)) (ppg_n 2 nd) (ppss_one (pps_if (ppt_cmp os_lt (ppe_ix (ppb_v 0) (ppe_v 2) (fun _ _ => rfl)).bo ppe_int.bo (nomark _)) (ppss_one (pps_ret (ppe_v 2))) ppss_nil)))
    (ppss_one (pps_ret ppe_non)))

abbrev s_leaving : Stmt := topS 12
theorem sc_leaving : FnScope ["rows", "place", "basis", "best", "at", "one", "other"] ["rows", "place", "basis"] (defScope s_leaving) := ⟨rfl, rfl, rfl, by decide +kernel, rfl, by decide +kernel, by decide +kernel⟩
theorem ok_leaving {P : Program} {w : World} {K : PySem.W.Frag} {mg : Str → Option Value} {base : Heap} {fa : Addr} {fd : FuncData} (T : Txt K mg) (F : Fun K "leaving" "leaving" s_leaving fa fd) : FnP P w K mg base 1 fa fd ["rows", "place", "basis"] m_leaving :=
  fnP_of (N := ["rows", "place", "basis", "best", "at", "one", "other"]) (k := 0) F sc_leaving fun cdv A outer s H E hr => by
    have nd : (["rows", "place", "basis", "best", "at", "one", "other"] : List Str).Nodup := sc_leaving.nd
    have tk := @takes_of (cxOf (L2.CX P w) P w K mg base ["rows", "place", "basis", "best", "at", "one", "other"] "leaving" (defScope s_leaving) fa cdv A outer s H E) E rfl rfl rfl _ rfl
    have hpo : PassesOwn (model P w) (cxOf (L2.CX P w) P w K mg base ["rows", "place", "basis", "best", "at", "one", "other"] "leaving" (defScope s_leaving) fa cdv A outer s H E).A (cxOf (L2.CX P w) P w K mg base ["rows", "place", "basis", "best", "at", "one", "other"] "leaving" (defScope s_leaving) fa cdv A outer s H E).env (cxOf (L2.CX P w) P w K mg base ["rows", "place", "basis", "best", "at", "one", "other"] "leaving" (defScope s_leaving) fa cdv A outer s H E).xe := passes_of rfl
    exact (ppss_cons (pps_set 3 nd ppe_non)
    (ppss_cons (pps_for hpo (ppi_r1 T.b_range (ppe_callB cs_len T.b_len PySem.boot_len (ppba_cons (ppb_v 2) ppba_nil))) (ppg_n 4 nd) (ppss_one (pps_if (ppt_cmp os_gt (ppe_ix (ppe_ix (ppb_v 0) (ppe_v 4) (fun _ _ => rfl)).bo (ppe_v 1) (fun _ _ => rfl)).bo ppe_int.bo (nomark _)) (ppss_one (pps_if (ppt_cmp os_is (ppb_v 3) ppe_non.bo (nomark _)) (ppss_one (pps_set 3 nd (ppe_v 4))) (ppss_cons (pps_set 5 nd (ppe_op os_mul (ppe_ix (ppe_ix (ppb_v 0) (ppe_v 4) (fun _ _ => rfl)).bo (ppe_un us_neg ppe_int.bo) (fun _ _ => rfl)).bo (ppe_ix (ppe_ix (ppb_v 0) (ppe_v 3) (fun _ _ => rfl)).bo (ppe_v 1) (fun _ _ => rfl)).bo))
    (ppss_cons (pps_set 6 nd (ppe_op os_mul (ppe_ix (ppe_ix (ppb_v 0) (ppe_v 3) (fun _ _ => rfl)).bo (ppe_un us_neg ppe_int.bo) (fun _ _ => rfl)).bo (ppe_ix (ppe_ix (ppb_v 0) (ppe_v 4) (fun _ _ => rfl)).bo (ppe_v 1) (fun _ _ => rfl)).bo))
    (ppss_one (pps_if (ppw_or (ppt_cmp os_lt (ppb_v 5) (ppb_v 6) (nomark _)) (ppw_or1 (ppw_and (ppt_cmp (os_eq hr.units) (ppb_v 5) (ppb_v 6) (nomark _)) (ppw_and1 (ppt_cmp os_lt (ppe_ix (ppb_v 2) (ppe_v 4) (fun _ _ => rfl)).bo (ppe_ix (ppb_v 2) (ppe_v 3) (fun _ _ => rfl)).bo (nomark _)))).pt)).pt (ppss_one (pps_set 3 nd (ppe_v 4))) ppss_nil)))))) ppss_nil)))
    (ppss_one (pps_ret (ppe_v 3)))))

abbrev s_pivoted : Stmt := topS 13
theorem sc_pivoted : FnScope ["rows", "at", "place", "by", "own", "found", "k", "row", "one", "other"] ["rows", "at", "place", "by"] (defScope s_pivoted) := ⟨rfl, rfl, rfl, by decide +kernel, rfl, by decide +kernel, by decide +kernel⟩
theorem ok_pivoted {P : Program} {w : World} {K : PySem.W.Frag} {mg : Str → Option Value} {base : Heap} {fa : Addr} {fd : FuncData} (T : Txt K mg) (F : Fun K "pivoted" "pivoted" s_pivoted fa fd) : FnP P w K mg base 1 fa fd ["rows", "at", "place", "by"] m_pivoted :=
  fnP_of (N := ["rows", "at", "place", "by", "own", "found", "k", "row", "one", "other"]) (k := 0) F sc_pivoted fun cdv A outer s H E hr => by
    have nd : (["rows", "at", "place", "by", "own", "found", "k", "row", "one", "other"] : List Str).Nodup := sc_pivoted.nd
    have tk := @takes_of (cxOf (L2.CX P w) P w K mg base ["rows", "at", "place", "by", "own", "found", "k", "row", "one", "other"] "pivoted" (defScope s_pivoted) fa cdv A outer s H E) E rfl rfl rfl _ rfl
    have hpo : PassesOwn (model P w) (cxOf (L2.CX P w) P w K mg base ["rows", "at", "place", "by", "own", "found", "k", "row", "one", "other"] "pivoted" (defScope s_pivoted) fa cdv A outer s H E).A (cxOf (L2.CX P w) P w K mg base ["rows", "at", "place", "by", "own", "found", "k", "row", "one", "other"] "pivoted" (defScope s_pivoted) fa cdv A outer s H E).env (cxOf (L2.CX P w) P w K mg base ["rows", "at", "place", "by", "own", "found", "k", "row", "one", "other"] "pivoted" (defScope s_pivoted) fa cdv A outer s H E).xe := passes_of rfl
    exact (ppss_cons (pps_set 4 nd (ppe_ix (ppb_v 0) (ppe_v 1) (fun _ _ => rfl)))
    (ppss_cons (pps_own 5 nd (ppf_list ppa_nil))
    (ppss_cons (pps_for hpo (ppi_enS T.b_enumerate (ppe_v 0)) (ppg_t rfl (ppgs_cons (ppg_n 6 nd) (ppgs_cons (ppg_n 7 nd) ppgs_nil))) (ppss_one (pps_if (ppt_cmp (os_eq hr.units) (ppb_v 6) (ppb_v 1) (nomark _)) (ppss_one (pps_app 5 (ppe_v 7))) (ppss_one (pps_app 5 (ppe_comp (own := [("one", 8), ("other", 9)]) nd (ppi_zip T.b_zip (ppb_v 7) (ppb_v 4)) (by kernel_rfl) (fun _ _ _ _ _ => (ppg_t rfl (ppgs_cons (ppg_n 8 nd) (ppgs_cons (ppg_n 9 nd) ppgs_nil)))) (fun _ _ _ _ _ => ppts_nil) (fun _ _ _ _ _ => (ppe_op os_div (ppe_op os_sub (ppe_op os_mul (ppb_v 8) (ppe_ix (ppb_v 4) (ppe_v 2) (fun _ _ => rfl)).bo).bo (ppe_op os_mul (ppe_ix (ppb_v 7) (ppe_v 2) (fun _ _ => rfl)).bo (ppb_v 9)).bo).bo (ppb_v 3)))))))))
    (ppss_one (pps_frz 5 (pps_ret (ppe_v 5)))))))

abbrev s_worked : Stmt := topS 14
theorem sc_worked : FnScope ["rows", "many", "wide", "basis", "by", "place", "at"] ["rows", "many", "wide"] (defScope s_worked) := ⟨rfl, rfl, rfl, by decide +kernel, rfl, by decide +kernel, by decide +kernel⟩
theorem ok_worked {P : Program} {w : World} {K : PySem.W.Frag} {mg : Str → Option Value} {base : Heap} {fa : Addr} {fd : FuncData} (T : Txt K mg) (c_entering : Cal P w K mg base "entering" ["cost", "wide"] 1 m_entering) (c_leaving : Cal P w K mg base "leaving" ["rows", "place", "basis"] 1 m_leaving) (c_pivoted : Cal P w K mg base "pivoted" ["rows", "at", "place", "by"] 1 m_pivoted) (F : Fun K "worked" "worked" s_worked fa fd) : FnP P w K mg base 2 fa fd ["rows", "many", "wide"] m_worked :=
  fnP_of (N := ["rows", "many", "wide", "basis", "by", "place", "at"]) (k := 1) F sc_worked fun cdv A outer s H E hr => by
    have nd : (["rows", "many", "wide", "basis", "by", "place", "at"] : List Str).Nodup := sc_worked.nd
    have tk := @takes_of (cxOf (L2.CX P w) P w K mg base ["rows", "many", "wide", "basis", "by", "place", "at"] "worked" (defScope s_worked) fa cdv A outer s H E) E rfl rfl rfl _ rfl
    have hpo : PassesOwn (model P w) (cxOf (L2.CX P w) P w K mg base ["rows", "many", "wide", "basis", "by", "place", "at"] "worked" (defScope s_worked) fa cdv A outer s H E).A (cxOf (L2.CX P w) P w K mg base ["rows", "many", "wide", "basis", "by", "place", "at"] "worked" (defScope s_worked) fa cdv A outer s H E).env (cxOf (L2.CX P w) P w K mg base ["rows", "many", "wide", "basis", "by", "place", "at"] "worked" (defScope s_worked) fa cdv A outer s H E).xe := passes_of rfl
    exact (ppss_cons (pps_own 3 nd (ppf_lr T.b_range T.b_list (ppe_v 2) (ppe_op os_add (ppb_v 2) (ppb_v 1))))
    (ppss_cons (pps_set 4 nd ppe_int)
    (ppss_cons (pps_set 5 nd (ppe_cal c_entering hr tk (ppa_cons (ppe_ix (ppb_v 0) (ppe_un us_neg ppe_int.bo) (fun _ _ => rfl)) (ppa_cons (ppe_v 2) ppa_nil))))
    (ppss_cons (pps_while hpo (ppt_cmp os_isnot (ppb_v 5) ppe_non.bo (nomark _)) (ppss_cons (pps_set 6 nd (ppe_calL c_leaving hr tk (ppba_cons (ppb_v 0) (ppba_cons (ppb_v 5) (ppba_cons (ppb_v 3) ppba_nil))) (lenC (lenC (lenC lenN)))))
    (ppss_cons (pps_set 0 nd (ppe_cal c_pivoted hr tk (ppa_cons (ppe_v 0) (ppa_cons (ppe_v 6) (ppa_cons (ppe_v 5) (ppa_cons (ppe_v 4) ppa_nil))))))
    (ppss_cons (pps_set 4 nd (ppe_ix (ppe_ix (ppb_v 0) (ppe_v 6) (fun _ _ => rfl)).bo (ppe_v 5) (fun _ _ => rfl)))
    (ppss_cons (pps_put 3 (ppe_v 6) (ppe_v 5))
    (ppss_one (pps_set 5 nd (ppe_cal c_entering hr tk (ppa_cons (ppe_ix (ppb_v 0) (ppe_un us_neg ppe_int.bo) (fun _ _ => rfl)) (ppa_cons (ppe_v 2) ppa_nil))))))))))
    (ppss_one (pps_frz 3 (pps_ret (ppe_tup (ppa_cons (ppe_v 0) (ppa_cons (ppe_v 3) (ppa_cons (ppe_v 4) ppa_nil)))))))))))

abbrev s_solved : Stmt := topS 15
theorem sc_solved : FnScope ["lines", "wanted", "free", "many", "wide", "rows", "basis", "by", "found", "at", "side", "numbers", "place"] ["lines", "wanted", "free"] (defScope s_solved) := ⟨rfl, rfl, rfl, by decide +kernel, rfl, by decide +kernel, by decide +kernel⟩
theorem ok_solved {P : Program} {w : World} {K : PySem.W.Frag} {mg : Str → Option Value} {base : Heap} {fa : Addr} {fd : FuncData} (T : Txt K mg) (c_need_table : Cal P w K mg base "need_table" ["lines", "wanted", "free"] 3 m_need_table) (c_worked : Cal P w K mg base "worked" ["rows", "many", "wide"] 2 m_worked) (c_begun : Cal P w K mg base "begun" ["lines", "wanted", "free"] 1 m_begun) (F : Fun K "solved" "solved" s_solved fa fd) : FnU P w K mg base 4 fa fd ["lines", "wanted", "free"] m_solved :=
  fnU_of (N := ["lines", "wanted", "free", "many", "wide", "rows", "basis", "by", "found", "at", "side", "numbers", "place"]) (k := 3) F sc_solved fun cdv A outer s H E hr => by
    have nd : (["lines", "wanted", "free", "many", "wide", "rows", "basis", "by", "found", "at", "side", "numbers", "place"] : List Str).Nodup := sc_solved.nd
    have tk := @takes_of (cxOf (L2.CX P w) P w K mg base ["lines", "wanted", "free", "many", "wide", "rows", "basis", "by", "found", "at", "side", "numbers", "place"] "solved" (defScope s_solved) fa cdv A outer s H E) E rfl rfl rfl _ rfl
    have hpo : PassesOwn (model P w) (cxOf (L2.CX P w) P w K mg base ["lines", "wanted", "free", "many", "wide", "rows", "basis", "by", "found", "at", "side", "numbers", "place"] "solved" (defScope s_solved) fa cdv A outer s H E).A (cxOf (L2.CX P w) P w K mg base ["lines", "wanted", "free", "many", "wide", "rows", "basis", "by", "found", "at", "side", "numbers", "place"] "solved" (defScope s_solved) fa cdv A outer s H E).env (cxOf (L2.CX P w) P w K mg base ["lines", "wanted", "free", "many", "wide", "rows", "basis", "by", "found", "at", "side", "numbers", "place"] "solved" (defScope s_solved) fa cdv A outer s H E).xe := passes_of rfl
    exact (ppss_cons (pps_do (ppe_cal c_need_table hr tk (ppa_cons (ppe_v 0) (ppa_cons (ppe_v 1) (ppa_cons (ppe_v 2) ppa_nil)))))
    (ppss_cons (pps_set 3 nd (ppe_callB cs_len T.b_len PySem.boot_len (ppba_cons (ppe_ix (ppb_v 0) ppe_int (fun _ _ => rfl)).bo ppba_nil)))
    (ppss_cons (pps_set 4 nd (ppe_op os_add (ppb_v 3) (ppb_v 2)))
    (ppss_cons (pps_setT (ppg_t rfl (ppgs_cons (ppg_n 5 nd) (ppgs_cons (ppg_n 6 nd) (ppgs_cons (ppg_n 7 nd) ppgs_nil)))) (ppe_cal c_worked hr tk (ppa_cons (ppe_cal c_begun hr tk (ppa_cons (ppe_v 0) (ppa_cons (ppe_v 1) (ppa_cons (ppe_v 2) ppa_nil)))) (ppa_cons (ppe_callB cs_len T.b_len PySem.boot_len (ppba_cons (ppb_v 0) ppba_nil)) (ppa_cons (ppe_v 4) ppa_nil)))))
    (ppss_cons (pps_if (ppt_cmp os_lt (ppe_ix (ppe_ix (ppb_v 5) (ppe_un us_neg ppe_int.bo) (fun _ _ => rfl)).bo (ppe_un us_neg ppe_int.bo) (fun _ _ => rfl)).bo ppe_int.bo (nomark _)) (ppss_cons (pps_own 8 nd (ppf_list ppa_nil))
    (ppss_cons (pps_for hpo (ppi_r1 T.b_range (ppe_callB cs_len T.b_len PySem.boot_len (ppba_cons (ppb_v 0) ppba_nil))) (ppg_n 9 nd) (ppss_cons (pps_set 10 nd (ppe_op os_sub ppe_int.bo (ppe_op os_mul ppe_int.bo (ppe_callTy cs_int T.b_int boot_int (ppba_cons (ppe_cmp os_lt (ppe_ix (ppb_v 1) (ppe_v 9) (fun _ _ => rfl)).bo ppe_int.bo (nomark _)).bo ppba_nil)).bo).bo))
    (ppss_one (pps_app 8 (ppe_op os_mul (ppb_v 10) (ppe_op os_sub (ppb_v 7) (ppe_ix (ppe_ix (ppb_v 5) (ppe_un us_neg ppe_int.bo) (fun _ _ => rfl)).bo (ppe_op os_add (ppb_v 4) (ppb_v 9)) (fun _ _ => rfl)).bo).bo)))))
    (ppss_one (pps_retO1 8)))) ppss_nil)
    (ppss_cons (pps_own 11 nd (ppf_mul (ppe_list (ppa_cons ppe_int ppa_nil)).bo (ppb_v 4)))
    (ppss_cons (pps_for hpo (ppi_enS T.b_enumerate (ppe_v 6)) (ppg_t rfl (ppgs_cons (ppg_n 9 nd) (ppgs_cons (ppg_n 12 nd) ppgs_nil))) (ppss_one (pps_if (ppt_cmp os_lt (ppb_v 12) (ppb_v 4) (nomark _)) (ppss_one (pps_put 11 (ppe_v 12) (ppe_ix (ppe_ix (ppb_v 5) (ppe_v 9) (fun _ _ => rfl)).bo (ppe_un us_neg ppe_int.bo) (fun _ _ => rfl)))) ppss_nil)))
    (ppss_cons (pps_for hpo (ppi_r1 T.b_range (ppe_v 2)) (ppg_n 12 nd) (ppss_one (pps_put 11 (ppe_v 12) (ppe_op os_sub (ppe_ix (ppb_v 11) (ppe_v 12) (fun _ _ => rfl)).bo (ppe_ix (ppb_v 11) (ppe_op os_add (ppb_v 3) (ppb_v 12)) (fun _ _ => rfl)).bo))))
    (ppss_one (pps_retO2 (ppb_v 11) ppo_none (ppo_some (ppe_v 3)) (ppe_v 7)))))))))))

abbrev s_law_cell_at : Stmt := topS 17
theorem sc_law_cell_at : FnScope ["_law_script", "_law_k"] ["_law_script", "_law_k"] (defScope s_law_cell_at) := ⟨rfl, rfl, rfl, by decide +kernel, rfl, by decide +kernel, by decide +kernel⟩
theorem ok_law_cell_at {P : Program} {w : World} {K : PySem.W.Frag} {mg : Str → Option Value} {base : Heap} {fa : Addr} {fd : FuncData} (T : Txt K mg) (F : Fun K "_law_cell_at" "_law_cell_at" s_law_cell_at fa fd) : FnP P w K mg base 1 fa fd ["_law_script", "_law_k"] m_law_cell_at :=
  fnP_of (N := ["_law_script", "_law_k"]) (k := 0) F sc_law_cell_at fun cdv A outer s H E hr => by
    have nd : (["_law_script", "_law_k"] : List Str).Nodup := sc_law_cell_at.nd
    have tk := @takes_of (cxOf (L2.CX P w) P w K mg base ["_law_script", "_law_k"] "_law_cell_at" (defScope s_law_cell_at) fa cdv A outer s H E) E rfl rfl rfl _ rfl
    exact (ppss_cons (pps_if (ppt_cmp os_lt (ppb_v 1) (ppe_callB cs_len T.b_len PySem.boot_len (ppba_cons (ppb_v 0) ppba_nil)).bo (nomark _)) (ppss_one (pps_ret (ppe_ix (ppb_v 0) (ppe_v 1) (fun _ _ => rfl)))) ppss_nil)
    (ppss_one (pps_ret ppe_int)))

abbrev s_law_drawn : Stmt := topS 18
theorem sc_law_drawn : FnScope ["_law_seed", "_law_k", "_law_mixed"] ["_law_seed", "_law_k"] (defScope s_law_drawn) := ⟨rfl, rfl, rfl, by decide +kernel, rfl, by decide +kernel, by decide +kernel⟩
theorem ok_law_drawn {P : Program} {w : World} {K : PySem.W.Frag} {mg : Str → Option Value} {base : Heap} {fa : Addr} {fd : FuncData} (T : Txt K mg) (F : Fun K "_law_drawn" "_law_drawn" s_law_drawn fa fd) : FnP P w K mg base 1 fa fd ["_law_seed", "_law_k"] m_law_drawn :=
  fnP_of (N := ["_law_seed", "_law_k", "_law_mixed"]) (k := 0) F sc_law_drawn fun cdv A outer s H E hr => by
    have nd : (["_law_seed", "_law_k", "_law_mixed"] : List Str).Nodup := sc_law_drawn.nd
    have tk := @takes_of (cxOf (L2.CX P w) P w K mg base ["_law_seed", "_law_k", "_law_mixed"] "_law_drawn" (defScope s_law_drawn) fa cdv A outer s H E) E rfl rfl rfl _ rfl
    exact (ppss_cons (pps_set 2 nd (ppe_op os_mod (ppe_op os_mul (ppe_op os_add (ppe_op os_add (ppb_v 0) (ppe_op os_mul ppe_int.bo (ppb_v 1)).bo).bo ppe_int.bo).bo ppe_int.bo).bo ppe_int.bo))
    (ppss_one (pps_ret (ppe_op os_div (ppe_op os_mod (ppe_op os_mul (ppe_op os_add (ppe_op os_div (ppb_v 2) ppe_int.bo).bo (ppb_v 1)).bo ppe_int.bo).bo ppe_int.bo).bo ppe_int.bo))))

abbrev s_law_copied : Stmt := topS 19
theorem sc_law_copied : FnScope ["_law_thing", "_law_part"] ["_law_thing"] (defScope s_law_copied) := ⟨rfl, rfl, rfl, by decide +kernel, rfl, by decide +kernel, by decide +kernel⟩
theorem ok_law_copied {P : Program} {w : World} {K : PySem.W.Frag} {mg : Str → Option Value} {base : Heap} {fa : Addr} {fd : FuncData} (T : Txt K mg) {k : Nat} {mc : List D → R D} (c_law_copied : Cal P w K mg base "_law_copied" ["_law_thing"] (k + 1) mc) (F : Fun K "_law_copied" "_law_copied" s_law_copied fa fd) : FnP P w K mg base (k + 1 + 1) fa fd ["_law_thing"] (fnR 2 (b_law_copied mc)) :=
  fnP_of (N := ["_law_thing", "_law_part"]) (k := k + 1) F sc_law_copied fun cdv A outer s H E hr => by
    have nd : (["_law_thing", "_law_part"] : List Str).Nodup := sc_law_copied.nd
    have tk := @takes_of (cxOf (L2.CX P w) P w K mg base ["_law_thing", "_law_part"] "_law_copied" (defScope s_law_copied) fa cdv A outer s H E) E rfl rfl rfl _ rfl
    exact (ppss_cons (pps_if (ppt_v (ppe_isi .list (ppb_v 0) T.b_isinstance boot_isi T.b_list boot_list)) (ppss_one (pps_ret (ppe_comp (own := [("_law_part", 1)]) nd (ppi_list (ppb_v 0)) (by kernel_rfl) (fun _ _ _ _ _ => (ppg_n 1 nd)) (fun _ _ _ _ _ => ppts_nil) (fun _ _ _ _ _ => (ppe_cal c_law_copied hr takes0 (ppa_cons (ppe_v 1) ppa_nil) (Nat.le_refl _)))))) ppss_nil)
    (ppss_cons (pps_if (ppt_v (ppe_isi .tuple (ppb_v 0) T.b_isinstance boot_isi T.b_tuple boot_tuple)) (ppss_one (pps_ret (ppe_callTy cs_tup T.b_tuple boot_tuple (ppba_cons (ppe_comp (own := [("_law_part", 1)]) nd (ppi_tup (ppe_v 0)) (by kernel_rfl) (fun _ _ _ _ _ => (ppg_n 1 nd)) (fun _ _ _ _ _ => ppts_nil) (fun _ _ _ _ _ => (ppe_cal c_law_copied hr takes0 (ppa_cons (ppe_v 1) ppa_nil) (Nat.le_refl _)))).bo ppba_nil)))) ppss_nil)
    (ppss_one (pps_ret (ppe_v 0)))))
theorem all_law_copied {P : Program} {w : World} {K : PySem.W.Frag} {mg : Str → Option Value} {base : Heap} {fa : Addr} {fd : FuncData} (T : Txt K mg) (F : Fun K "_law_copied" "_law_copied" s_law_copied fa fd) (hb : Binds K fd ["_law_thing"] []) (hm : mg "_law_copied" = some (.ref fa)) (n : Nat) : Cal P w K mg base "_law_copied" ["_law_thing"] (n + 1) (m_law_copied n) := by
  induction n with
  | zero => exact ⟨fa, fd, fnP_stk, hm, F.kp, hb⟩
  | succ n ih => exact ⟨fa, fd, ok_law_copied T ih F, hm, F.kp, hb⟩

abbrev s_law_whole_ones : Stmt := topS 20
theorem sc_law_whole_ones : FnScope ["_law_thing", "_law_size", "_law_one"] ["_law_thing", "_law_size"] (defScope s_law_whole_ones) := ⟨rfl, rfl, rfl, by decide +kernel, rfl, by decide +kernel, by decide +kernel⟩
theorem ok_law_whole_ones {P : Program} {w : World} {K : PySem.W.Frag} {mg : Str → Option Value} {base : Heap} {fa : Addr} {fd : FuncData} (T : Txt K mg) (F : Fun K "_law_whole_ones" "_law_whole_ones" s_law_whole_ones fa fd) : FnP P w K mg base 1 fa fd ["_law_thing", "_law_size"] m_law_whole_ones :=
  fnP_of (N := ["_law_thing", "_law_size", "_law_one"]) (k := 0) F sc_law_whole_ones fun cdv A outer s H E hr => by
    have nd : (["_law_thing", "_law_size", "_law_one"] : List Str).Nodup := sc_law_whole_ones.nd
    have tk := @takes_of (cxOf (L2.CX P w) P w K mg base ["_law_thing", "_law_size", "_law_one"] "_law_whole_ones" (defScope s_law_whole_ones) fa cdv A outer s H E) E rfl rfl rfl _ rfl
    exact (ppss_cons (pps_if (ppw_or (ppt_not (ppt_v (ppe_isi .list (ppb_v 0) T.b_isinstance boot_isi T.b_list boot_list))) (ppw_or1 (ppt_cmp (os_ne hr.units) (ppe_callB cs_len T.b_len PySem.boot_len (ppba_cons (ppb_v 0) ppba_nil)).bo (ppb_v 1) (nomark _)))).pt (ppss_one (pps_ret ppe_bl)) ppss_nil)
    (ppss_one (pps_ret (ppe_callB (cs_all rfl) T.b_all boot_all (ppba_cons (ppe_comp (own := [("_law_one", 2)]) nd (ppi_list (ppb_v 0)) (by kernel_rfl) (fun _ _ _ _ _ => (ppg_n 2 nd)) (fun _ _ _ _ _ => ppts_nil) (fun _ _ _ _ _ => (ppe_and (ppe_isi .int (ppb_v 2) T.b_isinstance boot_isi T.b_int boot_int) (ppe_one (ppe_not (ppe_isi .bool (ppb_v 2) T.b_isinstance boot_isi T.b_bool boot_bool)))))).bo ppba_nil)))))

abbrev s_law_lines : Stmt := topS 21
theorem sc_law_lines : FnScope ["_law_script", "_law_size", "_law_many", "_law_lines_here", "_law_far", "_law_cell", "_law_k", "_law_some", "_law_j", "_law_one"] ["_law_script", "_law_size", "_law_many"] (defScope s_law_lines) := ⟨rfl, rfl, rfl, by decide +kernel, rfl, by decide +kernel, by decide +kernel⟩
theorem ok_law_lines {P : Program} {w : World} {K : PySem.W.Frag} {mg : Str → Option Value} {base : Heap} {fa : Addr} {fd : FuncData} (T : Txt K mg) (c_law_cell_at : Cal P w K mg base "_law_cell_at" ["_law_script", "_law_k"] 1 m_law_cell_at) (c_law_drawn : Cal P w K mg base "_law_drawn" ["_law_seed", "_law_k"] 1 m_law_drawn) (F : Fun K "_law_lines" "_law_lines" s_law_lines fa fd) : FnP P w K mg base 2 fa fd ["_law_script", "_law_size", "_law_many"] m_law_lines :=
  fnP_of (N := ["_law_script", "_law_size", "_law_many", "_law_lines_here", "_law_far", "_law_cell", "_law_k", "_law_some", "_law_j", "_law_one"]) (k := 1) F sc_law_lines fun cdv A outer s H E hr => by
    have nd : (["_law_script", "_law_size", "_law_many", "_law_lines_here", "_law_far", "_law_cell", "_law_k", "_law_some", "_law_j", "_law_one"] : List Str).Nodup := sc_law_lines.nd
    have tk := @takes_of (cxOf (L2.CX P w) P w K mg base ["_law_script", "_law_size", "_law_many", "_law_lines_here", "_law_far", "_law_cell", "_law_k", "_law_some", "_law_j", "_law_one"] "_law_lines" (defScope s_law_lines) fa cdv A outer s H E) E rfl rfl rfl _ rfl
    have hpo : PassesOwn (model P w) (cxOf (L2.CX P w) P w K mg base ["_law_script", "_law_size", "_law_many", "_law_lines_here", "_law_far", "_law_cell", "_law_k", "_law_some", "_law_j", "_law_one"] "_law_lines" (defScope s_law_lines) fa cdv A outer s H E).A (cxOf (L2.CX P w) P w K mg base ["_law_script", "_law_size", "_law_many", "_law_lines_here", "_law_far", "_law_cell", "_law_k", "_law_some", "_law_j", "_law_one"] "_law_lines" (defScope s_law_lines) fa cdv A outer s H E).env (cxOf (L2.CX P w) P w K mg base ["_law_script", "_law_size", "_law_many", "_law_lines_here", "_law_far", "_law_cell", "_law_k", "_law_some", "_law_j", "_law_one"] "_law_lines" (defScope s_law_lines) fa cdv A outer s H E).xe := passes_of rfl
    exact (ppss_cons (pps_own 3 nd (ppf_list ppa_nil))
    (ppss_cons (pps_set 4 nd (ppe_ix (ppe_list (ppa_cons ppe_int (ppa_cons ppe_int (ppa_cons ppe_int (ppa_cons ppe_int (ppa_cons ppe_int (ppa_cons (ppe_op os_add (ppe_op os_pow ppe_int.bo ppe_int.bo).bo ppe_int.bo) ppa_nil))))))).bo (ppe_op os_mod (ppe_cal c_law_cell_at hr tk (ppa_cons (ppe_v 0) (ppa_cons ppe_int ppa_nil))).bo ppe_int.bo) (fun _ _ => rfl)))
    (ppss_cons (pps_if (ppt_cmp os_gt (ppb_v 1) ppe_int.bo (nomark _)) (ppss_cons (pps_set 5 nd (ppe_cal c_law_cell_at hr tk (ppa_cons (ppe_v 0) (ppa_cons ppe_int ppa_nil))))
    (ppss_cons (pps_for hpo (ppi_r1 T.b_range (ppe_v 1)) (ppg_n 6 nd) (ppss_cons (pps_setC 7 (own := [("_law_j", 8)]) (hN := nd) (hi := (ppi_r1 T.b_range (ppe_v 2))) (ok := by kernel_rfl) (hg := (fun _ _ _ _ _ => (ppg_n 8 nd))) (ht := (fun _ _ _ _ _ => ppts_nil)) (he := (fun _ _ _ _ _ => (ppe_op os_mod (ppe_cal c_law_drawn hr takes0 (ppa_cons (ppe_v 5) (ppa_cons (ppe_op os_add (ppe_op os_mul ppe_int.bo (ppb_v 6)).bo (ppb_v 8)) ppa_nil))).bo ppe_int.bo))))
    (ppss_one (pps_app 3 (ppe_comp (own := [("_law_one", 9)]) nd (ppi_list (ppb_v 7)) (by kernel_rfl) (fun _ _ _ _ _ => (ppg_n 9 nd)) (fun _ _ _ _ _ => ppts_nil) (fun _ _ _ _ _ => (ppe_ix (ppe_list (ppa_cons ppe_int (ppa_cons (ppe_op os_sub (ppb_v 9) ppe_int.bo) ppa_nil))).bo (ppe_callTy cs_int T.b_int boot_int (ppba_cons (ppe_cmp os_lt (ppb_v 9) ppe_int.bo (nomark _)).bo ppba_nil)) (fun _ _ => rfl))))))))
    (ppss_one (pps_frz 3 (pps_ret (ppe_v 3)))))) ppss_nil)
    (ppss_cons (pps_for hpo (ppi_r1 T.b_range (ppe_v 1)) (ppg_n 6 nd) (ppss_cons (pps_set 5 nd (ppe_cal c_law_cell_at hr tk (ppa_cons (ppe_v 0) (ppa_cons (ppe_op os_add ppe_int.bo (ppb_v 6)) ppa_nil))))
    (ppss_one (pps_if (ppw_and (ppt_cmp (os_eq hr.units) (ppe_op os_mod (ppb_v 5) ppe_int.bo).bo ppe_int.bo (nomark _)) (ppw_and1 (ppt_cmp os_gt (ppb_v 6) ppe_int.bo (nomark _)))).pt (ppss_one (pps_app 3 (ppe_comp (own := [("_law_j", 8)]) nd (ppi_r1 T.b_range (ppe_v 2)) (by kernel_rfl) (fun _ _ _ _ _ => (ppg_n 8 nd)) (fun _ _ _ _ _ => ppts_nil) (fun _ _ _ _ _ => (ppe_op os_add (ppe_ix (ppe_ix (ppb_v 3) (ppe_op os_sub (ppb_v 6) ppe_int.bo) (fun _ _ => rfl)).bo (ppe_v 8) (fun _ _ => rfl)).bo (ppe_ix (ppe_ix (ppb_v 3) (ppe_op os_sub (ppb_v 6) ppe_int.bo) (fun _ _ => rfl)).bo (ppe_v 8) (fun _ _ => rfl)).bo))))) (ppss_one (pps_app 3 (ppe_comp (own := [("_law_j", 8)]) nd (ppi_r1 T.b_range (ppe_v 2)) (by kernel_rfl) (fun _ _ _ _ _ => (ppg_n 8 nd)) (fun _ _ _ _ _ => ppts_nil) (fun _ _ _ _ _ => (ppe_op os_mul (ppb_v 4) (ppe_op os_sub (ppe_op os_mod (ppe_cal c_law_drawn hr takes0 (ppa_cons (ppe_v 5) (ppa_cons (ppe_v 8) ppa_nil))).bo ppe_int.bo).bo ppe_int.bo).bo)))))))))
    (ppss_one (pps_frz 3 (pps_ret (ppe_v 3))))))))

abbrev s_law_wanted : Stmt := topS 22
theorem sc_law_wanted : FnScope ["_law_script", "_law_lines_here", "_law_many", "_law_free", "_law_cell", "_law_k", "_law_some", "_law_j", "_law_found", "_law_line", "_law_at"] ["_law_script", "_law_lines_here", "_law_many", "_law_free"] (defScope s_law_wanted) := ⟨rfl, rfl, rfl, by decide +kernel, rfl, by decide +kernel, by decide +kernel⟩
theorem ok_law_wanted {P : Program} {w : World} {K : PySem.W.Frag} {mg : Str → Option Value} {base : Heap} {fa : Addr} {fd : FuncData} (T : Txt K mg) (c_law_cell_at : Cal P w K mg base "_law_cell_at" ["_law_script", "_law_k"] 1 m_law_cell_at) (c_law_drawn : Cal P w K mg base "_law_drawn" ["_law_seed", "_law_k"] 1 m_law_drawn) (F : Fun K "_law_wanted" "_law_wanted" s_law_wanted fa fd) : FnP P w K mg base 2 fa fd ["_law_script", "_law_lines_here", "_law_many", "_law_free"] m_law_wanted :=
  fnP_of (N := ["_law_script", "_law_lines_here", "_law_many", "_law_free", "_law_cell", "_law_k", "_law_some", "_law_j", "_law_found", "_law_line", "_law_at"]) (k := 1) F sc_law_wanted fun cdv A outer s H E hr => by
    have nd : (["_law_script", "_law_lines_here", "_law_many", "_law_free", "_law_cell", "_law_k", "_law_some", "_law_j", "_law_found", "_law_line", "_law_at"] : List Str).Nodup := sc_law_wanted.nd
    have tk := @takes_of (cxOf (L2.CX P w) P w K mg base ["_law_script", "_law_lines_here", "_law_many", "_law_free", "_law_cell", "_law_k", "_law_some", "_law_j", "_law_found", "_law_line", "_law_at"] "_law_wanted" (defScope s_law_wanted) fa cdv A outer s H E) E rfl rfl rfl _ rfl
    have hpo : PassesOwn (model P w) (cxOf (L2.CX P w) P w K mg base ["_law_script", "_law_lines_here", "_law_many", "_law_free", "_law_cell", "_law_k", "_law_some", "_law_j", "_law_found", "_law_line", "_law_at"] "_law_wanted" (defScope s_law_wanted) fa cdv A outer s H E).A (cxOf (L2.CX P w) P w K mg base ["_law_script", "_law_lines_here", "_law_many", "_law_free", "_law_cell", "_law_k", "_law_some", "_law_j", "_law_found", "_law_line", "_law_at"] "_law_wanted" (defScope s_law_wanted) fa cdv A outer s H E).env (cxOf (L2.CX P w) P w K mg base ["_law_script", "_law_lines_here", "_law_many", "_law_free", "_law_cell", "_law_k", "_law_some", "_law_j", "_law_found", "_law_line", "_law_at"] "_law_wanted" (defScope s_law_wanted) fa cdv A outer s H E).xe := passes_of rfl
    exact (ppss_cons (pps_set 4 nd (ppe_cal c_law_cell_at hr tk (ppa_cons (ppe_v 0) (ppa_cons ppe_int ppa_nil))))
    (ppss_cons (pps_if (ppt_cmp (os_eq hr.units) (ppe_op os_mod (ppb_v 4) ppe_int.bo).bo ppe_int.bo (nomark _)) (ppss_one (pps_ret (ppe_comp (own := [("_law_k", 5)]) nd (ppi_r1 T.b_range (ppe_callB cs_len T.b_len PySem.boot_len (ppba_cons (ppb_v 1) ppba_nil))) (by kernel_rfl) (fun _ _ _ _ _ => (ppg_n 5 nd)) (fun _ _ _ _ _ => ppts_nil) (fun _ _ _ _ _ => (ppe_op os_sub (ppe_op os_mod (ppe_cal c_law_drawn hr takes0 (ppa_cons (ppe_v 4) (ppa_cons (ppe_op os_add ppe_int.bo (ppb_v 5)) ppa_nil))).bo ppe_int.bo).bo ppe_int.bo))))) ppss_nil)
    (ppss_cons (pps_set 6 nd (ppe_comp (own := [("_law_j", 7)]) nd (ppi_r1 T.b_range (ppe_v 2)) (by kernel_rfl) (fun _ _ _ _ _ => (ppg_n 7 nd)) (fun _ _ _ _ _ => ppts_nil) (fun _ _ _ _ _ => (ppe_op os_sub (ppe_op os_mod (ppe_cal c_law_drawn hr takes0 (ppa_cons (ppe_v 4) (ppa_cons (ppe_v 7) ppa_nil))).bo ppe_int.bo).bo (ppe_op os_mul ppe_int.bo (ppe_callTy cs_int T.b_int boot_int (ppba_cons (ppe_cmp os_lt (ppb_v 7) (ppb_v 3) (nomark _)).bo ppba_nil)).bo).bo))))
    (ppss_cons (pps_own 8 nd (ppf_list ppa_nil))
    (ppss_cons (pps_for hpo (ppi_listS (ppe_v 1)) (ppg_n 9 nd) (ppss_one (pps_app 8 (ppe_callB (cs_sum rfl) T.b_sum boot_sum (ppba_cons (ppe_comp (own := [("_law_j", 7)]) nd (ppi_r1 T.b_range (ppe_v 2)) (by kernel_rfl) (fun _ _ _ _ _ => (ppg_n 7 nd)) (fun _ _ _ _ _ => ppts_nil) (fun _ _ _ _ _ => (ppe_op os_mul (ppe_ix (ppb_v 9) (ppe_v 7) (fun _ _ => rfl)).bo (ppe_ix (ppb_v 6) (ppe_v 7) (fun _ _ => rfl)).bo))).bo ppba_nil)))))
    (ppss_cons (pps_if (ppt_cmp (os_eq hr.units) (ppe_op os_mod (ppb_v 4) ppe_int.bo).bo ppe_int.bo (nomark _)) (ppss_cons (pps_set 10 nd (ppe_op os_mod (ppe_op os_div (ppb_v 4) ppe_int.bo).bo (ppe_callB cs_len T.b_len PySem.boot_len (ppba_cons (ppb_v 1) ppba_nil)).bo))
    (ppss_one (pps_put 8 (ppe_v 10) (ppe_op os_sub (ppe_op os_add (ppe_ix (ppb_v 8) (ppe_v 10) (fun _ _ => rfl)).bo (ppe_op os_mod (ppe_cal c_law_drawn hr tk (ppa_cons (ppe_v 4) (ppa_cons ppe_int ppa_nil))).bo ppe_int.bo).bo).bo ppe_int.bo)))) ppss_nil)
    (ppss_one (pps_frz 8 (pps_ret (ppe_v 8))))))))))

abbrev s_law_answers : Stmt := topS 23
theorem sc_law_answers : FnScope ["_law_lines_here", "_law_wanted_here", "_law_free", "_law_found", "_law_line", "_law_due", "_law_one", "_law_number"] ["_law_lines_here", "_law_wanted_here", "_law_free", "_law_found"] (defScope s_law_answers) := ⟨rfl, rfl, rfl, by decide +kernel, rfl, by decide +kernel, by decide +kernel⟩
theorem ok_law_answers {P : Program} {w : World} {K : PySem.W.Frag} {mg : Str → Option Value} {base : Heap} {fa : Addr} {fd : FuncData} (T : Txt K mg) (c_law_whole_ones : Cal P w K mg base "_law_whole_ones" ["_law_thing", "_law_size"] 1 m_law_whole_ones) (F : Fun K "_law_answers" "_law_answers" s_law_answers fa fd) : FnP P w K mg base 2 fa fd ["_law_lines_here", "_law_wanted_here", "_law_free", "_law_found"] m_law_answers :=
  fnP_of (N := ["_law_lines_here", "_law_wanted_here", "_law_free", "_law_found", "_law_line", "_law_due", "_law_one", "_law_number"]) (k := 1) F sc_law_answers fun cdv A outer s H E hr => by
    have nd : (["_law_lines_here", "_law_wanted_here", "_law_free", "_law_found", "_law_line", "_law_due", "_law_one", "_law_number"] : List Str).Nodup := sc_law_answers.nd
    have tk := @takes_of (cxOf (L2.CX P w) P w K mg base ["_law_lines_here", "_law_wanted_here", "_law_free", "_law_found", "_law_line", "_law_due", "_law_one", "_law_number"] "_law_answers" (defScope s_law_answers) fa cdv A outer s H E) E rfl rfl rfl _ rfl
    have hpo : PassesOwn (model P w) (cxOf (L2.CX P w) P w K mg base ["_law_lines_here", "_law_wanted_here", "_law_free", "_law_found", "_law_line", "_law_due", "_law_one", "_law_number"] "_law_answers" (defScope s_law_answers) fa cdv A outer s H E).A (cxOf (L2.CX P w) P w K mg base ["_law_lines_here", "_law_wanted_here", "_law_free", "_law_found", "_law_line", "_law_due", "_law_one", "_law_number"] "_law_answers" (defScope s_law_answers) fa cdv A outer s H E).env (cxOf (L2.CX P w) P w K mg base ["_law_lines_here", "_law_wanted_here", "_law_free", "_law_found", "_law_line", "_law_due", "_law_one", "_law_number"] "_law_answers" (defScope s_law_answers) fa cdv A outer s H E).xe := passes_of rfl
    exact (ppss_cons (pps_if (ppw_or (ppt_cmp (os_ne hr.units) (ppe_callB cs_len T.b_len PySem.boot_len (ppba_cons (ppb_v 3) ppba_nil)).bo ppe_int.bo (nomark _)) (ppw_or (ppt_not (ppt_v (ppe_cal c_law_whole_ones hr tk (ppa_cons (ppe_ix (ppb_v 3) ppe_int (fun _ _ => rfl)) (ppa_cons (ppe_callB cs_len T.b_len PySem.boot_len (ppba_cons (ppe_ix (ppb_v 0) ppe_int (fun _ _ => rfl)).bo ppba_nil)) ppa_nil))))) (ppw_or1 (ppt_not (ppt_v (ppe_cal c_law_whole_ones hr tk (ppa_cons (ppe_list (ppa_cons (ppe_ix (ppb_v 3) ppe_int (fun _ _ => rfl)) ppa_nil)) (ppa_cons ppe_int ppa_nil)))))))).pt (ppss_one (pps_ret ppe_bl)) ppss_nil)
    (ppss_cons (pps_if (ppw_or (ppt_cmp os_lt (ppe_ix (ppb_v 3) ppe_int (fun _ _ => rfl)).bo ppe_int.bo (nomark _)) (ppw_or1 (ppt_cmp os_lt (ppe_callB (cs_minL rfl) T.b_min boot_min (ppba_cons (ppe_op os_add (ppe_sl (ppe_ix (ppb_v 3) ppe_int (fun _ _ => rfl)).bo (ppo_some (ppe_v 2)) ppo_none).bo (ppe_list (ppa_cons ppe_int ppa_nil)).bo).bo ppba_nil)).bo ppe_int.bo (nomark _)))).pt (ppss_one (pps_ret ppe_bl)) ppss_nil)
    (ppss_cons (pps_for hpo (ppi_zipS T.b_zip (ppe_v 0) (ppe_v 1)) (ppg_t rfl (ppgs_cons (ppg_n 4 nd) (ppgs_cons (ppg_n 5 nd) ppgs_nil))) (ppss_one (pps_if (ppt_cmp (os_ne hr.units) (ppe_callB (cs_sum rfl) T.b_sum boot_sum (ppba_cons (ppe_comp (own := [("_law_one", 6), ("_law_number", 7)]) nd (ppi_zip T.b_zip (ppb_v 4) (ppe_ix (ppb_v 3) ppe_int (fun _ _ => rfl)).bo) (by kernel_rfl) (fun _ _ _ _ _ => (ppg_t rfl (ppgs_cons (ppg_n 6 nd) (ppgs_cons (ppg_n 7 nd) ppgs_nil)))) (fun _ _ _ _ _ => ppts_nil) (fun _ _ _ _ _ => (ppe_op os_mul (ppb_v 6) (ppb_v 7)))).bo ppba_nil)).bo (ppe_op os_mul (ppb_v 5) (ppe_ix (ppb_v 3) ppe_int (fun _ _ => rfl)).bo).bo (nomark _)) (ppss_one (pps_ret ppe_bl)) ppss_nil)))
    (ppss_one (pps_ret ppe_bl)))))

abbrev s_law_shows : Stmt := topS 24
theorem sc_law_shows : FnScope ["_law_lines_here", "_law_wanted_here", "_law_free", "_law_found", "_law_place", "_law_total", "_law_k"] ["_law_lines_here", "_law_wanted_here", "_law_free", "_law_found"] (defScope s_law_shows) := ⟨rfl, rfl, rfl, by decide +kernel, rfl, by decide +kernel, by decide +kernel⟩
theorem ok_law_shows {P : Program} {w : World} {K : PySem.W.Frag} {mg : Str → Option Value} {base : Heap} {fa : Addr} {fd : FuncData} (T : Txt K mg) (c_law_whole_ones : Cal P w K mg base "_law_whole_ones" ["_law_thing", "_law_size"] 1 m_law_whole_ones) (F : Fun K "_law_shows" "_law_shows" s_law_shows fa fd) : FnP P w K mg base 2 fa fd ["_law_lines_here", "_law_wanted_here", "_law_free", "_law_found"] m_law_shows :=
  fnP_of (N := ["_law_lines_here", "_law_wanted_here", "_law_free", "_law_found", "_law_place", "_law_total", "_law_k"]) (k := 1) F sc_law_shows fun cdv A outer s H E hr => by
    have nd : (["_law_lines_here", "_law_wanted_here", "_law_free", "_law_found", "_law_place", "_law_total", "_law_k"] : List Str).Nodup := sc_law_shows.nd
    have tk := @takes_of (cxOf (L2.CX P w) P w K mg base ["_law_lines_here", "_law_wanted_here", "_law_free", "_law_found", "_law_place", "_law_total", "_law_k"] "_law_shows" (defScope s_law_shows) fa cdv A outer s H E) E rfl rfl rfl _ rfl
    have hpo : PassesOwn (model P w) (cxOf (L2.CX P w) P w K mg base ["_law_lines_here", "_law_wanted_here", "_law_free", "_law_found", "_law_place", "_law_total", "_law_k"] "_law_shows" (defScope s_law_shows) fa cdv A outer s H E).A (cxOf (L2.CX P w) P w K mg base ["_law_lines_here", "_law_wanted_here", "_law_free", "_law_found", "_law_place", "_law_total", "_law_k"] "_law_shows" (defScope s_law_shows) fa cdv A outer s H E).env (cxOf (L2.CX P w) P w K mg base ["_law_lines_here", "_law_wanted_here", "_law_free", "_law_found", "_law_place", "_law_total", "_law_k"] "_law_shows" (defScope s_law_shows) fa cdv A outer s H E).xe := passes_of rfl
    exact (ppss_cons (pps_if (ppw_or (ppt_cmp (os_ne hr.units) (ppe_callB cs_len T.b_len PySem.boot_len (ppba_cons (ppb_v 3) ppba_nil)).bo ppe_int.bo (nomark _)) (ppw_or1 (ppt_not (ppt_v (ppe_cal c_law_whole_ones hr tk (ppa_cons (ppe_ix (ppb_v 3) ppe_int (fun _ _ => rfl)) (ppa_cons (ppe_callB cs_len T.b_len PySem.boot_len (ppba_cons (ppb_v 0) ppba_nil)) ppa_nil))))))).pt (ppss_one (pps_ret ppe_bl)) ppss_nil)
    (ppss_cons (pps_for hpo (ppi_r1 T.b_range (ppe_callB cs_len T.b_len PySem.boot_len (ppba_cons (ppe_ix (ppb_v 0) ppe_int (fun _ _ => rfl)).bo ppba_nil))) (ppg_n 4 nd) (ppss_cons (pps_set 5 nd (ppe_callB (cs_sum rfl) T.b_sum boot_sum (ppba_cons (ppe_comp (own := [("_law_k", 6)]) nd (ppi_r1 T.b_range (ppe_callB cs_len T.b_len PySem.boot_len (ppba_cons (ppb_v 0) ppba_nil))) (by kernel_rfl) (fun _ _ _ _ _ => (ppg_n 6 nd)) (fun _ _ _ _ _ => ppts_nil) (fun _ _ _ _ _ => (ppe_op os_mul (ppe_ix (ppe_ix (ppb_v 0) (ppe_v 6) (fun _ _ => rfl)).bo (ppe_v 4) (fun _ _ => rfl)).bo (ppe_ix (ppe_ix (ppb_v 3) ppe_int (fun _ _ => rfl)).bo (ppe_v 6) (fun _ _ => rfl)).bo))).bo ppba_nil)))
    (ppss_one (pps_if (ppw_or (ppt_cmp os_gt (ppb_v 5) ppe_int.bo (nomark _)) (ppw_or1 (ppw_and (ppt_cmp os_lt (ppb_v 4) (ppb_v 2) (nomark _)) (ppw_and1 (ppt_cmp (os_ne hr.units) (ppb_v 5) ppe_int.bo (nomark _)))).pt)).pt (ppss_one (pps_ret ppe_bl)) ppss_nil))))
    (ppss_one (pps_ret (ppe_cmp os_gt (ppe_callB (cs_sum rfl) T.b_sum boot_sum (ppba_cons (ppe_comp (own := [("_law_k", 6)]) nd (ppi_r1 T.b_range (ppe_callB cs_len T.b_len PySem.boot_len (ppba_cons (ppb_v 0) ppba_nil))) (by kernel_rfl) (fun _ _ _ _ _ => (ppg_n 6 nd)) (fun _ _ _ _ _ => ppts_nil) (fun _ _ _ _ _ => (ppe_op os_mul (ppe_ix (ppb_v 1) (ppe_v 6) (fun _ _ => rfl)).bo (ppe_ix (ppe_ix (ppb_v 3) ppe_int (fun _ _ => rfl)).bo (ppe_v 6) (fun _ _ => rfl)).bo))).bo ppba_nil)).bo ppe_int.bo (nomark _))))))

abbrev s_law_right : Stmt := topS 25
theorem sc_law_right : FnScope ["_law_lines_here", "_law_wanted_here", "_law_free", "_law_found"] ["_law_lines_here", "_law_wanted_here", "_law_free", "_law_found"] (defScope s_law_right) := ⟨rfl, rfl, rfl, by decide +kernel, rfl, by decide +kernel, by decide +kernel⟩
theorem ok_law_right {P : Program} {w : World} {K : PySem.W.Frag} {mg : Str → Option Value} {base : Heap} {fa : Addr} {fd : FuncData} (T : Txt K mg) (c_law_answers : Cal P w K mg base "_law_answers" ["_law_lines_here", "_law_wanted_here", "_law_free", "_law_found"] 2 m_law_answers) (c_law_shows : Cal P w K mg base "_law_shows" ["_law_lines_here", "_law_wanted_here", "_law_free", "_law_found"] 2 m_law_shows) (F : Fun K "_law_right" "_law_right" s_law_right fa fd) : FnP P w K mg base 3 fa fd ["_law_lines_here", "_law_wanted_here", "_law_free", "_law_found"] m_law_right :=
  fnP_of (N := ["_law_lines_here", "_law_wanted_here", "_law_free", "_law_found"]) (k := 2) F sc_law_right fun cdv A outer s H E hr => by
    have nd : (["_law_lines_here", "_law_wanted_here", "_law_free", "_law_found"] : List Str).Nodup := sc_law_right.nd
    have tk := @takes_of (cxOf (L2.CX P w) P w K mg base ["_law_lines_here", "_law_wanted_here", "_law_free", "_law_found"] "_law_right" (defScope s_law_right) fa cdv A outer s H E) E rfl rfl rfl _ rfl
    exact (ppss_cons (pps_if (ppw_or (ppt_not (ppt_v (ppe_isi .tuple (ppb_v 3) T.b_isinstance boot_isi T.b_tuple boot_tuple))) (ppw_or (ppt_cmp os_lt (ppe_callB cs_len T.b_len PySem.boot_len (ppba_cons (ppb_v 3) ppba_nil)).bo ppe_int.bo (nomark _)) (ppw_or1 (ppt_not (ppt_v (ppe_isi .str (ppe_ix (ppb_v 3) ppe_int (fun _ _ => rfl)).bo T.b_isinstance boot_isi T.b_str boot_str)))))).pt (ppss_one (pps_ret ppe_bl)) ppss_nil)
    (ppss_cons (pps_if (ppt_cmp (os_eq hr.units) (ppe_ix (ppb_v 3) ppe_int (fun _ _ => rfl)).bo ppe_str.bo (nomark _)) (ppss_one (pps_ret (ppe_cal c_law_answers hr tk (ppa_cons (ppe_v 0) (ppa_cons (ppe_v 1) (ppa_cons (ppe_v 2) (ppa_cons (ppe_v 3) ppa_nil))))))) ppss_nil)
    (ppss_one (pps_ret (ppe_and (ppe_cmp (os_eq hr.units) (ppe_ix (ppb_v 3) ppe_int (fun _ _ => rfl)).bo ppe_str.bo (nomark _)) (ppe_one (ppe_cal c_law_shows hr tk (ppa_cons (ppe_v 0) (ppa_cons (ppe_v 1) (ppa_cons (ppe_v 2) (ppa_cons (ppe_v 3) ppa_nil)))))))))))

abbrev s_law : Stmt := topS 26
theorem sc_law : FnScope ["_law_script", "_law_size", "_law_many", "_law_free", "_law_lines_here", "_law_wanted_here", "_law_handed", "_law_found", "_law_again"] ["_law_script"] (defScope s_law) := ⟨rfl, rfl, rfl, by decide +kernel, rfl, by decide +kernel, by decide +kernel⟩
theorem ok_law {P : Program} {w : World} {K : PySem.W.Frag} {mg : Str → Option Value} {base : Heap} {fa : Addr} {fd : FuncData} (T : Txt K mg) (c_law_lines : Cal P w K mg base "_law_lines" ["_law_script", "_law_size", "_law_many"] 2 m_law_lines) (c_law_wanted : Cal P w K mg base "_law_wanted" ["_law_script", "_law_lines_here", "_law_many", "_law_free"] 2 m_law_wanted) (c_solvedU : CalU P w K mg base "solved" ["lines", "wanted", "free"] 4 m_solved) (c_solved : Cal P w K mg base "solved" ["lines", "wanted", "free"] 4 m_solved) (c_law_copied : Cal P w K mg base "_law_copied" ["_law_thing"] 13 (m_law_copied 12)) (c_law_right : Cal P w K mg base "_law_right" ["_law_lines_here", "_law_wanted_here", "_law_free", "_law_found"] 3 m_law_right) (c_law_cell_at : Cal P w K mg base "_law_cell_at" ["_law_script", "_law_k"] 1 m_law_cell_at) (F : Fun K "law" "law" s_law fa fd) : FnP P w K mg base 14 fa fd ["_law_script"] m_law :=
  fnP_of (N := ["_law_script", "_law_size", "_law_many", "_law_free", "_law_lines_here", "_law_wanted_here", "_law_handed", "_law_found", "_law_again"]) (k := 13) F sc_law fun cdv A outer s H E hr => by
    have nd : (["_law_script", "_law_size", "_law_many", "_law_free", "_law_lines_here", "_law_wanted_here", "_law_handed", "_law_found", "_law_again"] : List Str).Nodup := sc_law.nd
    have tk := @takes_of (cxOf (L2.CX P w) P w K mg base ["_law_script", "_law_size", "_law_many", "_law_free", "_law_lines_here", "_law_wanted_here", "_law_handed", "_law_found", "_law_again"] "law" (defScope s_law) fa cdv A outer s H E) E rfl rfl rfl _ rfl
    exact (ppss_cons (pps_set 1 nd (ppe_op os_add ppe_int.bo (ppe_op os_mod (ppe_cal c_law_cell_at hr tk (ppa_cons (ppe_v 0) (ppa_cons ppe_int ppa_nil))).bo ppe_int.bo).bo))
    (ppss_cons (pps_set 2 nd (ppe_op os_add ppe_int.bo (ppe_op os_mod (ppe_op os_div (ppe_cal c_law_cell_at hr tk (ppa_cons (ppe_v 0) (ppa_cons ppe_int ppa_nil))).bo ppe_int.bo).bo ppe_int.bo).bo))
    (ppss_cons (pps_if (ppt_cmp (os_eq hr.units) (ppe_op os_mod (ppe_op os_div (ppe_cal c_law_cell_at hr tk (ppa_cons (ppe_v 0) (ppa_cons ppe_int ppa_nil))).bo ppe_int.bo).bo ppe_int.bo).bo ppe_int.bo (nomark _)) (ppss_cons (pps_set 1 nd (ppe_op os_add (ppb_v 1) ppe_int.bo))
    (ppss_one (pps_set 2 nd (ppe_op os_add (ppb_v 2) ppe_int.bo)))) (ppss_one (pps_if (ppt_cmp (os_eq hr.units) (ppe_op os_mod (ppe_op os_div (ppe_cal c_law_cell_at hr tk (ppa_cons (ppe_v 0) (ppa_cons ppe_int ppa_nil))).bo ppe_int.bo).bo ppe_int.bo).bo ppe_int.bo (nomark _)) (ppss_cons (pps_set 1 nd (ppe_op os_add ppe_int.bo (ppe_op os_mul ppe_int.bo (ppb_v 1)).bo))
    (ppss_one (pps_set 2 nd (ppe_op os_add ppe_int.bo (ppe_op os_mul ppe_int.bo (ppb_v 2)).bo)))) ppss_nil)))
    (ppss_cons (pps_set 3 nd (ppe_op os_div (ppe_op os_mod (ppe_cal c_law_cell_at hr tk (ppa_cons (ppe_v 0) (ppa_cons ppe_int ppa_nil))).bo (ppe_op os_add (ppb_v 2) ppe_int.bo).bo).bo (ppe_ix (ppe_list (ppa_cons ppe_int (ppa_cons ppe_int ppa_nil))).bo (ppe_op os_mod (ppe_cal c_law_cell_at hr tk (ppa_cons (ppe_v 0) (ppa_cons ppe_int ppa_nil))).bo ppe_int.bo) (fun _ _ => rfl)).bo))
    (ppss_cons (pps_set 4 nd (ppe_cal c_law_lines hr tk (ppa_cons (ppe_v 0) (ppa_cons (ppe_v 1) (ppa_cons (ppe_v 2) ppa_nil)))))
    (ppss_cons (pps_set 5 nd (ppe_cal c_law_wanted hr tk (ppa_cons (ppe_v 0) (ppa_cons (ppe_v 4) (ppa_cons (ppe_v 2) (ppa_cons (ppe_v 3) ppa_nil))))))
    (ppss_cons (pps_set 6 nd (ppe_list (ppa_cons (ppe_cal c_law_copied hr tk (ppa_cons (ppe_v 4) ppa_nil)) (ppa_cons (ppe_callTy cs_list T.b_list boot_list (ppba_cons (ppb_v 5) ppba_nil)) ppa_nil))))
    (pps_ownC 7 c_solvedU hr tk (ppa_cons (ppe_ix (ppb_v 6) ppe_int (fun _ _ => rfl)) (ppa_cons (ppe_ix (ppb_v 6) ppe_int (fun _ _ => rfl)) (ppa_cons (ppe_v 3) ppa_nil)))
    (o_cons (o_if (ppw_or (ppt_not (ppt_v (ppe_cal c_law_right hr tk (ppa_cons (ppe_v 4) (ppa_cons (ppe_v 5) (ppa_cons (ppe_v 3) (ppa_cons (ppe_v 7) ppa_nil))))))) (ppw_or1 (ppt_cmp (os_ne hr.units) (ppb_v 6) (ppe_list (ppa_cons (ppe_v 4) (ppa_cons (ppe_v 5) ppa_nil))).bo (nomark _)))).pt (o_away (pps_ret ppe_bl)))
    (o_cons (o_app ppe_int)
    (o_frz (ppss_cons (pps_set 8 nd (ppe_cal c_solved hr tk (ppa_cons (ppe_ix (ppb_v 6) ppe_int (fun _ _ => rfl)) (ppa_cons (ppe_ix (ppb_v 6) ppe_int (fun _ _ => rfl)) (ppa_cons (ppe_v 3) ppa_nil)))))
    (ppss_one (pps_ret (ppe_and (ppe_cal c_law_right hr tk (ppa_cons (ppe_v 4) (ppa_cons (ppe_v 5) (ppa_cons (ppe_v 3) (ppa_cons (ppe_v 8) ppa_nil))))) (ppe_one (ppe_cmp (os_eq hr.units) (ppb_v 6) (ppe_list (ppa_cons (ppe_v 4) (ppa_cons (ppe_v 5) ppa_nil))).bo (nomark _)))))))))) nd))))))))
section
variable {P : Program} {w : World} {K : PySem.W.Frag} {h : Heap} {mg : Str → Option Value} {fa : Addr}
set_option maxHeartbeats 0 in
theorem all_mk (X : K.In h) (G : h.Ns mainGlobals mg) (hfa : mg "law" = some (.ref fa))
    {f0 : Addr} {od0 an0 : Option Addr} {sl0 : Array (Option Value)} {oc0 kV0 dc0 pm0 cd0 ct0 : Value}
    (a0 : PySem.W.nsIn K mainGlobals "is_whole" = some (some (.ref f0)))
    (l0 : K.lookup f0 = some ⟨oc0, od0, .func (PySem.W.fnOf "is_whole" "is_whole" (defArgs s_is_whole) (defBody s_is_whole) (defScope s_is_whole) .none kV0 dc0 pm0 an0 cd0 ct0), sl0⟩)
    (c0 : PySem.W.codeIn K cd0 "is_whole" = true)
    (k0 : PySem.W.keepIn K (.ref f0) = true)
    {f1 : Addr} {od1 an1 : Option Addr} {sl1 : Array (Option Value)} {oc1 kV1 dc1 pm1 cd1 ct1 : Value}
    (a1 : PySem.W.nsIn K mainGlobals "are_whole" = some (some (.ref f1)))
    (l1 : K.lookup f1 = some ⟨oc1, od1, .func (PySem.W.fnOf "are_whole" "are_whole" (defArgs s_are_whole) (defBody s_are_whole) (defScope s_are_whole) .none kV1 dc1 pm1 an1 cd1 ct1), sl1⟩)
    (c1 : PySem.W.codeIn K cd1 "are_whole" = true)
    (k1 : PySem.W.keepIn K (.ref f1) = true)
    {f2 : Addr} {od2 an2 : Option Addr} {sl2 : Array (Option Value)} {oc2 kV2 dc2 pm2 cd2 ct2 : Value}
    (a2 : PySem.W.nsIn K mainGlobals "need_table" = some (some (.ref f2)))
    (l2 : K.lookup f2 = some ⟨oc2, od2, .func (PySem.W.fnOf "need_table" "need_table" (defArgs s_need_table) (defBody s_need_table) (defScope s_need_table) .none kV2 dc2 pm2 an2 cd2 ct2), sl2⟩)
    (c2 : PySem.W.codeIn K cd2 "need_table" = true)
    (k2 : PySem.W.keepIn K (.ref f2) = true)
    {f3 : Addr} {od3 an3 : Option Addr} {sl3 : Array (Option Value)} {oc3 kV3 dc3 pm3 cd3 ct3 : Value}
    (a3 : PySem.W.nsIn K mainGlobals "begun" = some (some (.ref f3)))
    (l3 : K.lookup f3 = some ⟨oc3, od3, .func (PySem.W.fnOf "begun" "begun" (defArgs s_begun) (defBody s_begun) (defScope s_begun) .none kV3 dc3 pm3 an3 cd3 ct3), sl3⟩)
    (c3 : PySem.W.codeIn K cd3 "begun" = true)
    (k3 : PySem.W.keepIn K (.ref f3) = true)
    {f4 : Addr} {od4 an4 : Option Addr} {sl4 : Array (Option Value)} {oc4 kV4 dc4 pm4 cd4 ct4 : Value}
    (a4 : PySem.W.nsIn K mainGlobals "entering" = some (some (.ref f4)))
    (l4 : K.lookup f4 = some ⟨oc4, od4, .func (PySem.W.fnOf "entering" "entering" (defArgs s_entering) (defBody s_entering) (defScope s_entering) .none kV4 dc4 pm4 an4 cd4 ct4), sl4⟩)
    (c4 : PySem.W.codeIn K cd4 "entering" = true)
    (k4 : PySem.W.keepIn K (.ref f4) = true)
    {f5 : Addr} {od5 an5 : Option Addr} {sl5 : Array (Option Value)} {oc5 kV5 dc5 pm5 cd5 ct5 : Value}
    (a5 : PySem.W.nsIn K mainGlobals "leaving" = some (some (.ref f5)))
    (l5 : K.lookup f5 = some ⟨oc5, od5, .func (PySem.W.fnOf "leaving" "leaving" (defArgs s_leaving) (defBody s_leaving) (defScope s_leaving) .none kV5 dc5 pm5 an5 cd5 ct5), sl5⟩)
    (c5 : PySem.W.codeIn K cd5 "leaving" = true)
    (k5 : PySem.W.keepIn K (.ref f5) = true)
    {f6 : Addr} {od6 an6 : Option Addr} {sl6 : Array (Option Value)} {oc6 kV6 dc6 pm6 cd6 ct6 : Value}
    (a6 : PySem.W.nsIn K mainGlobals "pivoted" = some (some (.ref f6)))
    (l6 : K.lookup f6 = some ⟨oc6, od6, .func (PySem.W.fnOf "pivoted" "pivoted" (defArgs s_pivoted) (defBody s_pivoted) (defScope s_pivoted) .none kV6 dc6 pm6 an6 cd6 ct6), sl6⟩)
    (c6 : PySem.W.codeIn K cd6 "pivoted" = true)
    (k6 : PySem.W.keepIn K (.ref f6) = true)
    {f7 : Addr} {od7 an7 : Option Addr} {sl7 : Array (Option Value)} {oc7 kV7 dc7 pm7 cd7 ct7 : Value}
    (a7 : PySem.W.nsIn K mainGlobals "worked" = some (some (.ref f7)))
    (l7 : K.lookup f7 = some ⟨oc7, od7, .func (PySem.W.fnOf "worked" "worked" (defArgs s_worked) (defBody s_worked) (defScope s_worked) .none kV7 dc7 pm7 an7 cd7 ct7), sl7⟩)
    (c7 : PySem.W.codeIn K cd7 "worked" = true)
    (k7 : PySem.W.keepIn K (.ref f7) = true)
    {f8 : Addr} {od8 an8 : Option Addr} {sl8 : Array (Option Value)} {oc8 kV8 dc8 pm8 cd8 ct8 : Value}
    (a8 : PySem.W.nsIn K mainGlobals "solved" = some (some (.ref f8)))
    (l8 : K.lookup f8 = some ⟨oc8, od8, .func (PySem.W.fnOf "solved" "solved" (defArgs s_solved) (defBody s_solved) (defScope s_solved) .none kV8 dc8 pm8 an8 cd8 ct8), sl8⟩)
    (c8 : PySem.W.codeIn K cd8 "solved" = true)
    (k8 : PySem.W.keepIn K (.ref f8) = true)
    {f9 : Addr} {od9 an9 : Option Addr} {sl9 : Array (Option Value)} {oc9 kV9 dc9 pm9 cd9 ct9 : Value}
    (a9 : PySem.W.nsIn K mainGlobals "_law_cell_at" = some (some (.ref f9)))
    (l9 : K.lookup f9 = some ⟨oc9, od9, .func (PySem.W.fnOf "_law_cell_at" "_law_cell_at" (defArgs s_law_cell_at) (defBody s_law_cell_at) (defScope s_law_cell_at) .none kV9 dc9 pm9 an9 cd9 ct9), sl9⟩)
    (c9 : PySem.W.codeIn K cd9 "_law_cell_at" = true)
    (k9 : PySem.W.keepIn K (.ref f9) = true)
    {f10 : Addr} {od10 an10 : Option Addr} {sl10 : Array (Option Value)} {oc10 kV10 dc10 pm10 cd10 ct10 : Value}
    (a10 : PySem.W.nsIn K mainGlobals "_law_drawn" = some (some (.ref f10)))
    (l10 : K.lookup f10 = some ⟨oc10, od10, .func (PySem.W.fnOf "_law_drawn" "_law_drawn" (defArgs s_law_drawn) (defBody s_law_drawn) (defScope s_law_drawn) .none kV10 dc10 pm10 an10 cd10 ct10), sl10⟩)
    (c10 : PySem.W.codeIn K cd10 "_law_drawn" = true)
    (k10 : PySem.W.keepIn K (.ref f10) = true)
    {f11 : Addr} {od11 an11 : Option Addr} {sl11 : Array (Option Value)} {oc11 kV11 dc11 pm11 cd11 ct11 : Value}
    (a11 : PySem.W.nsIn K mainGlobals "_law_copied" = some (some (.ref f11)))
    (l11 : K.lookup f11 = some ⟨oc11, od11, .func (PySem.W.fnOf "_law_copied" "_law_copied" (defArgs s_law_copied) (defBody s_law_copied) (defScope s_law_copied) .none kV11 dc11 pm11 an11 cd11 ct11), sl11⟩)
    (c11 : PySem.W.codeIn K cd11 "_law_copied" = true)
    (k11 : PySem.W.keepIn K (.ref f11) = true)
    {f12 : Addr} {od12 an12 : Option Addr} {sl12 : Array (Option Value)} {oc12 kV12 dc12 pm12 cd12 ct12 : Value}
    (a12 : PySem.W.nsIn K mainGlobals "_law_whole_ones" = some (some (.ref f12)))
    (l12 : K.lookup f12 = some ⟨oc12, od12, .func (PySem.W.fnOf "_law_whole_ones" "_law_whole_ones" (defArgs s_law_whole_ones) (defBody s_law_whole_ones) (defScope s_law_whole_ones) .none kV12 dc12 pm12 an12 cd12 ct12), sl12⟩)
    (c12 : PySem.W.codeIn K cd12 "_law_whole_ones" = true)
    (k12 : PySem.W.keepIn K (.ref f12) = true)
    {f13 : Addr} {od13 an13 : Option Addr} {sl13 : Array (Option Value)} {oc13 kV13 dc13 pm13 cd13 ct13 : Value}
    (a13 : PySem.W.nsIn K mainGlobals "_law_lines" = some (some (.ref f13)))
    (l13 : K.lookup f13 = some ⟨oc13, od13, .func (PySem.W.fnOf "_law_lines" "_law_lines" (defArgs s_law_lines) (defBody s_law_lines) (defScope s_law_lines) .none kV13 dc13 pm13 an13 cd13 ct13), sl13⟩)
    (c13 : PySem.W.codeIn K cd13 "_law_lines" = true)
    (k13 : PySem.W.keepIn K (.ref f13) = true)
    {f14 : Addr} {od14 an14 : Option Addr} {sl14 : Array (Option Value)} {oc14 kV14 dc14 pm14 cd14 ct14 : Value}
    (a14 : PySem.W.nsIn K mainGlobals "_law_wanted" = some (some (.ref f14)))
    (l14 : K.lookup f14 = some ⟨oc14, od14, .func (PySem.W.fnOf "_law_wanted" "_law_wanted" (defArgs s_law_wanted) (defBody s_law_wanted) (defScope s_law_wanted) .none kV14 dc14 pm14 an14 cd14 ct14), sl14⟩)
    (c14 : PySem.W.codeIn K cd14 "_law_wanted" = true)
    (k14 : PySem.W.keepIn K (.ref f14) = true)
    {f15 : Addr} {od15 an15 : Option Addr} {sl15 : Array (Option Value)} {oc15 kV15 dc15 pm15 cd15 ct15 : Value}
    (a15 : PySem.W.nsIn K mainGlobals "_law_answers" = some (some (.ref f15)))
    (l15 : K.lookup f15 = some ⟨oc15, od15, .func (PySem.W.fnOf "_law_answers" "_law_answers" (defArgs s_law_answers) (defBody s_law_answers) (defScope s_law_answers) .none kV15 dc15 pm15 an15 cd15 ct15), sl15⟩)
    (c15 : PySem.W.codeIn K cd15 "_law_answers" = true)
    (k15 : PySem.W.keepIn K (.ref f15) = true)
    {f16 : Addr} {od16 an16 : Option Addr} {sl16 : Array (Option Value)} {oc16 kV16 dc16 pm16 cd16 ct16 : Value}
    (a16 : PySem.W.nsIn K mainGlobals "_law_shows" = some (some (.ref f16)))
    (l16 : K.lookup f16 = some ⟨oc16, od16, .func (PySem.W.fnOf "_law_shows" "_law_shows" (defArgs s_law_shows) (defBody s_law_shows) (defScope s_law_shows) .none kV16 dc16 pm16 an16 cd16 ct16), sl16⟩)
    (c16 : PySem.W.codeIn K cd16 "_law_shows" = true)
    (k16 : PySem.W.keepIn K (.ref f16) = true)
    {f17 : Addr} {od17 an17 : Option Addr} {sl17 : Array (Option Value)} {oc17 kV17 dc17 pm17 cd17 ct17 : Value}
    (a17 : PySem.W.nsIn K mainGlobals "_law_right" = some (some (.ref f17)))
    (l17 : K.lookup f17 = some ⟨oc17, od17, .func (PySem.W.fnOf "_law_right" "_law_right" (defArgs s_law_right) (defBody s_law_right) (defScope s_law_right) .none kV17 dc17 pm17 an17 cd17 ct17), sl17⟩)
    (c17 : PySem.W.codeIn K cd17 "_law_right" = true)
    (k17 : PySem.W.keepIn K (.ref f17) = true)
    {f18 : Addr} {od18 an18 : Option Addr} {sl18 : Array (Option Value)} {oc18 kV18 dc18 pm18 cd18 ct18 : Value}
    (a18 : PySem.W.nsIn K mainGlobals "law" = some (some (.ref f18)))
    (l18 : K.lookup f18 = some ⟨oc18, od18, .func (PySem.W.fnOf "law" "law" (defArgs s_law) (defBody s_law) (defScope s_law) .none kV18 dc18 pm18 an18 cd18 ct18), sl18⟩)
    (c18 : PySem.W.codeIn K cd18 "law" = true)
    (k18 : PySem.W.keepIn K (.ref f18) = true)
    (z_all : PySem.W.nsIn K mainGlobals "all" = some none)
    (z_bool : PySem.W.nsIn K mainGlobals "bool" = some none)
    (z_enumerate : PySem.W.nsIn K mainGlobals "enumerate" = some none)
    (z_int : PySem.W.nsIn K mainGlobals "int" = some none)
    (z_isinstance : PySem.W.nsIn K mainGlobals "isinstance" = some none)
    (z_len : PySem.W.nsIn K mainGlobals "len" = some none)
    (z_list : PySem.W.nsIn K mainGlobals "list" = some none)
    (z_min : PySem.W.nsIn K mainGlobals "min" = some none)
    (z_range : PySem.W.nsIn K mainGlobals "range" = some none)
    (z_str : PySem.W.nsIn K mainGlobals "str" = some none)
    (z_sum : PySem.W.nsIn K mainGlobals "sum" = some none)
    (z_tuple : PySem.W.nsIn K mainGlobals "tuple" = some none)
    (z_zip : PySem.W.nsIn K mainGlobals "zip" = some none)
    {t_MOST_LINES : Tok}
    (q_MOST_LINES : PySem.W.nsIn K mainGlobals "MOST_LINES" = some (some (.int 40 t_MOST_LINES)))
    {t_MOST_PLACES : Tok}
    (q_MOST_PLACES : PySem.W.nsIn K mainGlobals "MOST_PLACES" = some (some (.int 60 t_MOST_PLACES)))
    {C_BadTable : Addr}
    (g_BadTable : PySem.W.nsIn K mainGlobals "BadTable" = some (some (.ref C_BadTable)))
    (xi_BadTable : PySem.W.excIn K C_BadTable [.type "ValueError", .type "Exception", .type "BaseException", .type "object"] "ValueError.__new__" = true)
    (kC_BadTable : PySem.W.keepIn K (.ref C_BadTable) = true)
    (bC_BadTable : PySem.W.subIn K (.ref C_BadTable) (.type "BaseException") = some true)
    (tC_BadTable : PySem.W.typeIn K (.ref C_BadTable) = some (.type "type"))
    (iC_BadTable : PySem.W.isClsIn K C_BadTable = true)
    (vC_BadTable : PySem.W.subIn K (.ref C_BadTable) (.type "ValueError") = some true)
    (hmath : ∀ ns : List Int, ns.length ≤ 63 → (∀ z ∈ ns, Builtin.Int.intBits z ≤ 1048576) → m_law [scr (ns.map .int)] = .ok (.bool true)) :
    ∃ fd : FuncData, (∀ (s : Shared) (v : Value), BindsTo s fd ⟨[v], []⟩ [("_law_script", v)]) ∧ ∀ base : Heap, K.In base → base.Ns mainGlobals mg → FnOk P w K mg base (L2.CX P w) 14 fa fd ["_law_script"] (spLaw K) := by
  have e := hfa.symm.trans (PySem.W.mg_of X G a18)
  cases e
  have T : Txt K mg := { b_all := PySem.W.mg_none_of X G z_all, b_bool := PySem.W.mg_none_of X G z_bool, b_enumerate := PySem.W.mg_none_of X G z_enumerate, b_int := PySem.W.mg_none_of X G z_int, b_isinstance := PySem.W.mg_none_of X G z_isinstance, b_len := PySem.W.mg_none_of X G z_len, b_list := PySem.W.mg_none_of X G z_list, b_min := PySem.W.mg_none_of X G z_min, b_range := PySem.W.mg_none_of X G z_range, b_str := PySem.W.mg_none_of X G z_str, b_sum := PySem.W.mg_none_of X G z_sum, b_tuple := PySem.W.mg_none_of X G z_tuple, b_zip := PySem.W.mg_none_of X G z_zip, k_MOST_LINES := ⟨_, PySem.W.mg_of X G q_MOST_LINES⟩, k_MOST_PLACES := ⟨_, PySem.W.mg_of X G q_MOST_PLACES⟩, c_BadTable := C_BadTable, x_BadTable := ⟨xi_BadTable, PySem.W.mg_of X G g_BadTable, kC_BadTable, bC_BadTable, tC_BadTable, iC_BadTable, vC_BadTable⟩ }
  have F0 := fun_mk (st := s_is_whole) l0 c0 k0
  have B0 := F0.binds (ps := ["thing"]) fun _ _ _ _ _ _ us hl => match us, hl with | [_], _ => rfl
  have F1 := fun_mk (st := s_are_whole) l1 c1 k1
  have B1 := F1.binds (ps := ["thing", "size"]) fun _ _ _ _ _ _ us hl => match us, hl with | [_, _], _ => rfl
  have F2 := fun_mk (st := s_need_table) l2 c2 k2
  have B2 := F2.binds (ps := ["lines", "wanted", "free"]) fun _ _ _ _ _ _ us hl => match us, hl with | [_, _, _], _ => rfl
  have F3 := fun_mk (st := s_begun) l3 c3 k3
  have B3 := F3.binds (ps := ["lines", "wanted", "free"]) fun _ _ _ _ _ _ us hl => match us, hl with | [_, _, _], _ => rfl
  have F4 := fun_mk (st := s_entering) l4 c4 k4
  have B4 := F4.binds (ps := ["cost", "wide"]) fun _ _ _ _ _ _ us hl => match us, hl with | [_, _], _ => rfl
  have F5 := fun_mk (st := s_leaving) l5 c5 k5
  have B5 := F5.binds (ps := ["rows", "place", "basis"]) fun _ _ _ _ _ _ us hl => match us, hl with | [_, _, _], _ => rfl
  have F6 := fun_mk (st := s_pivoted) l6 c6 k6
  have B6 := F6.binds (ps := ["rows", "at", "place", "by"]) fun _ _ _ _ _ _ us hl => match us, hl with | [_, _, _, _], _ => rfl
  have F7 := fun_mk (st := s_worked) l7 c7 k7
  have B7 := F7.binds (ps := ["rows", "many", "wide"]) fun _ _ _ _ _ _ us hl => match us, hl with | [_, _, _], _ => rfl
  have F8 := fun_mk (st := s_solved) l8 c8 k8
  have B8 := F8.binds (ps := ["lines", "wanted", "free"]) fun _ _ _ _ _ _ us hl => match us, hl with | [_, _, _], _ => rfl
  have F9 := fun_mk (st := s_law_cell_at) l9 c9 k9
  have B9 := F9.binds (ps := ["_law_script", "_law_k"]) fun _ _ _ _ _ _ us hl => match us, hl with | [_, _], _ => rfl
  have F10 := fun_mk (st := s_law_drawn) l10 c10 k10
  have B10 := F10.binds (ps := ["_law_seed", "_law_k"]) fun _ _ _ _ _ _ us hl => match us, hl with | [_, _], _ => rfl
  have F11 := fun_mk (st := s_law_copied) l11 c11 k11
  have B11 := F11.binds (ps := ["_law_thing"]) fun _ _ _ _ _ _ us hl => match us, hl with | [_], _ => rfl
  have F12 := fun_mk (st := s_law_whole_ones) l12 c12 k12
  have B12 := F12.binds (ps := ["_law_thing", "_law_size"]) fun _ _ _ _ _ _ us hl => match us, hl with | [_, _], _ => rfl
  have F13 := fun_mk (st := s_law_lines) l13 c13 k13
  have B13 := F13.binds (ps := ["_law_script", "_law_size", "_law_many"]) fun _ _ _ _ _ _ us hl => match us, hl with | [_, _, _], _ => rfl
  have F14 := fun_mk (st := s_law_wanted) l14 c14 k14
  have B14 := F14.binds (ps := ["_law_script", "_law_lines_here", "_law_many", "_law_free"]) fun _ _ _ _ _ _ us hl => match us, hl with | [_, _, _, _], _ => rfl
  have F15 := fun_mk (st := s_law_answers) l15 c15 k15
  have B15 := F15.binds (ps := ["_law_lines_here", "_law_wanted_here", "_law_free", "_law_found"]) fun _ _ _ _ _ _ us hl => match us, hl with | [_, _, _, _], _ => rfl
  have F16 := fun_mk (st := s_law_shows) l16 c16 k16
  have B16 := F16.binds (ps := ["_law_lines_here", "_law_wanted_here", "_law_free", "_law_found"]) fun _ _ _ _ _ _ us hl => match us, hl with | [_, _, _, _], _ => rfl
  have F17 := fun_mk (st := s_law_right) l17 c17 k17
  have B17 := F17.binds (ps := ["_law_lines_here", "_law_wanted_here", "_law_free", "_law_found"]) fun _ _ _ _ _ _ us hl => match us, hl with | [_, _, _, _], _ => rfl
  have F18 := fun_mk (st := s_law) l18 c18 k18
  refine ⟨PySem.W.fnOf "law" "law" (defArgs s_law) (defBody s_law) (defScope s_law) .none kV18 dc18 pm18 an18 cd18 ct18, fun s v => .of_eq rfl, fun base _ _ => ?_⟩
  have c_is_whole : Cal P w K mg base "is_whole" ["thing"] 1 m_is_whole := ⟨f0, _, ok_is_whole T F0, PySem.W.mg_of X G a0, k0, B0⟩
  have c_are_whole : Cal P w K mg base "are_whole" ["thing", "size"] 2 m_are_whole := ⟨f1, _, ok_are_whole T c_is_whole F1, PySem.W.mg_of X G a1, k1, B1⟩
  have c_need_table : Cal P w K mg base "need_table" ["lines", "wanted", "free"] 3 m_need_table := ⟨f2, _, ok_need_table T c_are_whole c_is_whole F2, PySem.W.mg_of X G a2, k2, B2⟩
  have c_begun : Cal P w K mg base "begun" ["lines", "wanted", "free"] 1 m_begun := ⟨f3, _, ok_begun T F3, PySem.W.mg_of X G a3, k3, B3⟩
  have c_entering : Cal P w K mg base "entering" ["cost", "wide"] 1 m_entering := ⟨f4, _, ok_entering T F4, PySem.W.mg_of X G a4, k4, B4⟩
  have c_leaving : Cal P w K mg base "leaving" ["rows", "place", "basis"] 1 m_leaving := ⟨f5, _, ok_leaving T F5, PySem.W.mg_of X G a5, k5, B5⟩
  have c_pivoted : Cal P w K mg base "pivoted" ["rows", "at", "place", "by"] 1 m_pivoted := ⟨f6, _, ok_pivoted T F6, PySem.W.mg_of X G a6, k6, B6⟩
  have c_worked : Cal P w K mg base "worked" ["rows", "many", "wide"] 2 m_worked := ⟨f7, _, ok_worked T c_entering c_leaving c_pivoted F7, PySem.W.mg_of X G a7, k7, B7⟩
  have c_solvedU : CalU P w K mg base "solved" ["lines", "wanted", "free"] 4 m_solved := ⟨f8, _, ok_solved T c_need_table c_worked c_begun F8, PySem.W.mg_of X G a8, k8, B8⟩
  have c_solved := c_solvedU.cal
  have c_law_cell_at : Cal P w K mg base "_law_cell_at" ["_law_script", "_law_k"] 1 m_law_cell_at := ⟨f9, _, ok_law_cell_at T F9, PySem.W.mg_of X G a9, k9, B9⟩
  have c_law_drawn : Cal P w K mg base "_law_drawn" ["_law_seed", "_law_k"] 1 m_law_drawn := ⟨f10, _, ok_law_drawn T F10, PySem.W.mg_of X G a10, k10, B10⟩
  have c_law_copied := all_law_copied (P := P) (w := w) (base := base) T F11 B11 (PySem.W.mg_of X G a11) 12
  have c_law_whole_ones : Cal P w K mg base "_law_whole_ones" ["_law_thing", "_law_size"] 1 m_law_whole_ones := ⟨f12, _, ok_law_whole_ones T F12, PySem.W.mg_of X G a12, k12, B12⟩
  have c_law_lines : Cal P w K mg base "_law_lines" ["_law_script", "_law_size", "_law_many"] 2 m_law_lines := ⟨f13, _, ok_law_lines T c_law_cell_at c_law_drawn F13, PySem.W.mg_of X G a13, k13, B13⟩
  have c_law_wanted : Cal P w K mg base "_law_wanted" ["_law_script", "_law_lines_here", "_law_many", "_law_free"] 2 m_law_wanted := ⟨f14, _, ok_law_wanted T c_law_cell_at c_law_drawn F14, PySem.W.mg_of X G a14, k14, B14⟩
  have c_law_answers : Cal P w K mg base "_law_answers" ["_law_lines_here", "_law_wanted_here", "_law_free", "_law_found"] 2 m_law_answers := ⟨f15, _, ok_law_answers T c_law_whole_ones F15, PySem.W.mg_of X G a15, k15, B15⟩
  have c_law_shows : Cal P w K mg base "_law_shows" ["_law_lines_here", "_law_wanted_here", "_law_free", "_law_found"] 2 m_law_shows := ⟨f16, _, ok_law_shows T c_law_whole_ones F16, PySem.W.mg_of X G a16, k16, B16⟩
  have c_law_right : Cal P w K mg base "_law_right" ["_law_lines_here", "_law_wanted_here", "_law_free", "_law_found"] 3 m_law_right := ⟨f17, _, ok_law_right T c_law_answers c_law_shows F17, PySem.W.mg_of X G a17, k17, B17⟩
  exact (ok_law T c_law_lines c_law_wanted c_solvedU c_solved c_law_copied c_law_right c_law_cell_at F18).imp (spLaw_of hmath)
end
end PL

namespace PL
open PySem
/-! ## the mathematics: how the mirrors reckon -/
section
variable {a b : SF} {f g h : EF} {l : LF} {t u : TF} {e : Env} {d : D} {i : Nat}
@[simp] theorem x_seqN : sSeq sNil b e = b e := rfl
theorem seq_next {e' : Env} (h : a e = .next e') : sSeq a b e = b e' := by unfold sSeq; rw [h]
theorem seq_ret (h : a e = .ret d) : sSeq a b e = .ret d := by unfold sSeq; rw [h]
theorem seq_err {c : Str} (h : a e = .err c) : sSeq a b e = .err c := by unfold sSeq; rw [h]
theorem set_ok (h : f e = .ok d) : sSet (gN i) f e = .next (e.set i (.sh d)) := by unfold sSet; rw [h]; rfl
theorem do_ok (h : f e = .ok d) : sDo f e = .next e := by unfold sDo; rw [h]; rfl
theorem do_err {c : Str} (h : f e = .err c) : sDo f e = .err c := by unfold sDo; rw [h]; rfl
theorem ret_ok (h : f e = .ok d) : sRet f e = .ret d := by unfold sRet; rw [h]; rfl
theorem ret_to {d' : D} (h : f e = .ok d) (h2 : d = d') : sRet f e = .ret d' := by unfold sRet; rw [h, h2]; rfl
theorem if_t (h : t e = .ok true) : sIf t a b e = a e := by unfold sIf; rw [h]; rfl
theorem if_f (h : t e = .ok false) : sIf t a b e = b e := by unfold sIf; rw [h]; rfl
theorem if_b {k : Bool} (h : t e = .ok k) : sIf t a b e = if k then a e else b e := by unfold sIf; rw [h]; rfl
theorem qv {k : Bool} (h : f e = .ok (.bool k)) : qV f e = .ok k := by unfold qV; rw [h]; rfl
theorem qnot {k : Bool} (h : t e = .ok k) : qNot t e = .ok (!k) := by unfold qNot; rw [h]; rfl
theorem qor {k j : Bool} (h : t e = .ok k) (h2 : k = false → u e = .ok j) : qOr t u e = .ok (k || j) := by
  unfold qOr; rw [h]; cases k
  · exact h2 rfl
  · rfl
theorem qand {k j : Bool} (h : t e = .ok k) (h2 : k = true → u e = .ok j) : qAnd t u e = .ok (k && j) := by
  unfold qAnd; rw [h]; cases k
  · rfl
  · exact h2 rfl
theorem eand {k j : Bool} (h : f e = .ok (.bool k)) (h2 : k = true → g e = .ok (.bool j)) : eAnd f g e = .ok (.bool (k && j)) := by
  unfold eAnd; rw [h]; cases k
  · rfl
  · exact h2 rfl
theorem eor {k j : Bool} (h : f e = .ok (.bool k)) (h2 : k = false → g e = .ok (.bool j)) : eOr f g e = .ok (.bool (k || j)) := by
  unfold eOr; rw [h]; cases k
  · exact h2 rfl
  · rfl
theorem enot {k : Bool} (h : f e = .ok (.bool k)) : eNot f e = .ok (.bool (!k)) := by unfold eNot; rw [h]; rfl
theorem op2 {o : D → D → R D} {x y : D} {r : R D} (h1 : f e = .ok x) (h2 : g e = .ok y) (h3 : o x y = r) : e2 o f g e = r := by unfold e2; rw [h1, R.bind_ok, h2, R.bind_ok]; exact h3
theorem op1 {o : D → R D} {x : D} {r : R D} (h1 : f e = .ok x) (h3 : o x = r) : e1 o f e = r := by unfold e1; rw [h1]; exact h3
theorem ch2 {o o' : D → D → R D} {x y z : D} {k j : Bool} (h1 : f e = .ok x) (h2 : g e = .ok y) (h3 : o x y = .ok (.bool k)) (h4 : k = true → h e = .ok z ∧ o' y z = .ok (.bool j)) : eCh o o' f g h e = .ok (.bool (k && j)) := by
  unfold eCh; rw [h1, R.bind_ok, h2, R.bind_ok, h3]
  cases k
  · rfl
  · obtain ⟨h5, h6⟩ := h4 rfl
    show (h e).bind _ = _
    rw [h5]; exact h6
theorem cl1 {m : List D → R D} {x : D} {r : R D} (h1 : f e = .ok x) (h : m [x] = r) : eC m (aC f aN) e = r := by unfold eC aC aN; rw [h1]; exact h
theorem cl2 {m : List D → R D} {x y : D} {r : R D} (h1 : f e = .ok x) (h2 : g e = .ok y) (h : m [x, y] = r) : eC m (aC f (aC g aN)) e = r := by
  show ((f e).bind fun d => ((g e).bind fun d2 => R.ok [d2]).bind fun ds => R.ok (d :: ds)).bind m = r
  rw [h1, R.bind_ok, h2]; exact h
theorem cl3 {m : List D → R D} {x y z : D} {r : R D} {q : EF} (h1 : f e = .ok x) (h2 : g e = .ok y) (h3 : q e = .ok z) (h : m [x, y, z] = r) : eC m (aC f (aC g (aC q aN))) e = r := by
  show ((f e).bind fun d => ((g e).bind fun d2 => ((q e).bind fun d3 => R.ok [d3]).bind fun ds => R.ok (d2 :: ds)).bind fun ds => R.ok (d :: ds)).bind m = r
  rw [h1, R.bind_ok, h2, R.bind_ok, h3]; exact h
theorem el {xs : List D} (h : l e = .ok xs) : eL l e = .ok (.list xs) := by unfold eL; rw [h]; rfl
theorem et {xs : List D} (h : l e = .ok xs) : eT l e = .ok (.tuple xs) := by unfold eT; rw [h]; rfl
theorem ac {xs : List D} (h1 : f e = .ok d) (h : l e = .ok xs) : aC f l e = .ok (d :: xs) := by unfold aC; rw [h1, R.bind_ok, h]; rfl
theorem an : aN e = .ok [] := rfl
theorem eif_t (h : t e = .ok true) : eIf t f g e = f e := by unfold eIf; rw [h]; rfl
theorem eif_f (h : t e = .ok false) : eIf t f g e = g e := by unfold eIf; rw [h]; rfl
theorem il {xs : List D} (h : f e = .ok (.list xs)) : iL f e = .ok xs := by unfold iL; rw [h]; rfl
theorem smI_of {n : Int} (h1 : -1000000 ≤ n) (h2 : n ≤ 1000000) : smI n = true := by
  unfold smI; rw [decide_eq_true_eq]; omega
theorem ir1 {n : Int} (h : f e = .ok (.int n)) (h1 : -1000000 ≤ n) (h2 : n ≤ 1000000) : iR1 f e = .ok (rng 0 n) := by
  unfold iR1; rw [h, R.bind_ok]
  show (if smI n = true then R.ok (rng 0 n) else .stk) = _
  rw [if_pos (smI_of h1 h2)]
theorem rng_mem {lo n : Int} {x : D} (h : x ∈ rng lo n) : ∃ k : Int, x = .int k ∧ lo ≤ k ∧ k < n := by
  unfold rng at h
  obtain ⟨k, hk, rfl⟩ := List.mem_map.mp h
  have := List.mem_range.mp hk
  exact ⟨_, rfl, by omega, by omega⟩
theorem rng_length (lo n : Int) : (rng lo n).length = (n - lo).toNat := by unfold rng; rw [List.length_map, List.length_range]
theorem fn_ret {n : Nat} {s : SF} {ds : List D} (h : s (ds.map .sh ++ List.replicate (n - ds.length) .no) = .ret d) : fnR n s ds = .ok d := by unfold fnR; rw [h]
theorem fn_err {n : Nat} {s : SF} {ds : List D} {c : Str} (h : s (ds.map .sh ++ List.replicate (n - ds.length) .no) = .err c) : fnR n s ds = .err c := by unfold fnR; rw [h]
theorem fn_next {n : Nat} {s : SF} {ds : List D} {e : Env} (h : s (ds.map .sh ++ List.replicate (n - ds.length) .no) = .next e) : fnR n s ds = .ok .none := by unfold fnR; rw [h]
end
section
variable {g : GF} {t : TF} {f : EF} {e : Env} {it : LF} {vs : List Nat}
theorem cLoop_map (F : D → D) : ∀ {xs : List D}, (∀ x ∈ xs, ∃ e1, g x e = .ok e1 ∧ t e1 = .ok true ∧ f e1 = .ok (F x)) → cLoop g t f e xs = .ok (xs.map F)
  | [], _ => rfl
  | x :: xs, h => by
    obtain ⟨e1, h1, h2, h3⟩ := h x List.mem_cons_self
    unfold cLoop
    rw [h1, R.calm_ok, R.bind_ok, h2, R.calm_ok, R.bind_ok, if_pos rfl, h3, R.calm_ok, R.bind_ok, cLoop_map F (xs := xs) fun y hy => h y (List.mem_cons_of_mem _ hy)]
    rfl
theorem cmp_map (F : D → D) {xs : List D} (hi : it e = .ok xs) (hl : xs.length ≤ szL) (h : ∀ x ∈ xs, ∃ e1, g x (wip vs e) = .ok e1 ∧ t e1 = .ok true ∧ f e1 = .ok (F x)) : cmp it vs g t f e = .ok (xs.map F) := by
  unfold cmp
  rw [hi, R.bind_ok, if_pos hl]
  exact cLoop_map F h
/-- each element answers something of that kind -/
theorem cmp_all (P : D → Prop) {xs : List D} (hi : it e = .ok xs) (hl : xs.length ≤ szL) (h : ∀ x ∈ xs, ∃ e1 d, g x (wip vs e) = .ok e1 ∧ t e1 = .ok true ∧ f e1 = .ok d ∧ P d) : ∃ ds, cmp it vs g t f e = .ok ds ∧ ds.length = xs.length ∧ ∀ d ∈ ds, P d := by
  have h' : ∀ x : D, ∃ d, x ∈ xs → ∃ e1, g x (wip vs e) = .ok e1 ∧ t e1 = .ok true ∧ f e1 = .ok d ∧ P d := fun x => by
    by_cases hx : x ∈ xs
    · obtain ⟨e1, d, h1⟩ := h x hx
      exact ⟨d, fun _ => ⟨e1, h1⟩⟩
    · exact ⟨.none, fun q => absurd q hx⟩
  have hF : ∀ x ∈ xs, ∃ e1, g x (wip vs e) = .ok e1 ∧ t e1 = .ok true ∧ f e1 = .ok (Classical.choose (h' x)) ∧ P (Classical.choose (h' x)) := fun x hx => Classical.choose_spec (h' x) hx
  refine ⟨xs.map fun x => Classical.choose (h' x), cmp_map _ hi hl fun x hx => ?_, List.length_map _, fun d hd => ?_⟩
  · obtain ⟨e1, h1, h2, h3, _⟩ := hF x hx
    exact ⟨e1, h1, h2, h3⟩
  · obtain ⟨x, hx, rfl⟩ := List.mem_map.mp hd
    obtain ⟨e1, _, _, _, h4⟩ := hF x hx
    exact h4
end
/-! ### values -/
theorem mulB_l {a b : Int} (h1 : -(2 ^ 64) < a) (h2 : a < 2 ^ 64) : mulB a b = true := by unfold mulB; rw [decide_eq_true (show -(2 ^ 64) < a ∧ a < 2 ^ 64 from ⟨h1, h2⟩)]; rfl
theorem mulB_r {a b : Int} (h1 : -(2 ^ 64) < b) (h2 : b < 2 ^ 64) : mulB a b = true := by unfold mulB; rw [decide_eq_true (show -(2 ^ 64) < b ∧ b < 2 ^ 64 from ⟨h1, h2⟩), Bool.or_true]; rfl
theorem mul_l {a b : Int} (h1 : -(2 ^ 64) < a) (h2 : a < 2 ^ 64) : opMul (.int a) (.int b) = .ok (.int (a * b)) := if_pos (mulB_l h1 h2)
theorem mul_r {a b : Int} (h1 : -(2 ^ 64) < b) (h2 : b < 2 ^ 64) : opMul (.int a) (.int b) = .ok (.int (a * b)) := if_pos (mulB_r h1 h2)
theorem mod_ok {a b : Int} (h : 0 < b) : opMod (.int a) (.int b) = .ok (.int (a % b)) := if_pos h
theorem div_ok {a b : Int} (h : 0 < b) (h2 : b < 2 ^ 200) : opDiv (.int a) (.int b) = .ok (.int (a / b)) := if_pos ⟨h, by
  have : b.natAbs < 2 ^ 200 := by omega
  have := (Nat.log2_lt (by omega)).mpr this
  omega⟩
theorem eqD_int (a b : Int) : eqD (.int a) (.int b) = .ok (decide (a = b)) := by
  unfold eqD same lowD isDic flatD
  by_cases h : a = b
  · simp [h]
  · simp [h, PyData.eqv]
theorem eq_int (a b : Int) : opEq (.int a) (.int b) = .ok (.bool (decide (a = b))) := by unfold opEq; rw [eqD_int]; rfl
theorem ne_int (a b : Int) : opNe (.int a) (.int b) = .ok (.bool (!decide (a = b))) := by unfold opNe; rw [eqD_int]; rfl
abbrev intL (xs : List Int) : D := .list (xs.map .int)
theorem asIs_map : ∀ xs : List Int, asIs (xs.map PyData.int) = .ok xs
  | [] => rfl
  | x :: xs => by show (asIs (xs.map PyData.int)).bind _ = _; rw [asIs_map xs]; rfl
theorem asBs_map : ∀ xs : List Bool, asBs (xs.map PyData.bool) = .ok xs
  | [] => rfl
  | x :: xs => by show (asBs (xs.map PyData.bool)).bind _ = _; rw [asBs_map xs]; rfl
theorem sum_ints (xs : List Int) : bSum [intL xs] = .ok (.int xs.sum) := by
  show (asIs (xs.map PyData.int)).bind _ = _
  rw [asIs_map]; rfl
theorem all_bools {A : Type} (xs : List A) (p : A → Bool) : bAll [.list (xs.map fun x => .bool (p x))] = .ok (.bool (xs.all p)) := by
  have e : (xs.map fun x => PyData.bool (p x)) = (xs.map p).map PyData.bool := by rw [List.map_map]; rfl
  rw [e]
  show (asBs ((xs.map p).map PyData.bool)).bind _ = _
  rw [asBs_map]
  show R.ok (PyData.bool ((xs.map p).all id)) = _
  rw [List.all_map]
  rfl
/-! ### checks -/
def isWh : D → Bool | .int _ => true | _ => false
theorem m_whole {d : D} (h : isScr d = false) : m_is_whole [d] = .ok (.bool (isWh d)) := by
  have h1 : bIsi .int [d] = .ok (.bool (isTy .int d)) := by
    show (if isScr d = true then R.stk else _) = _
    rw [h]; rfl
  have h2 : bIsi .bool [d] = .ok (.bool (isTy .bool d)) := by
    show (if isScr d = true then R.stk else _) = _
    rw [h]; rfl
  refine fn_ret (ret_to (eand (cl1 rfl h1) fun _ => enot (cl1 rfl h2)) ?_)
  cases d <;> rfl
def arW (n : Int) : D → Bool | .list xs => decide ((xs.length : Int) = n) && xs.all isWh | _ => false
def noScr : D → Prop | .list xs => xs.length ≤ szL ∧ ∀ x ∈ xs, isScr x = false | .dict (_ :: _) => False | _ => True
theorem m_arew {d : D} {n : Int} (h : noScr d) : m_are_whole [d, .int n] = .ok (.bool (arW n d)) := by
  have hs : isScr d = false := by
    cases d with
    | dict kvs => cases kvs with | nil => rfl | cons => exact h.elim
    | _ => rfl
  have h1 : bIsi .list [d] = .ok (.bool (isTy .list d)) := by
    show (if isScr d = true then R.stk else _) = _
    rw [hs]; rfl
  cases d with
  | list xs =>
    refine fn_ret (ret_to (eand (cl1 rfl h1) fun _ => eand (op2 (cl1 rfl rfl) rfl (eq_int _ _)) fun _ => cl1 (el (cmp_map (fun x => .bool (isWh x)) (il rfl) h.1 fun x hx => ⟨_, rfl, rfl, cl1 rfl (m_whole (h.2 x hx))⟩)) (all_bools xs isWh)) ?_)
    rfl
  | dict kvs => exact fn_ret (ret_to (eand (j := false) (cl1 rfl h1) fun q => Bool.noConfusion (show false = true from q)) rfl)
  | _ => exact fn_ret (ret_to (eand (j := false) (cl1 rfl h1) fun q => Bool.noConfusion (show false = true from q)) rfl)

theorem noScr_ints {xs : List Int} (h : xs.length ≤ szL) : noScr (intL xs) := ⟨by rw [List.length_map]; exact h, fun x hx => by obtain ⟨y, _, rfl⟩ := List.mem_map.mp hx; rfl⟩
theorem isWh_ints (xs : List Int) : (xs.map PyData.int).all isWh = true := by
  rw [List.all_eq_true]; intro x hx; obtain ⟨y, _, rfl⟩ := List.mem_map.mp hx; rfl
theorem arW_ints (xs : List Int) (n : Int) : arW n (intL xs) = decide ((xs.length : Int) = n) := by
  show (decide (((xs.map PyData.int).length : Int) = n) && (xs.map PyData.int).all isWh) = _
  rw [isWh_ints, Bool.and_true, List.length_map]
theorem all_true {A : Type} (xs : List A) : bAll [.list (xs.map fun _ => .bool true)] = .ok (.bool true) := (all_bools xs fun _ => true).trans (by rw [List.all_eq_true.mpr fun _ _ => rfl])
theorem ix_last (l : List D) (d : D) : opIx (.list (l ++ [d])) (.int (-1)) = .ok d := by
  show toR ((ixN (l ++ [d]).length (-1)).bind fun j => (l ++ [d])[j]?) = _
  have e : ixN (l ++ [d]).length (-1) = some l.length := by
    unfold ixN
    rw [if_neg (by omega), if_pos (by rw [List.length_append]; simp; omega)]
    congr 1
    rw [List.length_append]; simp; omega
  rw [e]
  show toR ((l ++ [d])[l.length]?) = _
  rw [List.getElem?_append_right (Nat.le_refl _), Nat.sub_self]; rfl
theorem ints_of : ∀ {ds : List D} {P : Int → Prop}, (∀ d ∈ ds, ∃ z, d = .int z ∧ P z) → ∃ zs : List Int, ds = zs.map .int ∧ ∀ z ∈ zs, P z
  | [], _, _ => ⟨[], rfl, fun _ h => by cases h⟩
  | d :: ds, P, h => by
    obtain ⟨z, rfl, hz⟩ := h d List.mem_cons_self
    obtain ⟨zs, rfl, hzs⟩ := ints_of (ds := ds) (P := P) fun d hd => h d (List.mem_cons_of_mem _ hd)
    exact ⟨z :: zs, rfl, fun y hy => by
      rcases List.mem_cons.mp hy with rfl | hy
      · exact hz
      · exact hzs y hy⟩
theorem cmp_ints {g : GF} {t : TF} {f : EF} {e : Env} {it : LF} {vs : List Nat} (P : Int → Prop) {xs : List D} (hi : it e = .ok xs) (hl : xs.length ≤ 1000) (h : ∀ x ∈ xs, ∃ e1 z, g x (wip vs e) = .ok e1 ∧ t e1 = .ok true ∧ f e1 = .ok (.int z) ∧ P z) :
    ∃ zs : List Int, cmp it vs g t f e = .ok (zs.map .int) ∧ zs.length = xs.length ∧ ∀ z ∈ zs, P z := by
  obtain ⟨ds, h1, h2, h3⟩ := cmp_all (fun d => ∃ z, d = .int z ∧ P z) hi (Nat.le_trans hl (by decide)) fun x hx => by
    obtain ⟨e1, z, a1, a2, a3, a4⟩ := h x hx
    exact ⟨e1, .int z, a1, a2, a3, z, rfl, a4⟩
  obtain ⟨zs, rfl, h4⟩ := ints_of h3
  exact ⟨zs, h1, by rw [← h2, List.length_map], h4⟩
theorem ix_of {A : Type} {xs : List A} {k : Int} (h1 : 0 ≤ k) (h2 : k < xs.length) : ∃ a, xs[k.toNat]? = some a ∧ a ∈ xs ∧ atI xs k = some a := by
  have hk : k.toNat < xs.length := by omega
  refine ⟨xs[k.toNat], List.getElem?_eq_getElem hk, List.getElem_mem hk, ?_⟩
  unfold atI ixN
  rw [if_pos h1, if_pos h2]
  exact List.getElem?_eq_getElem hk
theorem ix_list {xs : List D} {k : Int} (h1 : 0 ≤ k) (h2 : k < xs.length) : ∃ d, xs[k.toNat]? = some d ∧ d ∈ xs ∧ opIx (.list xs) (.int k) = .ok d := by
  obtain ⟨a, h3, h4, h5⟩ := ix_of h1 h2
  exact ⟨a, h3, h4, by show toR (atI xs k) = _; rw [h5]; rfl⟩
theorem ix_ints {xs : List Int} {k : Int} (h1 : 0 ≤ k) (h2 : k < xs.length) : ∃ z, xs[k.toNat]? = some z ∧ z ∈ xs ∧ opIx (intL xs) (.int k) = .ok (.int z) := by
  obtain ⟨a, h3, h4, h5⟩ := ix_list (xs := xs.map .int) h1 (by rw [List.length_map]; exact h2)
  obtain ⟨z, hz, rfl⟩ := List.mem_map.mp h4
  rw [List.getElem?_map] at h3
  cases e : xs[k.toNat]? with
  | none => rw [e] at h3; cases h3
  | some y => rw [e] at h3; cases h3; exact ⟨z, rfl, hz, h5⟩
theorem add_list {xs ys : List D} (h : xs.length + ys.length ≤ 1000) : opAdd (.list xs) (.list ys) = .ok (.list (xs ++ ys)) := if_pos (Nat.le_trans h (by decide))
theorem fLoop_inv {g : GF} {b : SF} (I : Nat → Env → Prop) {xs : List D} {e : Env} (h0 : I 0 e) (step : ∀ i (hi : i < xs.length) e, I i e → ∃ e1 e2, g xs[i] e = .ok e1 ∧ b e1 = .next e2 ∧ I (i + 1) e2) : ∃ e', fLoop g b xs e = .next e' ∧ I xs.length e' := by
  suffices h : ∀ (ys : List D) (i : Nat) (e : Env), xs.drop i = ys → i ≤ xs.length → I i e → ∃ e', fLoop g b ys e = .next e' ∧ I xs.length e' from h xs 0 e rfl (Nat.zero_le _) h0
  intro ys
  induction ys with
  | nil =>
    intro i e h1 h2 h3
    have : i = xs.length := by
      have := List.drop_eq_nil_iff.mp h1
      omega
    exact ⟨e, rfl, this ▸ h3⟩
  | cons y ys ih =>
    intro i e h1 h2 h3
    have hlt : i < xs.length := by
      by_cases q : i < xs.length
      · exact q
      · rw [List.drop_eq_nil_of_le (by omega)] at h1; cases h1
    rw [List.drop_eq_getElem_cons hlt] at h1
    cases h1
    obtain ⟨e1, e2, a1, a2, a3⟩ := step i hlt e h3
    obtain ⟨e', b1, b2⟩ := ih (i + 1) e2 rfl hlt a3
    refine ⟨e', ?_, b2⟩
    unfold fLoop
    rw [a1]
    show (match b e1 with | .next e2 => _ | .cont e2 => _ | .brk e2 => _ | .ret d => _ | .err c => _ | .stk => _) = _
    rw [a2]
    exact b1
theorem reps_zero (m : Nat) : reps [.int 0] (m : Int) = (List.replicate m (0 : Int)).map .int := by
  unfold reps
  rw [Int.toNat_natCast]
  induction m with
  | zero => rfl
  | succ n ih => rw [List.replicate_succ, List.flatten_cons, ih, List.replicate_succ]; rfl
theorem mul_list {m : Int} (h1 : 0 ≤ m) (h2 : m ≤ 1000) : opMul (.list [.int 0]) (.int m) = .ok (intL (List.replicate m.toNat 0)) := by
  have e : reps [.int 0] m = (List.replicate m.toNat (0 : Int)).map .int := by
    have := reps_zero m.toNat
    rw [Int.toNat_of_nonneg h1] at this
    exact this
  show (if -(2 ^ 62) ≤ m ∧ m < 2 ^ 62 ∧ [PyData.int 0].length * m.toNat ≤ szL then R.ok (PyData.list (reps [.int 0] m)) else .stk) = _
  rw [if_pos ⟨by omega, by omega, by unfold szL; simp; omega⟩, e]
theorem sl_from {xs : List D} {m : Int} (h1 : 0 ≤ m) : opSl (.list xs) (some m) none = .ok (.list (xs.drop m.toNat)) := by
  show R.ok (PyData.list ((xs.drop (sIx xs.length 0 (some m))).take (sIx xs.length xs.length none - sIx xs.length 0 (some m)))) = _
  have e : sIx xs.length 0 (some m) = min m.toNat xs.length := by
    show (if m < 0 then (m + (xs.length : Int)).toNat else min m.toNat xs.length) = _
    rw [if_neg (by omega)]
  have e2 : sIx xs.length xs.length none = xs.length := rfl
  rw [e, e2]
  congr 2
  rcases Nat.le_total m.toNat xs.length with h | h
  · rw [Nat.min_eq_left h, List.take_of_length_le (by rw [List.length_drop]; omega)]
  · rw [Nat.min_eq_right h, List.drop_length, List.drop_eq_nil_of_le h, List.take_nil]
theorem esl_from {f g : EF} {e : Env} {xs : List D} {m : Int} (h : f e = .ok (.list xs)) (h2 : g e = .ok (.int m)) (h1 : 0 ≤ m) : eSl f (oS g) oN e = .ok (.list (xs.drop m.toNat)) := by
  unfold eSl oS oN
  rw [h, R.bind_ok, h2]
  exact sl_from h1
theorem for_ok {it : LF} {g : GF} {b : SF} {e : Env} {xs : List D} {o : Out} (h : it e = .ok xs) (h2 : fLoop g b xs e = o) : sFor it g b e = o := by unfold sFor; rw [h]; exact h2
end PL

namespace PL
open PySem
def cell (ns : List Int) (k : Int) : Int := ns.getD k.toNat 0
abbrev scri (ns : List Int) : D := scr (ns.map .int)
theorem m_cell {ns : List Int} {k : Int} (h : 0 ≤ k) : m_law_cell_at [scri ns, .int k] = .ok (.int (cell ns k)) := by
  have hq : qV (e2 opLt (eB 1) (eC bLen (aC (eB 0) aN))) ([PyData.dict [(.none, .list (ns.map .int))], .int k].map SV.sh ++ []) = .ok (decide (k < (ns.map PyData.int).length)) := qv (op2 rfl (cl1 rfl rfl) rfl)
  by_cases c : k < (ns.map PyData.int).length
  · have hl : k < ns.length := by rw [List.length_map] at c; exact c
    obtain ⟨z, h3, _, h5⟩ := ix_ints h hl
    refine fn_ret (seq_ret ((if_t (hq.trans (by rw [decide_eq_true c]))).trans (ret_ok (op2 rfl rfl ?_))))
    show opIx (intL ns) (.int k) = _
    rw [h5]
    unfold cell
    rw [List.getD_eq_getElem?_getD, h3]; rfl
  · refine fn_ret ((seq_next (if_f (hq.trans (by rw [decide_eq_false c])))).trans (ret_to rfl ?_))
    unfold cell
    rw [List.getD_eq_getElem?_getD, List.getElem?_eq_none (by rw [List.length_map] at c; omega)]; rfl
end PL

namespace PL
open PySem
def draw (s k : Int) : Int := (((s + 101 * k + 7) * 48271 % 2147483647 / 7 + k) * 16807 % 2147483647) / 64
theorem draw_pos (s k : Int) : 0 ≤ draw s k := by unfold draw; omega
theorem m_drawn (s k : Int) : m_law_drawn [.int s, .int k] = .ok (.int (draw s k)) :=
  fn_ret ((seq_next (set_ok (op2 (op2 (op2 (op2 rfl (op2 rfl rfl (mul_l (by decide) (by decide))) rfl) rfl rfl) rfl (mul_r (by decide) (by decide))) rfl (mod_ok (by decide))))).trans
    (ret_ok (op2 (op2 (op2 (op2 (op2 rfl rfl (div_ok (by decide) (by decide))) rfl rfl) rfl (mul_r (by decide) (by decide))) rfl (mod_ok (by decide))) rfl (div_ok (by decide) (by decide)))))
end PL

namespace PL
/-! ## determinants, of whole numbers: columns C k, places C k i -/
def sumN : Nat → (Nat → Int) → Int
  | 0, _ => 0
  | n + 1, f => sumN n f + f n
theorem sumN_congr {f g : Nat → Int} : ∀ {n : Nat}, (∀ k, k < n → f k = g k) → sumN n f = sumN n g
  | 0, _ => rfl
  | n + 1, h => by
    show sumN n f + f n = sumN n g + g n
    rw [sumN_congr fun k hk => h k (Nat.lt_succ_of_lt hk), h n (Nat.lt_succ_self n)]
theorem sumN_lin {f g h : Nat → Int} {a b : Int} : ∀ {n : Nat}, (∀ k, k < n → f k = a * g k + b * h k) → sumN n f = a * sumN n g + b * sumN n h
  | 0, _ => by show (0 : Int) = a * 0 + b * 0; simp
  | n + 1, hh => by
    show sumN n f + f n = a * (sumN n g + g n) + b * (sumN n h + h n)
    rw [sumN_lin fun k hk => hh k (Nat.lt_succ_of_lt hk), hh n (Nat.lt_succ_self n)]
    grind
theorem sumN_zero {f : Nat → Int} : ∀ {n : Nat}, (∀ k, k < n → f k = 0) → sumN n f = 0
  | 0, _ => rfl
  | n + 1, h => by
    show sumN n f + f n = 0
    rw [sumN_zero fun k hk => h k (Nat.lt_succ_of_lt hk), h n (Nat.lt_succ_self n)]; rfl
/-- all but one vanish -/
theorem sumN_one {f : Nat → Int} {k : Nat} : ∀ {n : Nat}, k < n → (∀ l, l < n → l ≠ k → f l = 0) → sumN n f = f k
  | 0, h, _ => absurd h (Nat.not_lt_zero _)
  | n + 1, h, hz => by
    show sumN n f + f n = f k
    by_cases q : k = n
    · subst q
      rw [sumN_zero fun l hl => hz l (Nat.lt_succ_of_lt hl) (Nat.ne_of_lt hl)]; simp
    · rw [sumN_one (by omega) fun l hl => hz l (Nat.lt_succ_of_lt hl), hz n (Nat.lt_succ_self n) fun e => q e.symm]; simp
/-- two stand against each other, all others vanish -/
theorem sumN_two {f : Nat → Int} {k : Nat} : ∀ {n : Nat}, k + 1 < n → (∀ l, l < n → l ≠ k → l ≠ k + 1 → f l = 0) → f k + f (k + 1) = 0 → sumN n f = 0
  | 0, h, _, _ => absurd h (Nat.not_lt_zero _)
  | n + 1, h, hz, h2 => by
    show sumN n f + f n = 0
    by_cases q : k + 1 = n
    · subst q
      rw [sumN_one (k := k) (Nat.lt_succ_self k) fun l hl hne => hz l (by omega) hne (by omega)]
      exact h2
    · rw [sumN_two (k := k) (by omega) (fun l hl a b => hz l (by omega) a b) h2, hz n (Nat.lt_succ_self n) (by omega) (by omega)]; rfl
def sgn (k : Nat) : Int := if k % 2 = 0 then 1 else -1
theorem sgn_succ (k : Nat) : sgn (k + 1) = - sgn k := by
  unfold sgn
  by_cases h : k % 2 = 0
  · rw [if_pos h, if_neg (by omega)]
  · rw [if_neg h, if_pos (by omega)]; rfl
abbrev Mat := Nat → Nat → Int
def dropc (k : Nat) (C : Mat) : Mat := fun l i => C (if l < k then l else l + 1) (i + 1)
def det : Nat → Mat → Int
  | 0, _ => 1
  | n + 1, C => sumN (n + 1) fun k => sgn k * C k 0 * det n (dropc k C)
def up (C : Mat) (k : Nat) (v : Nat → Int) : Mat := fun l => if l = k then v else C l
theorem det_congr : ∀ {n : Nat} {C E : Mat}, (∀ k, k < n → ∀ i, i < n → C k i = E k i) → det n C = det n E
  | 0, _, _, _ => rfl
  | n + 1, C, E, h => by
    refine sumN_congr fun k hk => ?_
    rw [h k hk 0 (Nat.succ_pos n), det_congr (C := dropc k C) (E := dropc k E) fun l hl i hi => ?_]
    unfold dropc
    split
    · exact h l (by omega) (i + 1) (by omega)
    · exact h (l + 1) (by omega) (i + 1) (by omega)
theorem dropc_same (C : Mat) (k : Nat) (v : Nat → Int) : dropc k (up C k v) = dropc k C := by
  funext l i
  unfold dropc up
  rw [if_neg]
  split <;> omega
theorem dropc_ne (C : Mat) {k l : Nat} (h : l ≠ k) (v : Nat → Int) : dropc l (up C k v) = up (dropc l C) (if k < l then k else k - 1) (fun i => v (i + 1)) := by
  funext x i
  unfold dropc up
  by_cases a : x < l
  · by_cases b : k < l
    · simp only [if_pos a, if_pos b]
      split <;> rfl
    · simp only [if_pos a, if_neg b]
      rw [if_neg (by omega), if_neg (by omega)]
  · by_cases b : k < l
    · simp only [if_neg a, if_pos b]
      rw [if_neg (by omega), if_neg (by omega)]
    · simp only [if_neg a, if_neg b]
      by_cases q : x + 1 = k
      · rw [if_pos q, if_pos (by omega)]
      · rw [if_neg q, if_neg (by omega)]
theorem up_same (C : Mat) (k : Nat) (v : Nat → Int) : up C k v k = v := if_pos rfl
theorem up_ne (C : Mat) {k l : Nat} (h : l ≠ k) (v : Nat → Int) : up C k v l = C l := if_neg h
theorem det_lin : ∀ {n : Nat} {C : Mat} {k : Nat} {u v : Nat → Int} {a b : Int}, k < n → det n (up C k fun i => a * u i + b * v i) = a * det n (up C k u) + b * det n (up C k v)
  | 0, _, _, _, _, _, _, h => absurd h (Nat.not_lt_zero _)
  | n + 1, C, k, u, v, a, b, h => by
    refine sumN_lin fun l hl => ?_
    by_cases q : l = k
    · subst q
      rw [dropc_same, dropc_same, dropc_same, up_same, up_same, up_same]
      grind
    · rw [dropc_ne C q, dropc_ne C q, dropc_ne C q, up_ne C q, up_ne C q, up_ne C q]
      rw [det_lin (C := dropc l C) (u := fun i => u (i + 1)) (v := fun i => v (i + 1)) (by split <;> omega)]
      grind
/-- two columns side by side are alike -/
theorem det_adj : ∀ {n : Nat} {C : Mat} {k : Nat}, k + 1 < n → (∀ i, i < n → C k i = C (k + 1) i) → det n C = 0
  | 0, _, _, h, _ => absurd h (Nat.not_lt_zero _)
  | n + 1, C, k, h, he => by
    refine sumN_two h (fun l hl h1 h2 => ?_) ?_
    · by_cases q : l < k
      · rw [det_adj (C := dropc l C) (k := k - 1) (by omega) fun i hi => ?_, Int.mul_zero]
        unfold dropc
        rw [if_neg (by omega), if_neg (by omega)]
        have := he (i + 1) (by omega)
        rw [show k - 1 + 1 = k by omega]
        exact this
      · rw [det_adj (C := dropc l C) (k := k) (by omega) fun i hi => ?_, Int.mul_zero]
        unfold dropc
        rw [if_pos (by omega), if_pos (by omega)]
        exact he (i + 1) (by omega)
    · rw [sgn_succ, he 0 (by omega)]
      rw [det_congr (C := dropc k C) (E := dropc (k + 1) C) fun l hl i hi => ?_]
      · grind
      · unfold dropc
        by_cases q : l < k
        · rw [if_pos q, if_pos (by omega)]
        · by_cases q2 : l = k
          · subst q2
            rw [if_neg (by omega), if_pos (by omega)]
            exact (he (i + 1) (by omega)).symm
          · rw [if_neg (by omega), if_neg (by omega)]
theorem up_up (C : Mat) {k l : Nat} (h : k ≠ l) (u v : Nat → Int) : up (up C k u) l v = up (up C l v) k u := by
  funext x
  unfold up
  by_cases q1 : x = l
  · by_cases q2 : x = k
    · omega
    · rw [if_pos q1, if_neg q2, if_pos q1]
  · rw [if_neg q1, if_neg q1]
theorem up_twice (C : Mat) (k : Nat) (u v : Nat → Int) : up (up C k u) k v = up C k v := by
  funext x
  unfold up
  split <;> rfl
theorem up_id (C : Mat) (k : Nat) : up C k (C k) = C := by
  funext x
  unfold up
  split
  · rename_i h; rw [h]
  · rfl
theorem det_add {n : Nat} {C : Mat} {k : Nat} {u v : Nat → Int} (h : k < n) : det n (up C k fun i => u i + v i) = det n (up C k u) + det n (up C k v) := by
  have := det_lin (C := C) (u := u) (v := v) (a := 1) (b := 1) h
  simpa using this
/-- exchanging two neighbours turns the sign -/
theorem det_swap1 {n : Nat} {C : Mat} {k : Nat} (h : k + 1 < n) (u v : Nat → Int) : det n (up (up C k u) (k + 1) v) = - det n (up (up C k v) (k + 1) u) := by
  have z : ∀ w : Nat → Int, det n (up (up C k w) (k + 1) w) = 0 := fun w => det_adj h fun i _ => by
    rw [up_same, up_ne _ (by omega), up_same]
  have s := z fun i => u i + v i
  rw [det_add h] at s
  have ne : k ≠ k + 1 := by omega
  rw [up_up C ne (fun i => u i + v i) u, det_add (by omega), up_up C ne (fun i => u i + v i) v, det_add (by omega)] at s
  rw [← up_up C ne u u, ← up_up C ne v u, ← up_up C ne u v, ← up_up C ne v v, z u, z v] at s
  omega
/-- two columns are alike -/
theorem det_two {n : Nat} : ∀ (t : Nat) {C : Mat} {k : Nat}, k + t + 1 < n → (∀ i, i < n → C k i = C (k + t + 1) i) → det n C = 0
  | 0, C, k, h, he => det_adj h he
  | t + 1, C, k, h, he => by
    have e : C = up (up C (k + t + 1) (C (k + t + 1))) (k + t + 1 + 1) (C (k + t + 1 + 1)) := by rw [up_id, up_id]
    rw [e, det_swap1 (by omega)]
    rw [det_two t (C := up (up C (k + t + 1) (C (k + t + 1 + 1))) (k + t + 1 + 1) (C (k + t + 1))) (k := k) (by omega) fun i hi => ?_]
    · rfl
    · rw [up_ne _ (by omega), up_ne _ (by omega), up_ne _ (by omega), up_same]
      exact he i hi
theorem det_alt {n : Nat} {C : Mat} {k l : Nat} (hk : k < n) (hl : l < n) (h : k ≠ l) (he : ∀ i, i < n → C k i = C l i) : det n C = 0 := by
  rcases Nat.lt_or_gt_of_ne h with q | q
  · obtain ⟨t, rfl⟩ : ∃ t, l = k + t + 1 := ⟨l - k - 1, by omega⟩
    exact det_two t (by omega) he
  · obtain ⟨t, rfl⟩ : ∃ t, k = l + t + 1 := ⟨k - l - 1, by omega⟩
    exact det_two t (by omega) fun i hi => (he i hi).symm
/-- exchanging two columns turns the sign -/
theorem det_swap {n : Nat} {C : Mat} {k l : Nat} (hk : k < n) (hl : l < n) (h : k ≠ l) (u v : Nat → Int) : det n (up (up C k u) l v) = - det n (up (up C k v) l u) := by
  have z : ∀ w : Nat → Int, det n (up (up C k w) l w) = 0 := fun w => det_alt hk hl h fun i _ => by
    rw [up_same, up_ne _ h, up_same]
  have s := z fun i => u i + v i
  rw [det_add hl] at s
  rw [up_up C h (fun i => u i + v i) u, det_add hk, up_up C h (fun i => u i + v i) v, det_add hk] at s
  rw [← up_up C h u u, ← up_up C h v u, ← up_up C h u v, ← up_up C h v v, z u, z v] at s
  omega
theorem det_zero {n : Nat} {C : Mat} {k : Nat} (h : k < n) (he : ∀ i, i < n → C k i = 0) : det n C = 0 := by
  have := det_lin (C := C) (k := k) (u := fun _ => 0) (v := fun _ => 0) (a := 0) (b := 0) h
  rw [← det_congr (C := C) (E := up C k fun i => 0 * (fun _ => (0 : Int)) i + 0 * (fun _ => (0 : Int)) i) fun l hl i hi => ?_] at this
  · rw [this]; simp
  · by_cases q : l = k
    · subst q; rw [up_same, he i hi]; rfl
    · rw [up_ne _ q]
/-- a column that is a sum -/
theorem det_sum {n : Nat} {C : Mat} {k : Nat} (h : k < n) (a : Nat → Int) (V : Mat) : ∀ m : Nat, det n (up C k fun i => sumN m fun l => a l * V l i) = sumN m fun l => a l * det n (up C k (V l))
  | 0 => det_zero h fun i _ => by rw [up_same]; rfl
  | m + 1 => by
    have e : det n (up C k fun i => sumN (m + 1) fun l => a l * V l i) = det n (up C k fun i => 1 * (sumN m fun l => a l * V l i) + a m * V m i) := by
      congr 1
      congr 1
      funext i
      show (sumN m fun l => a l * V l i) + a m * V m i = _
      rw [Int.one_mul]
    rw [e, det_lin h, det_sum h a V m, Int.one_mul]
    rfl
/-! ### the unit columns -/
def unitc : Mat := fun k i => if k = i then 1 else 0
theorem det_unit : ∀ n : Nat, det n unitc = 1
  | 0 => rfl
  | n + 1 => by
    show sumN (n + 1) _ = 1
    rw [sumN_one (k := 0) (Nat.succ_pos n) fun l hl hne => ?_]
    · have e : det n (dropc 0 unitc) = det n unitc := det_congr fun l hl i hi => by
        unfold dropc unitc
        rw [if_neg (Nat.not_lt_zero l)]
        by_cases q : l = i
        · rw [if_pos q, if_pos (by omega)]
        · rw [if_neg q, if_neg (by omega)]
      rw [e, det_unit n]; rfl
    · show sgn l * unitc l 0 * _ = 0
      unfold unitc
      rw [if_neg hne]; simp
end PL

namespace PL
/-! ## a table's pivots, without fractions -/
/-- columns A j of n places; B the basis' columns; T k j = det (B, its k-th column being A j) -/
structure Tab (n : Nat) (A B T : Mat) (D : Int) : Prop where
  d : D = det n B
  pos : 0 < D
  t : ∀ k, k < n → ∀ j, T k j = det n (up B k (A j))
  cr : ∀ j i, i < n → D * A j i = sumN n fun k => T k j * B k i
theorem det_mul {n : Nat} {C : Mat} {k : Nat} {u : Nat → Int} {a : Int} (h : k < n) : det n (up C k fun i => a * u i) = a * det n (up C k u) := by
  have := det_lin (C := C) (u := u) (v := u) (a := a) (b := 0) h
  simp only [Int.zero_mul, Int.add_zero] at this
  exact this
theorem sumN_other {f g : Nat → Int} {r : Nat} : ∀ {n : Nat}, r < n → (∀ k, k < n → k ≠ r → f k = g k) → sumN n f = sumN n g + (f r - g r)
  | 0, h, _ => absurd h (Nat.not_lt_zero _)
  | n + 1, h, hh => by
    show sumN n f + f n = sumN n g + g n + (f r - g r)
    by_cases q : r = n
    · subst q
      rw [sumN_congr fun k hk => hh k (Nat.lt_succ_of_lt hk) (Nat.ne_of_lt hk)]
      omega
    · rw [sumN_other (by omega) fun k hk => hh k (Nat.lt_succ_of_lt hk), hh n (Nat.lt_succ_self n) fun e => q e.symm]
      omega
/-- at most two terms stay -/
theorem sumN_pair {f : Nat → Int} {k r : Nat} : ∀ {n : Nat}, k < n → r < n → k ≠ r → (∀ l, l < n → l ≠ k → l ≠ r → f l = 0) → sumN n f = f k + f r
  | 0, h, _, _, _ => absurd h (Nat.not_lt_zero _)
  | n + 1, hk, hr, hne, hz => by
    show sumN n f + f n = f k + f r
    by_cases q1 : k = n
    · subst q1
      rw [sumN_one (k := r) (by omega) fun l hl h => hz l (by omega) (by omega) h]
      omega
    · by_cases q2 : r = n
      · subst q2
        rw [sumN_one (k := k) (by omega) fun l hl h => hz l (by omega) h (by omega)]
      · rw [sumN_pair (by omega) (by omega) hne fun l hl => hz l (by omega), hz n (Nat.lt_succ_self n) (by omega) (by omega)]
        omega
section
variable {n : Nat} {A B T : Mat} {D : Int}
/-- the exchange: one column more -/
theorem Tab.two (h : Tab n A B T D) {r k : Nat} (hr : r < n) (hk : k < n) (hne : k ≠ r) (s j : Nat) : D * det n (up (up B r (A s)) k (A j)) = T r s * T k j - T k s * T r j := by
  rw [up_up B (fun e => hne e.symm), ← det_mul hr]
  have e : det n (up (up B k (A j)) r fun i => D * A s i) = det n (up (up B k (A j)) r fun i => sumN n fun l => T l s * B l i) := det_congr fun l hl i hi => by
    by_cases q : l = r
    · subst q; rw [up_same, up_same]; exact h.cr s i hi
    · rw [up_ne _ q, up_ne _ q]
  rw [e, det_sum hr]
  rw [sumN_pair hk hr hne fun l hl h1 h2 => ?_]
  · have e1 : det n (up (up B k (A j)) r (B k)) = - T r j := by
      rw [det_swap hk hr hne, up_id, ← h.t r hr j]
    have e2 : det n (up (up B k (A j)) r (B r)) = T k j := by
      rw [up_up B hne, up_id, ← h.t k hk j]
    rw [e1, e2]
    grind
  · rw [det_alt hr hl (fun e => h2 e.symm) fun i _ => ?_]
    · exact Int.mul_zero _
    · rw [up_same, up_ne _ h2, up_ne _ h1]
/-- the table behind a pivot at row r, column s -/
def pivT (T : Mat) (D : Int) (r s : Nat) : Mat := fun k j => if k = r then T r j else (T k j * T r s - T k s * T r j) / D
theorem Tab.exact (h : Tab n A B T D) {r k : Nat} (hr : r < n) (hk : k < n) (hne : k ≠ r) (s j : Nat) : pivT T D r s k j = det n (up (up B r (A s)) k (A j)) := by
  unfold pivT
  rw [if_neg hne]
  have e := h.two hr hk hne s j
  have e2 : T k j * T r s - T k s * T r j = D * det n (up (up B r (A s)) k (A j)) := by rw [e, Int.mul_comm (T k j)]
  rw [e2]
  exact Int.mul_ediv_cancel_left _ (by have := h.pos; omega)
theorem Tab.pivot (h : Tab n A B T D) {r s : Nat} (hr : r < n) (hp : 0 < T r s) : Tab n A (up B r (A s)) (pivT T D r s) (T r s) := by
  have ht : ∀ k, k < n → ∀ j, pivT T D r s k j = det n (up (up B r (A s)) k (A j)) := fun k hk j => by
    by_cases q : k = r
    · subst q
      unfold pivT
      rw [if_pos rfl, up_twice, h.t k hk j]
    · exact h.exact hr hk q s j
  refine ⟨h.t r hr s, hp, ht, fun j i hi => ?_⟩
  have hD := h.pos
  -- times D
  have key : D * (sumN n fun k => pivT T D r s k j * up B r (A s) k i) = D * (T r s * A j i) := by
    have e1 : D * (sumN n fun k => pivT T D r s k j * up B r (A s) k i) = sumN n fun k => D * (pivT T D r s k j * up B r (A s) k i) := by
      have := sumN_lin (f := fun k => D * (pivT T D r s k j * up B r (A s) k i)) (g := fun k => pivT T D r s k j * up B r (A s) k i) (h := fun _ => 0) (a := D) (b := 0) (n := n) fun k _ => by simp
      rw [this]; simp
    have e2 : (sumN n fun k => D * (pivT T D r s k j * up B r (A s) k i)) = (sumN n fun k => T r s * (T k j * B k i) + (- T r j) * (T k s * B k i)) + (D * (T r j * A s i)) := by
      rw [sumN_other (g := fun k => T r s * (T k j * B k i) + (- T r j) * (T k s * B k i)) hr fun k hk hne => ?_]
      · unfold pivT
        rw [if_pos rfl, up_same]
        grind
      · rw [h.exact hr hk hne s j, up_ne _ hne, ← Int.mul_assoc, h.two hr hk hne s j]
        grind
    rw [e1, e2, sumN_lin (g := fun k => T k j * B k i) (h := fun k => T k s * B k i) (a := T r s) (b := - T r j) fun k _ => rfl, ← h.cr j i hi, ← h.cr s i hi]
    grind
  exact (Int.eq_of_mul_eq_mul_left (by omega) key).symm
end
end PL

namespace PL
/-! ## the walk from basis to basis ends -/
/-- the basis' columns: row k < L has column b k, row L its own unit column -/
def Bm (A : Mat) (L : Nat) (b : Nat → Nat) : Mat := fun k => if k < L then A (b k) else unitc L
def Tm (A : Mat) (L : Nat) (b : Nat → Nat) : Mat := fun k j => det (L + 1) (up (Bm A L b) k (A j))
def Dm (A : Mat) (L : Nat) (b : Nat → Nat) : Int := det (L + 1) (Bm A L b)
/-- z: the column of what is wanted -/
structure Good (A : Mat) (L z : Nat) (b : Nat → Nat) : Prop where
  tab : Tab (L + 1) A (Bm A L b) (Tm A L b) (Dm A L b)
  fea : ∀ k, k < L → 0 ≤ Tm A L b k z
structure Step (A : Mat) (L wide z : Nat) (b : Nat → Nat) (r s : Nat) (b' : Nat → Nat) : Prop where
  hr : r < L
  hs : s < wide
  neg : Tm A L b L s < 0
  first : ∀ j, j < s → 0 ≤ Tm A L b L j
  pos : 0 < Tm A L b r s
  least : ∀ k, k < L → 0 < Tm A L b k s → Tm A L b r z * Tm A L b k s < Tm A L b k z * Tm A L b r s ∨ (Tm A L b r z * Tm A L b k s = Tm A L b k z * Tm A L b r s ∧ b r ≤ b k)
  nxt : b' = fun k => if k = r then s else b k
section
variable {A : Mat} {L wide z : Nat} {b b' : Nat → Nat} {r s : Nat}
theorem Step.bm (h : Step A L wide z b r s b') : Bm A L b' = up (Bm A L b) r (A s) := by
  funext k
  rw [h.nxt]
  show (if k < L then A (if k = r then s else b k) else unitc L) = (if k = r then A s else if k < L then A (b k) else unitc L)
  by_cases q : k = r
  · rw [if_pos q, if_pos q, if_pos (by rw [q]; exact h.hr)]
  · rw [if_neg q, if_neg q]
theorem Step.tm (h : Step A L wide z b r s b') (g : Good A L z b) {k : Nat} (hk : k < L + 1) (j : Nat) : Tm A L b' k j = pivT (Tm A L b) (Dm A L b) r s k j := by
  have p := g.tab.pivot (r := r) (s := s) (by have := h.hr; omega) h.pos
  rw [p.t k hk j, ← h.bm]
  rfl
theorem Step.dm (h : Step A L wide z b r s b') (g : Good A L z b) : Dm A L b' = Tm A L b r s := by
  have p := g.tab.pivot (r := r) (s := s) (by have := h.hr; omega) h.pos
  rw [p.d, ← h.bm]
  rfl
theorem Step.good (h : Step A L wide z b r s b') (g : Good A L z b) : Good A L z b' := by
  have p := g.tab.pivot (r := r) (s := s) (by have := h.hr; omega) h.pos
  refine ⟨⟨rfl, by rw [h.dm g]; exact h.pos, fun k _ j => rfl, fun j i hi => ?_⟩, fun k hk => ?_⟩
  · rw [h.dm g, p.cr j i hi]
    refine sumN_congr fun k hk => ?_
    rw [h.tm g hk j, h.bm]
  · rw [h.tm g (by omega) z]
    unfold pivT
    by_cases q : k = r
    · rw [if_pos q]; exact g.fea r h.hr
    · rw [if_neg q]
      refine Int.ediv_nonneg ?_ (Int.le_of_lt g.tab.pos)
      have f1 := g.fea k hk
      have f2 := g.fea r h.hr
      have hp := h.pos
      have a1 : 0 ≤ Tm A L b k z * Tm A L b r s := Int.mul_nonneg f1 (Int.le_of_lt hp)
      by_cases c : 0 < Tm A L b k s
      · have := h.least k hk c
        have e : Tm A L b k s * Tm A L b r z = Tm A L b r z * Tm A L b k s := Int.mul_comm _ _
        rcases this with t | ⟨t, _⟩
        · rw [e]; omega
        · rw [e]; omega
      · have : Tm A L b k s * Tm A L b r z ≤ 0 := Int.mul_nonpos_of_nonpos_of_nonneg (by omega) f2
        omega
/-- what is basic has a zero in the others' rows -/
theorem basic_zero {k l : Nat} (hk : k < L) (hl : l < L + 1) (hne : l ≠ k) : Tm A L b l (b k) = 0 := by
  unfold Tm
  refine det_alt (k := l) (l := k) hl (by omega) hne fun i _ => ?_
  rw [up_same, up_ne _ (fun e => hne e.symm)]
  unfold Bm
  rw [if_pos hk]
theorem basic_one {k : Nat} (hk : k < L) : Tm A L b k (b k) = Dm A L b := by
  unfold Tm Dm
  have e : A (b k) = Bm A L b k := by unfold Bm; rw [if_pos hk]
  rw [e, up_id]
/-- two tables of the same columns: the last row of the one, told by the other -/
theorem two_tabs {c : Nat → Nat} (g : Good A L z b) (s : Nat) : Dm A L b * Tm A L c L s = sumN L (fun k => Tm A L b k s * Tm A L c L (b k)) + Tm A L b L s * Dm A L c := by
  have e : Dm A L b * Tm A L c L s = det (L + 1) (up (Bm A L c) L fun i => Dm A L b * A s i) := by
    rw [det_mul (Nat.lt_succ_self L)]; rfl
  have e2 : det (L + 1) (up (Bm A L c) L fun i => Dm A L b * A s i) = det (L + 1) (up (Bm A L c) L fun i => sumN (L + 1) fun k => Tm A L b k s * Bm A L b k i) := det_congr fun l hl i hi => by
    by_cases q : l = L
    · subst q; rw [up_same, up_same]; exact g.tab.cr s i hi
    · rw [up_ne _ q, up_ne _ q]
  rw [e, e2, det_sum (Nat.lt_succ_self L)]
  show sumN L _ + Tm A L b L s * det (L + 1) (up (Bm A L c) L (Bm A L b L)) = _
  have e3 : Bm A L b L = Bm A L c L := by unfold Bm; rw [if_neg (Nat.lt_irrefl L), if_neg (Nat.lt_irrefl L)]
  rw [e3, up_id]
  rw [sumN_congr (g := fun k => Tm A L b k s * Tm A L c L (b k)) fun k hk => ?_]
  · rfl
  · have : Bm A L b k = A (b k) := by unfold Bm; rw [if_pos hk]
    rw [this]; rfl
theorem sumN_pos {f : Nat → Int} : ∀ {n : Nat}, 0 < sumN n f → ∃ k, k < n ∧ 0 < f k
  | 0, h => absurd h (by show ¬ (0 : Int) < 0; omega)
  | n + 1, h => by
    have h' : 0 < sumN n f + f n := h
    by_cases q : 0 < f n
    · exact ⟨n, Nat.lt_succ_self n, q⟩
    · obtain ⟨k, hk, hp⟩ := sumN_pos (f := f) (n := n) (by omega)
      exact ⟨k, Nat.lt_succ_of_lt hk, hp⟩
/-- the aim's worth never falls; where it stays, what leaves was worth 0 -/
theorem Step.aim (h : Step A L wide z b r s b') (g : Good A L z b) : Tm A L b L z * Dm A L b' ≤ Tm A L b' L z * Dm A L b ∧ (Tm A L b L z * Dm A L b' = Tm A L b' L z * Dm A L b → Tm A L b r z = 0) := by
  have hne : L ≠ r := by have := h.hr; omega
  have e1 : Dm A L b * Tm A L b' L z = Tm A L b r s * Tm A L b L z - Tm A L b L s * Tm A L b r z := by
    rw [h.tm g (Nat.lt_succ_self L) z, g.tab.exact (by have := h.hr; omega) (Nat.lt_succ_self L) hne s z]
    exact g.tab.two (by have := h.hr; omega) (Nat.lt_succ_self L) hne s z
  have f := g.fea r h.hr
  have hn := h.neg
  have q : 0 ≤ (- Tm A L b L s) * Tm A L b r z := Int.mul_nonneg (by omega) f
  have q2 : (- Tm A L b L s) * Tm A L b r z = -(Tm A L b L s * Tm A L b r z) := Int.neg_mul _ _
  rw [h.dm g, Int.mul_comm (Tm A L b' L z), e1, Int.mul_comm (Tm A L b L z)]
  refine ⟨by omega, fun e => ?_⟩
  have z0 : (- Tm A L b L s) * Tm A L b r z = 0 := by omega
  rcases Int.mul_eq_zero.mp z0 with c | c
  · omega
  · exact c
/-- worth 0, or not in the basis -/
def Nil (A : Mat) (L z : Nat) (b : Nat → Nat) (v : Nat) : Prop := ∀ k, k < L → b k = v → Tm A L b k z = 0
theorem Step.nil (h : Step A L wide z b r s b') (g : Good A L z b) (h0 : Tm A L b r z = 0) {v : Nat} (hv : Nil A L z b v) : Nil A L z b' v := fun k hk e => by
  rw [h.tm g (by omega) z]
  rw [h.nxt] at e
  unfold pivT
  by_cases q : k = r
  · rw [if_pos q]; exact h0
  · have e' : b k = v := by
      have e2 : (if k = r then s else b k) = v := e
      rw [if_neg q] at e2; exact e2
    rw [if_neg q, hv k hk e', h0]; simp
end
end PL

namespace PL
theorem frac_le {a b c d e f : Int} (hb : 0 < b) (hd : 0 < d) (hf : 0 < f) (h1 : a * d ≤ c * b) (h2 : c * f ≤ e * d) : a * f ≤ e * b ∧ (a * d < c * b → a * f < e * b) := by
  have x1 : a * d * f ≤ c * b * f := Int.mul_le_mul_of_nonneg_right h1 (Int.le_of_lt hf)
  have x2 : c * f * b ≤ e * d * b := Int.mul_le_mul_of_nonneg_right h2 (Int.le_of_lt hb)
  have e1 : a * d * f = d * (a * f) := by grind
  have e2 : c * b * f = c * f * b := by grind
  have e3 : e * d * b = d * (e * b) := by grind
  refine ⟨Int.le_of_mul_le_mul_left (by omega : d * (a * f) ≤ d * (e * b)) hd, fun h => ?_⟩
  have x3 : a * d * f < c * b * f := Int.mul_lt_mul_of_pos_right h hf
  exact Int.lt_of_mul_lt_mul_left (by omega : d * (a * f) < d * (e * b)) (Int.le_of_lt hd)
/-- where something begins -/
theorem begins {P : Nat → Prop} {a : Nat} (h0 : ¬ P a) : ∀ n : Nat, P (a + n) → ∃ t, a ≤ t ∧ t < a + n ∧ ¬ P t ∧ P (t + 1)
  | 0, h => absurd h h0
  | n + 1, h => by
    by_cases q : P (a + n)
    · obtain ⟨t, t1, t2, t3⟩ := begins h0 n q
      exact ⟨t, t1, by omega, t3⟩
    · exact ⟨a + n, by omega, by omega, q, h⟩
/-- the greatest that comes -/
theorem greatest : ∀ (W : Nat) (s : Nat → Nat), (∀ t, s t < W) → ∃ t, ∀ u, s u ≤ s t
  | 0, s, h => absurd (h 0) (Nat.not_lt_zero _)
  | W + 1, s, h => by
    by_cases q : ∃ t, s t = W
    · obtain ⟨t, ht⟩ := q
      exact ⟨t, fun u => by have := h u; omega⟩
    · exact greatest W s fun t => by
        have := h t
        have : s t ≠ W := fun e => q ⟨t, e⟩
        omega
section
variable {A : Mat} {L wide z : Nat}
theorem Good.inj {b : Nat → Nat} (g : Good A L z b) {k l : Nat} (hk : k < L) (hl : l < L) (h : b k = b l) : k = l := by
  by_cases q : k = l
  · exact q
  · exfalso
    have := g.tab.pos
    have e : Dm A L b = 0 := det_alt (k := k) (l := l) (by omega) (by omega) q fun i _ => by
      unfold Bm
      rw [if_pos hk, if_pos hl, h]
    omega
/-- a walk that comes round -/
theorem no_round {b : Nat → Nat → Nat} {r s : Nat → Nat} {p : Nat} (g : ∀ t, Good A L z (b t)) (st : ∀ t, Step A L wide z (b t) (r t) (s t) (b (t + 1))) (hp : 0 < p) (per : ∀ t, b (t + p) = b t) : False := by
  -- the aim stays: each pivot moves nothing
  have aims : ∀ t n, Tm A L (b t) L z * Dm A L (b (t + n)) ≤ Tm A L (b (t + n)) L z * Dm A L (b t) := fun t n => by
    induction n with
    | zero => exact Int.le_refl _
    | succ n ih => exact (frac_le (g t).tab.pos (g (t + n)).tab.pos (g (t + n + 1)).tab.pos ih ((st (t + n)).aim (g (t + n))).1).1
  have still : ∀ t, Tm A L (b t) (r t) z = 0 := fun t => by
    refine ((st t).aim (g t)).2 ?_
    have h1 := ((st t).aim (g t)).1
    by_cases q : Tm A L (b t) L z * Dm A L (b (t + 1)) = Tm A L (b (t + 1)) L z * Dm A L (b t)
    · exact q
    · exfalso
      obtain ⟨n, rfl⟩ : ∃ n, p = 1 + n := ⟨p - 1, by omega⟩
      have h2 := aims (t + 1) n
      have e : t + 1 + n = t + (1 + n) := by omega
      rw [e, per t] at h2
      have := (frac_le (g t).tab.pos (g (t + 1)).tab.pos (g t).tab.pos h1 h2).2 (by omega)
      omega
  -- the greatest that enters
  obtain ⟨t2, hmax⟩ := greatest wide s fun t => (st t).hs
  have bas : ∀ t v, Tm A L (b t) L v ≠ 0 → ¬ ∃ k, k < L ∧ b t k = v := fun t v hv ⟨k, hk, e⟩ => hv (by rw [← e]; exact basic_zero hk (Nat.lt_succ_self L) (by omega))
  have n2 : ¬ ∃ k, k < L ∧ b t2 k = s t2 := bas t2 _ (by have := (st t2).neg; omega)
  have in2 : ∃ k, k < L ∧ b (t2 + 1) k = s t2 := ⟨r t2, (st t2).hr, by rw [(st t2).nxt]; exact if_pos rfl⟩
  -- it leaves again
  obtain ⟨t1, a1, a2, a3, a4⟩ := begins (P := fun t => ¬ ∃ k, k < L ∧ b t k = s t2) (a := t2 + 1) (fun h => h in2) (p - 1) (by
    have e : t2 + 1 + (p - 1) = t2 + p := by omega
    show ¬ ∃ k, k < L ∧ b (t2 + 1 + (p - 1)) k = s t2
    rw [e, per t2]; exact n2)
  have a3' : ∃ k, k < L ∧ b t1 k = s t2 := Classical.not_not.mp a3
  obtain ⟨k0, hk0, ek0⟩ := a3'
  have er : k0 = r t1 := by
    by_cases q : k0 = r t1
    · exact q
    · exfalso
      refine a4 ⟨k0, hk0, ?_⟩
      rw [(st t1).nxt]
      show (if k0 = r t1 then s t1 else b t1 k0) = s t2
      rw [if_neg q]; exact ek0
  rw [er] at ek0
  -- the two tables
  have id := two_tabs (c := b t2) (g t1) (s t1)
  have sne : s t1 ≠ s t2 := fun e => bas t1 (s t1) (by have := (st t1).neg; omega) ⟨r t1, (st t1).hr, by rw [e]; exact ek0⟩
  have slt : s t1 < s t2 := by have := hmax t1; omega
  have h2 := (st t2).first _ slt
  have h3 : 0 ≤ Dm A L (b t1) * Tm A L (b t2) L (s t1) := Int.mul_nonneg (Int.le_of_lt (g t1).tab.pos) h2
  have h4 : Tm A L (b t1) L (s t1) * Dm A L (b t2) < 0 := Int.mul_neg_of_neg_of_pos (st t1).neg (g t2).tab.pos
  obtain ⟨k, hk, hkp⟩ := sumN_pos (n := L) (f := fun k => Tm A L (b t1) k (s t1) * Tm A L (b t2) L (b t1 k)) (by omega)
  have hkp' : 0 < Tm A L (b t1) k (s t1) * Tm A L (b t2) L (b t1 k) := hkp
  have vne : Tm A L (b t2) L (b t1 k) ≠ 0 := fun e => by rw [e, Int.mul_zero] at hkp'; omega
  have nv := bas t2 (b t1 k) vne
  -- it entered between
  obtain ⟨u, u1, u2, u3, u4⟩ := begins (P := fun t => ∃ l, l < L ∧ b t l = b t1 k) (a := t2) nv (t1 - t2) (by
    have e : t2 + (t1 - t2) = t1 := by omega
    show ∃ l, l < L ∧ b (t2 + (t1 - t2)) l = b t1 k
    rw [e]; exact ⟨k, hk, rfl⟩)
  have ev : s u = b t1 k := by
    obtain ⟨l, hl, el⟩ := u4
    rw [(st u).nxt] at el
    have el' : (if l = r u then s u else b u l) = b t1 k := el
    by_cases q : l = r u
    · rw [if_pos q] at el'; exact el'
    · rw [if_neg q] at el'; exact absurd ⟨l, hl, el'⟩ u3
  have vle : b t1 k ≤ s t2 := by rw [← ev]; exact hmax u
  have vne2 : b t1 k ≠ s t2 := fun e => by
    have ek : k = r t1 := (g t1).inj hk (st t1).hr (by rw [e, ek0])
    have x1 := (st t1).pos
    have x2 := (st t2).neg
    rw [e, ek] at hkp'
    have := Int.mul_neg_of_pos_of_neg x1 x2
    omega
  have h5 := (st t2).first (b t1 k) (by omega)
  have h6 : 0 < Tm A L (b t1) k (s t1) := by
    by_cases q : 0 < Tm A L (b t1) k (s t1)
    · exact q
    · have := Int.mul_nonpos_of_nonpos_of_nonneg (show Tm A L (b t1) k (s t1) ≤ 0 by omega) h5
      omega
  -- both are worth 0
  have nil : ∀ n, Nil A L z (b (t2 + n)) (b t1 k) := fun n => by
    induction n with
    | zero => exact fun l hl e => absurd ⟨l, hl, e⟩ nv
    | succ n ih => exact (st (t2 + n)).nil (g (t2 + n)) (still (t2 + n)) ih
  have hz := nil (t1 - t2)
  rw [show t2 + (t1 - t2) = t1 by omega] at hz
  have z1 := hz k hk rfl
  have z2 := still t1
  rcases (st t1).least k hk h6 with c | ⟨_, c⟩
  · rw [z1, z2] at c; simp at c
  · rw [ek0] at c; omega
/-- a value that comes for ever -/
theorem for_ever {S : Nat → Prop} (hS : ∀ N, ∃ t, N ≤ t ∧ S t) (f : Nat → Nat) : ∀ (W N0 : Nat), (∀ t, N0 ≤ t → S t → f t < W) → ∃ v, ∀ N, ∃ t, N ≤ t ∧ S t ∧ f t = v
  | 0, N0, h => by
    obtain ⟨t, h1, h2⟩ := hS N0
    exact absurd (h t h1 h2) (Nat.not_lt_zero _)
  | W + 1, N0, h => by
    by_cases q : ∀ N, ∃ t, N ≤ t ∧ S t ∧ f t = W
    · exact ⟨W, q⟩
    · obtain ⟨N, hN⟩ := Classical.not_forall.mp q
      refine for_ever hS f W (max N N0) fun t ht hs => ?_
      have := h t (by omega) hs
      have : f t ≠ W := fun e => hN ⟨t, by omega, hs, e⟩
      omega
theorem all_for_ever (f : Nat → Nat → Nat) (W : Nat) (h : ∀ t k, f t k < W) : ∀ L : Nat, ∃ v : Nat → Nat, ∀ N, ∃ t, N ≤ t ∧ ∀ k, k < L → f t k = v k
  | 0 => ⟨fun _ => 0, fun N => ⟨N, Nat.le_refl _, fun k hk => absurd hk (Nat.not_lt_zero _)⟩⟩
  | L + 1 => by
    obtain ⟨v, hv⟩ := all_for_ever f W h L
    obtain ⟨w, hw⟩ := for_ever (S := fun t => ∀ k, k < L → f t k = v k) hv (fun t => f t L) W 0 fun t _ _ => h t L
    refine ⟨fun k => if k = L then w else v k, fun N => ?_⟩
    obtain ⟨t, t1, t2, t3⟩ := hw N
    refine ⟨t, t1, fun k hk => ?_⟩
    show f t k = (if k = L then w else v k)
    by_cases q : k = L
    · rw [if_pos q, q]; exact t3
    · rw [if_neg q]; exact t2 k (by omega)
/-- no walk goes on for ever -/
theorem no_walk {b : Nat → Nat → Nat} {r s : Nat → Nat} (g : Good A L z (b 0)) (st : ∀ t, Step A L wide z (b t) (r t) (s t) (b (t + 1))) : False := by
  have gs : ∀ t, Good A L z (b t) := fun t => by
    induction t with
    | zero => exact g
    | succ t ih => exact (st t).good ih
  -- beyond L nothing changes, below all is bounded
  have far : ∀ t k, L ≤ k → b t k = b 0 k := fun t k hk => by
    induction t with
    | zero => rfl
    | succ t ih =>
      rw [(st t).nxt]
      show (if k = r t then s t else b t k) = b 0 k
      rw [if_neg (by have := (st t).hr; omega)]
      exact ih
  obtain ⟨W, hW⟩ : ∃ W, ∀ k, k < L → b 0 k < W := by
    have : ∀ L : Nat, ∃ W, ∀ k, k < L → b 0 k < W := fun L => by
      induction L with
      | zero => exact ⟨0, fun k hk => absurd hk (Nat.not_lt_zero _)⟩
      | succ L ih =>
        obtain ⟨W, hW⟩ := ih
        refine ⟨max W (b 0 L + 1), fun k hk => ?_⟩
        by_cases q : k = L
        · rw [q]; omega
        · have := hW k (by omega); omega
    exact this L
  have low : ∀ t k, k < L → b t k < max W wide + 1 := fun t k hk => by
    induction t with
    | zero => have := hW k hk; omega
    | succ t ih =>
      rw [(st t).nxt]
      show (if k = r t then s t else b t k) < _
      split
      · have := (st t).hs; omega
      · exact ih
  obtain ⟨v, hv⟩ := all_for_ever (fun t k => if k < L then b t k else 0) (max W wide + 1) (fun t k => by
    show (if k < L then b t k else 0) < _
    split
    · rename_i hk; exact low t k hk
    · omega) L
  obtain ⟨i, _, hi⟩ := hv 0
  obtain ⟨j, hj, hj2⟩ := hv (i + 1)
  have eb : b j = b i := by
    funext k
    by_cases q : k < L
    · have h1 : (if k < L then b i k else 0) = v k := hi k q
      have h2 : (if k < L then b j k else 0) = v k := hj2 k q
      rw [if_pos q] at h1 h2
      rw [h1, h2]
    · rw [far j k (by omega), far i k (by omega)]
  -- go round and round
  have hp : 0 < j - i := by omega
  have nx : ∀ t, b (i + (t + 1) % (j - i)) = b (i + t % (j - i) + 1) := fun t => by
    by_cases q : t % (j - i) + 1 = j - i
    · have e1 : (t + 1) % (j - i) = 0 := by rw [Nat.add_mod, ← Nat.mod_add_mod]; simp [q]
      rw [e1, show i + t % (j - i) + 1 = j by omega, eb]; rfl
    · have lt := Nat.mod_lt t hp
      have e1 : (t + 1) % (j - i) = t % (j - i) + 1 := by
        rw [← Nat.mod_add_mod]
        exact Nat.mod_eq_of_lt (by omega)
      rw [e1]; rfl
  refine no_round (wide := wide) (b := fun t => b (i + t % (j - i))) (r := fun t => r (i + t % (j - i))) (s := fun t => s (i + t % (j - i))) (p := j - i) (fun t => gs _) (fun t => ?_) hp fun t => ?_
  · show Step A L wide z (b (i + t % (j - i))) (r (i + t % (j - i))) (s (i + t % (j - i))) (b (i + (t + 1) % (j - i)))
    rw [nx t]
    exact st _
  · show b (i + (t + (j - i)) % (j - i)) = b (i + t % (j - i))
    rw [Nat.add_mod_right]
end
end PL

namespace PL
/-! ## the table: what it begins with, what its end tells -/
theorem sumN_comm (f : Nat → Nat → Int) (m : Nat) : ∀ n : Nat, (sumN n fun i => sumN m fun k => f i k) = sumN m fun k => sumN n fun i => f i k
  | 0 => (sumN_zero fun _ _ => rfl).symm
  | n + 1 => by
    show (sumN n fun i => sumN m fun k => f i k) + (sumN m fun k => f n k) = sumN m fun k => (sumN n fun i => f i k) + f n k
    rw [sumN_comm f m n]
    have := sumN_lin (f := fun k => (sumN n fun i => f i k) + f n k) (g := fun k => sumN n fun i => f i k) (h := fun k => f n k) (a := 1) (b := 1) (n := m) fun k _ => by simp
    rw [this]; simp
theorem sumN_mul {f : Nat → Int} {a : Int} (n : Nat) : (sumN n fun k => a * f k) = a * sumN n f := by
  have := sumN_lin (f := fun k => a * f k) (g := f) (h := f) (a := a) (b := 0) (n := n) fun k _ => by simp
  rw [this]; simp
theorem sumN_neg {f : Nat → Int} (n : Nat) : (sumN n fun k => - f k) = - sumN n f := by
  have := sumN_mul (f := f) (a := -1) n
  rw [show (fun k => - f k) = fun k => -1 * f k from funext fun k => by simp, this]; simp
theorem sumN_nonneg {f : Nat → Int} : ∀ {n : Nat}, (∀ k, k < n → 0 ≤ f k) → 0 ≤ sumN n f
  | 0, _ => Int.le_refl _
  | n + 1, h => by
    show 0 ≤ sumN n f + f n
    have a := sumN_nonneg fun k hk => h k (Nat.lt_succ_of_lt hk)
    have b := h n (Nat.lt_succ_self n)
    omega
theorem sumN_nil {f : Nat → Int} : ∀ {n : Nat}, (∀ k, k < n → 0 ≤ f k) → sumN n f = 0 → ∀ k, k < n → f k = 0
  | 0, _, _, k, hk => absurd hk (Nat.not_lt_zero _)
  | n + 1, h, hs, k, hk => by
    have hs' : sumN n f + f n = 0 := hs
    have a := sumN_nonneg fun k hk => h k (Nat.lt_succ_of_lt hk)
    have b := h n (Nat.lt_succ_self n)
    by_cases q : k = n
    · rw [q]; omega
    · exact sumN_nil (fun k hk => h k (Nat.lt_succ_of_lt hk)) (by omega) k (by omega)
theorem det_at {n k : Nat} (v : Nat → Int) (hk : k < n) : det n (up unitc k v) = v k := by
  have e : det n (up unitc k v) = det n (up unitc k fun i => sumN n fun l => v l * unitc l i) := det_congr fun l hl i hi => by
    by_cases q : l = k
    · subst q
      rw [up_same, up_same, sumN_one (k := i) hi fun x hx hne => ?_]
      · unfold unitc; rw [if_pos rfl, Int.mul_one]
      · unfold unitc; rw [if_neg hne, Int.mul_zero]
    · rw [up_ne _ q, up_ne _ q]
  rw [e, det_sum hk, sumN_one (k := k) hk fun l hl hne => ?_]
  · rw [up_id, det_unit, Int.mul_one]
  · rw [det_alt (k := k) (l := l) hk hl (fun e => hne e.symm) fun i _ => ?_, Int.mul_zero]
    rw [up_same, up_ne _ hne]
/-- columns below wide, then one of its own for each line, then what is wanted; the last place of each: the cost -/
structure Tbl (A : Mat) (L wide : Nat) : Prop where
  sl : ∀ k, k < L → ∀ i, i < L + 1 → A (wide + k) i = unitc k i
  co : ∀ j, (j < wide ∨ j = wide + L) → A j L = - sumN L fun i => A j i
  rh : ∀ i, i < L → 0 ≤ A (wide + L) i
section
variable {A : Mat} {L wide : Nat} {b : Nat → Nat}
theorem Tbl.good (t : Tbl A L wide) : Good A L (wide + L) (fun k => wide + k) := by
  have eB : ∀ k, k < L + 1 → ∀ i, i < L + 1 → Bm A L (fun k => wide + k) k i = unitc k i := fun k hk i hi => by
    unfold Bm
    by_cases q : k < L
    · rw [if_pos q]; exact t.sl k q i hi
    · rw [if_neg q, show k = L by omega]
  have eD : Dm A L (fun k => wide + k) = 1 := (det_congr eB).trans (det_unit _)
  have eT : ∀ k, k < L + 1 → ∀ j, Tm A L (fun k => wide + k) k j = A j k := fun k hk j => by
    refine (det_congr (E := up unitc k (A j)) fun l hl i hi => ?_).trans (det_at (A j) hk)
    by_cases q : l = k
    · subst q; rw [up_same, up_same]
    · rw [up_ne _ q, up_ne _ q]; exact eB l hl i hi
  refine ⟨⟨rfl, by rw [eD]; decide, fun _ _ _ => rfl, fun j i hi => ?_⟩, fun k hk => by rw [eT k (by omega)]; exact t.rh k hk⟩
  rw [eD, Int.one_mul]
  rw [sumN_congr (g := fun k => A j k * unitc k i) fun k hk => by rw [eT k hk, eB k hk i hi]]
  rw [sumN_one (k := i) hi fun l hl hne => ?_]
  · unfold unitc; rw [if_pos rfl, Int.mul_one]
  · unfold unitc; rw [if_neg hne, Int.mul_zero]
/-- all places of a column together -/
theorem Tbl.whole (t : Tbl A L wide) {j : Nat} (hj : j < wide ∨ j = wide + L) : (sumN (L + 1) fun i => A j i) = 0 := by
  show (sumN L fun i => A j i) + A j L = 0
  rw [t.co j hj]; omega
def isSl (wide : Nat) (v : Nat) : Int := if wide ≤ v then 1 else 0
/-- the aim's row is what the own columns' rows come to -/
theorem Tbl.aim (t : Tbl A L wide) (g : Good A L (wide + L) b) (hb : ∀ k, k < L → b k < wide + L) {j : Nat} (hj : j < wide ∨ j = wide + L) : Tm A L b L j = - sumN L fun k => isSl wide (b k) * Tm A L b k j := by
  have h1 : (sumN (L + 1) fun i => Dm A L b * A j i) = 0 := by rw [sumN_mul, t.whole hj, Int.mul_zero]
  have h2 : (sumN (L + 1) fun i => Dm A L b * A j i) = sumN (L + 1) fun k => sumN (L + 1) fun i => Tm A L b k j * Bm A L b k i := by
    rw [← sumN_comm]
    exact sumN_congr fun i hi => g.tab.cr j i hi
  have h3 : ∀ k, k < L → (sumN (L + 1) fun i => Tm A L b k j * Bm A L b k i) = isSl wide (b k) * Tm A L b k j := fun k hk => by
    rw [sumN_mul]
    have e : Bm A L b k = A (b k) := by unfold Bm; rw [if_pos hk]
    rw [e]
    unfold isSl
    by_cases q : wide ≤ b k
    · rw [if_pos q, Int.one_mul]
      obtain ⟨l, hl⟩ : ∃ l, b k = wide + l := ⟨b k - wide, by omega⟩
      have hl' : l < L := by have := hb k hk; omega
      rw [hl, sumN_one (k := l) (by omega) fun x hx hne => ?_]
      · rw [t.sl l hl' l (by omega)]; unfold unitc; rw [if_pos rfl, Int.mul_one]
      · rw [t.sl l hl' x hx]; unfold unitc; rw [if_neg fun e => hne e.symm]
    · rw [if_neg q, t.whole (.inl (by omega)), Int.mul_zero, Int.zero_mul]
  have h4 : (sumN (L + 1) fun i => Tm A L b L j * Bm A L b L i) = Tm A L b L j := by
    rw [sumN_mul]
    have e : Bm A L b L = unitc L := by unfold Bm; rw [if_neg (Nat.lt_irrefl L)]
    rw [e, sumN_one (k := L) (Nat.lt_succ_self L) fun x hx hne => ?_]
    · unfold unitc; rw [if_pos rfl, Int.mul_one]
    · unfold unitc; rw [if_neg fun e => hne e.symm]
  rw [h2] at h1
  have h5 : (sumN L fun k => sumN (L + 1) fun i => Tm A L b k j * Bm A L b k i) + (sumN (L + 1) fun i => Tm A L b L j * Bm A L b L i) = 0 := h1
  rw [sumN_congr h3, h4] at h5
  omega
/-- a row to leave by -/
theorem Tbl.leave (t : Tbl A L wide) (g : Good A L (wide + L) b) (hb : ∀ k, k < L → b k < wide + L) {s : Nat} (hs : s < wide) (hn : Tm A L b L s < 0) : ∃ k, k < L ∧ 0 < Tm A L b k s := by
  have := t.aim g hb (j := s) (.inl hs)
  obtain ⟨k, hk, hp⟩ := sumN_pos (n := L) (f := fun k => isSl wide (b k) * Tm A L b k s) (by omega)
  refine ⟨k, hk, ?_⟩
  have hp' : 0 < isSl wide (b k) * Tm A L b k s := hp
  unfold isSl at hp'
  split at hp'
  · simpa using hp'
  · simp at hp'
theorem Tbl.low (t : Tbl A L wide) (g : Good A L (wide + L) b) (hb : ∀ k, k < L → b k < wide + L) : Tm A L b L (wide + L) ≤ 0 ∧ (Tm A L b L (wide + L) = 0 → ∀ k, k < L → wide ≤ b k → Tm A L b k (wide + L) = 0) := by
  have e := t.aim g hb (j := wide + L) (.inr rfl)
  have nn : ∀ k, k < L → 0 ≤ isSl wide (b k) * Tm A L b k (wide + L) := fun k hk => by
    unfold isSl
    split
    · rw [Int.one_mul]; exact g.fea k hk
    · rw [Int.zero_mul]; exact Int.le_refl _
  have := sumN_nonneg nn
  refine ⟨by omega, fun h k hk hw => ?_⟩
  have z := sumN_nil nn (by omega) k hk
  unfold isSl at z
  rw [if_pos hw, Int.one_mul] at z
  exact z
/-- the aim's row told by weights: D - what stands in the own columns -/
theorem Tbl.dual (t : Tbl A L wide) {j : Nat} (hj : j < wide ∨ j = wide + L) : Tm A L b L j = - sumN L fun i => (Dm A L b - Tm A L b L (wide + i)) * A j i := by
  have e : Tm A L b L j = det (L + 1) (up (Bm A L b) L fun i => sumN (L + 1) fun l => A j l * unitc l i) := det_congr fun l hl i hi => by
    by_cases q : l = L
    · subst q
      rw [up_same, up_same, sumN_one (k := i) hi fun x hx hne => ?_]
      · unfold unitc; rw [if_pos rfl, Int.mul_one]
      · unfold unitc; rw [if_neg hne, Int.mul_zero]
    · rw [up_ne _ q, up_ne _ q]
  rw [e, det_sum (Nat.lt_succ_self L)]
  show (sumN L fun l => A j l * det (L + 1) (up (Bm A L b) L (unitc l))) + A j L * det (L + 1) (up (Bm A L b) L (unitc L)) = _
  have eL : det (L + 1) (up (Bm A L b) L (unitc L)) = Dm A L b := by
    have : unitc L = Bm A L b L := by unfold Bm; rw [if_neg (Nat.lt_irrefl L)]
    rw [this, up_id]; rfl
  have eS : ∀ l, l < L → det (L + 1) (up (Bm A L b) L (unitc l)) = Tm A L b L (wide + l) := fun l hl => det_congr fun x hx i hi => by
    by_cases q : x = L
    · subst q; rw [up_same, up_same, t.sl l hl i hi]
    · rw [up_ne _ q, up_ne _ q]
  rw [eL, t.co j hj]
  rw [sumN_congr (g := fun l => Tm A L b L (wide + l) * A j l) fun l hl => by rw [eS l hl, Int.mul_comm]]
  have e2 := sumN_lin (f := fun i => (Dm A L b - Tm A L b L (wide + i)) * A j i) (g := fun i => A j i) (h := fun i => Tm A L b L (wide + i) * A j i) (a := Dm A L b) (b := -1) (n := L) fun i _ => by grind
  rw [e2]
  grind
/-- what is wanted, told by the basis -/
theorem Tbl.primal (t : Tbl A L wide) (g : Good A L (wide + L) b) (hb : ∀ k, k < L → b k < wide + L) (h0 : Tm A L b L (wide + L) = 0) {i : Nat} (hi : i < L) :
    Dm A L b * A (wide + L) i = sumN L fun k => Tm A L b k (wide + L) * A (b k) i := by
  rw [g.tab.cr (wide + L) i (by omega)]
  show (sumN L fun k => Tm A L b k (wide + L) * Bm A L b k i) + Tm A L b L (wide + L) * Bm A L b L i = _
  rw [h0, Int.zero_mul, Int.add_zero]
  refine sumN_congr fun k hk => ?_
  unfold Bm
  rw [if_pos hk]
end
/-! ### how great it gets -/
def fac : Nat → Nat | 0 => 1 | n + 1 => (n + 1) * fac n
theorem sumN_abs {f : Nat → Int} {M : Nat} : ∀ {n : Nat}, (∀ k, k < n → (f k).natAbs ≤ M) → (sumN n f).natAbs ≤ n * M
  | 0, _ => Nat.zero_le _
  | n + 1, h => by
    show (sumN n f + f n).natAbs ≤ (n + 1) * M
    have a := sumN_abs fun k hk => h k (Nat.lt_succ_of_lt hk)
    have b := h n (Nat.lt_succ_self n)
    have c := Int.natAbs_add_le (sumN n f) (f n)
    rw [Nat.succ_mul]
    omega
theorem det_abs {M : Nat} : ∀ {n : Nat} {C : Mat}, (∀ k, k < n → ∀ i, i < n → (C k i).natAbs ≤ M) → (det n C).natAbs ≤ fac n * M ^ n
  | 0, _, _ => by show (1 : Int).natAbs ≤ 1 * M ^ 0; simp
  | n + 1, C, h => by
    have hh : ∀ k, k < n + 1 → (sgn k * C k 0 * det n (dropc k C)).natAbs ≤ M * (fac n * M ^ n) := fun k hk => by
      rw [Int.natAbs_mul, Int.natAbs_mul]
      have s1 : (sgn k).natAbs = 1 := by unfold sgn; split <;> rfl
      rw [s1, Nat.one_mul]
      refine Nat.mul_le_mul (h k hk 0 (Nat.succ_pos n)) (det_abs fun l hl i hi => ?_)
      unfold dropc
      split
      · exact h l (by omega) (i + 1) (by omega)
      · exact h (l + 1) (by omega) (i + 1) (by omega)
    refine Nat.le_trans (sumN_abs hh) ?_
    show (n + 1) * (M * (fac n * M ^ n)) ≤ (n + 1) * fac n * M ^ (n + 1)
    rw [Nat.pow_succ]
    have : (n + 1) * (M * (fac n * M ^ n)) = (n + 1) * fac n * (M ^ n * M) := by
      simp only [Nat.mul_assoc, Nat.mul_comm, Nat.mul_left_comm]
    omega
end PL

namespace PL
open PySem
/-! ## solved: the mirrors say the theory -/
theorem mul_e {e : Nat} {a b : Int} (he : e + e < 1000000) (ha : a.natAbs < 2 ^ e) (hb : b.natAbs < 2 ^ e) : opMul (.int a) (.int b) = .ok (.int (a * b)) := by
  refine if_pos ?_
  unfold mulB
  have h1 : a.natAbs.log2 < e ∨ a.natAbs.log2 = 0 := by
    by_cases h : a.natAbs = 0
    · right; rw [h]; decide
    · exact .inl ((Nat.log2_lt h).mpr ha)
  have h2 : b.natAbs.log2 < e ∨ b.natAbs.log2 = 0 := by
    by_cases h : b.natAbs = 0
    · right; rw [h]; decide
    · exact .inl ((Nat.log2_lt h).mpr hb)
  rw [decide_eq_true (show a.natAbs.log2 + b.natAbs.log2 < 1000000 by omega), Bool.or_true]
theorem div_e {e : Nat} {a b : Int} (he : e ≤ 9000) (hb : 0 < b) (hb2 : b.natAbs < 2 ^ e) : opDiv (.int a) (.int b) = .ok (.int (a / b)) := if_pos ⟨hb, by
  have := (Nat.log2_lt (show b.natAbs ≠ 0 by omega)).mpr hb2
  omega⟩
/-- a row of W numbers, n rows -/
def rowW (W : Nat) (f : Nat → Int) : List Int := (List.range W).map f
def tabW (n W : Nat) (T : Mat) : List D := (List.range n).map fun k => intL (rowW W (T k))
theorem rowW_len {W : Nat} {f : Nat → Int} : (rowW W f).length = W := by unfold rowW; rw [List.length_map, List.length_range]
theorem tabW_len {n W : Nat} {T : Mat} : (tabW n W T).length = n := by unfold tabW; rw [List.length_map, List.length_range]
theorem rowW_ix {W : Nat} {f : Nat → Int} {j : Nat} (h : j < W) : opIx (intL (rowW W f)) (.int (j : Int)) = .ok (.int (f j)) := by
  obtain ⟨z, h1, _, h3⟩ := ix_ints (xs := rowW W f) (k := (j : Int)) (by omega) (by rw [rowW_len]; omega)
  rw [h3]
  unfold rowW at h1
  rw [Int.toNat_natCast, List.getElem?_map, List.getElem?_range h] at h1
  cases h1; rfl
theorem rowW_last {W : Nat} {f : Nat → Int} : opIx (intL (rowW (W + 1) f)) (.int (-1)) = .ok (.int (f W)) := by
  unfold rowW
  show opIx (.list (((List.range (W + 1)).map f).map .int)) _ = _
  rw [List.range_succ, List.map_append, List.map_append]
  exact ix_last _ _
theorem tabW_ix {n W : Nat} {T : Mat} {k : Nat} (h : k < n) : opIx (.list (tabW n W T)) (.int (k : Int)) = .ok (intL (rowW W (T k))) := by
  obtain ⟨d, h1, _, h3⟩ := ix_list (xs := tabW n W T) (k := (k : Int)) (by omega) (by rw [tabW_len]; omega)
  rw [h3]
  unfold tabW at h1
  rw [Int.toNat_natCast, List.getElem?_map, List.getElem?_range h] at h1
  cases h1; rfl
theorem tabW_last {n W : Nat} {T : Mat} : opIx (.list (tabW (n + 1) W T)) (.int (-1)) = .ok (intL (rowW W (T n))) := by
  unfold tabW
  rw [List.range_succ, List.map_append]
  exact ix_last _ _
theorem rng_range (n : Nat) : rng 0 (n : Int) = (List.range n).map fun (k : Nat) => PyData.int (k : Int) := by
  unfold rng
  rw [show ((n : Int) - 0).toNat = n by omega]
  refine List.map_congr_left fun k _ => ?_
  rw [Int.zero_add]
theorem ir1n {f : EF} {e : Env} {n : Nat} (h : f e = .ok (.int (n : Int))) (h2 : n ≤ 1000000) : iR1 f e = .ok ((List.range n).map fun (k : Nat) => PyData.int (k : Int)) := by
  rw [ir1 h (by omega) (by omega), rng_range]
/-- entering: the first place below 0 -/
theorem m_entering_ok {W wide : Nat} {f : Nat → Int} (hw : wide ≤ W) (hW : W ≤ 100000) :
    (∃ j, j < wide ∧ f j < 0 ∧ (∀ i, i < j → 0 ≤ f i) ∧ m_entering [intL (rowW W f), .int (wide : Int)] = .ok (.int (j : Int))) ∨ ((∀ i, i < wide → 0 ≤ f i) ∧ m_entering [intL (rowW W f), .int (wide : Int)] = .ok .none) := by
  have key : ∀ (m i : Nat) (v : SV), i + m = wide → (∀ l, l < i → 0 ≤ f l) →
      (∃ j, j < wide ∧ f j < 0 ∧ (∀ l, l < j → 0 ≤ f l) ∧ fLoop (gN 2) (sIf (qV (e2 opLt (e2 opIx (eB 0) (eV 2)) (eK (.int 0)))) (sRet (eV 2)) sNil) (((List.range wide).drop i).map fun (k : Nat) => PyData.int (k : Int)) [.sh (intL (rowW W f)), .sh (.int (wide : Int)), v] = .ret (.int (j : Int))) ∨
      ((∀ l, l < wide → 0 ≤ f l) ∧ ∃ v', fLoop (gN 2) (sIf (qV (e2 opLt (e2 opIx (eB 0) (eV 2)) (eK (.int 0)))) (sRet (eV 2)) sNil) (((List.range wide).drop i).map fun (k : Nat) => PyData.int (k : Int)) [.sh (intL (rowW W f)), .sh (.int (wide : Int)), v] = .next [.sh (intL (rowW W f)), .sh (.int (wide : Int)), v']) := fun m => by
    induction m with
    | zero =>
      intro i v hi h
      right
      refine ⟨fun l hl => h l (by omega), v, ?_⟩
      rw [List.drop_eq_nil_of_le (by rw [List.length_range]; omega)]; rfl
    | succ m ih =>
      intro i v hi h
      have hlt : i < wide := by omega
      have e1 : (List.range wide).drop i = i :: (List.range wide).drop (i + 1) := by
        rw [List.drop_eq_getElem_cons (by rw [List.length_range]; exact hlt), List.getElem_range]
      rw [e1, List.map_cons]
      have hb : sIf (qV (e2 opLt (e2 opIx (eB 0) (eV 2)) (eK (.int 0)))) (sRet (eV 2)) sNil [.sh (intL (rowW W f)), .sh (.int (wide : Int)), .sh (.int (i : Int))] = if decide (f i < 0) then .ret (.int (i : Int)) else .next [.sh (intL (rowW W f)), .sh (.int (wide : Int)), .sh (.int (i : Int))] :=
        (if_b (qv (op2 (op2 rfl rfl (rowW_ix (by omega))) rfl rfl))).trans rfl
      have ef : ∀ rest, fLoop (gN 2) (sIf (qV (e2 opLt (e2 opIx (eB 0) (eV 2)) (eK (.int 0)))) (sRet (eV 2)) sNil) (.int (i : Int) :: rest) [.sh (intL (rowW W f)), .sh (.int (wide : Int)), v] = (match sIf (qV (e2 opLt (e2 opIx (eB 0) (eV 2)) (eK (.int 0)))) (sRet (eV 2)) sNil [.sh (intL (rowW W f)), .sh (.int (wide : Int)), .sh (.int (i : Int))] with
        | .next e' => fLoop (gN 2) (sIf (qV (e2 opLt (e2 opIx (eB 0) (eV 2)) (eK (.int 0)))) (sRet (eV 2)) sNil) rest e'
        | .cont e' => fLoop (gN 2) (sIf (qV (e2 opLt (e2 opIx (eB 0) (eV 2)) (eK (.int 0)))) (sRet (eV 2)) sNil) rest e'
        | .brk e' => .next e'
        | .ret d => .ret d
        | .err c => .err c
        | .stk => .stk) := fun _ => rfl
      rw [ef, hb]
      by_cases q : f i < 0
      · left
        refine ⟨i, hlt, q, h, ?_⟩
        rw [decide_eq_true q]; rfl
      · rw [decide_eq_false q]
        exact ih (i + 1) (.sh (.int (i : Int))) (by omega) fun l hl => by
          by_cases z : l = i
          · rw [z]; omega
          · exact h l (by omega)
  have hit : iR1 (eV 1) [.sh (intL (rowW W f)), .sh (.int (wide : Int)), .no] = .ok (((List.range wide).drop 0).map fun (k : Nat) => PyData.int (k : Int)) := by
    rw [List.drop_zero]; exact ir1n rfl (by omega)
  rcases key wide 0 .no (by omega) (fun l hl => absurd hl (Nat.not_lt_zero _)) with ⟨j, h1, h2, h3, h4⟩ | ⟨h1, v', h2⟩
  · exact .inl ⟨j, h1, h2, h3, fn_ret (seq_ret (for_ok hit h4))⟩
  · exact .inr ⟨h1, fn_ret ((seq_next (for_ok hit h2)).trans (ret_ok rfl))⟩
end PL

namespace PL
open PySem
/-- the ratio of row r is no greater than that of row k; of the alike the basis' lesser place -/
def Le (T : Mat) (b : Nat → Nat) (z s r k : Nat) : Prop := T r z * T k s < T k z * T r s ∨ (T r z * T k s = T k z * T r s ∧ b r ≤ b k)
theorem frac_lt2 {a b c d e f : Int} (hb : 0 < b) (hd : 0 < d) (hf : 0 < f) (h1 : a * d ≤ c * b) (h2 : c * f < e * d) : a * f < e * b := by
  have x1 : a * d * f ≤ c * b * f := Int.mul_le_mul_of_nonneg_right h1 (Int.le_of_lt hf)
  have x2 : c * f * b < e * d * b := Int.mul_lt_mul_of_pos_right h2 hb
  have e1 : a * d * f = d * (a * f) := by grind
  have e2 : c * b * f = c * f * b := by grind
  have e3 : e * d * b = d * (e * b) := by grind
  exact Int.lt_of_mul_lt_mul_left (by omega : d * (a * f) < d * (e * b)) (Int.le_of_lt hd)
theorem Le.trans {T : Mat} {b : Nat → Nat} {z s i r k : Nat} (hi : 0 < T i s) (hr : 0 < T r s) (hk : 0 < T k s) (h1 : Le T b z s i r) (h2 : Le T b z s r k) : Le T b z s i k := by
  have l1 : T i z * T r s ≤ T r z * T i s := by rcases h1 with h | ⟨h, _⟩ <;> omega
  have l2 : T r z * T k s ≤ T k z * T r s := by rcases h2 with h | ⟨h, _⟩ <;> omega
  have l3 := frac_le hi hr hk l1 l2
  rcases h1 with h | ⟨h, hb1⟩
  · exact .inl (l3.2 h)
  · rcases h2 with h' | ⟨h', hb2⟩
    · exact .inl (frac_lt2 hi hr hk l1 h')
    · by_cases q : T i z * T k s < T k z * T i s
      · exact .inl q
      · exact .inr ⟨by have := l3.1; omega, by omega⟩
theorem range_get {n i : Nat} (h : i < ((List.range n).map fun (k : Nat) => PyData.int (k : Int)).length) : ((List.range n).map fun (k : Nat) => PyData.int (k : Int))[i] = .int (i : Int) := by
  rw [List.getElem_map, List.getElem_range]
theorem m_leaving_ok {L W e : Nat} {T : Mat} {b : Nat → Nat} {s : Nat} (he : e + e < 1000000) (hL : L ≤ 1000) (hs : s < W + 1) (hT : ∀ k, k < L + 1 → ∀ j, j < W + 1 → (T k j).natAbs < 2 ^ e) (ex : ∃ k, k < L ∧ 0 < T k s) :
    ∃ r, r < L ∧ 0 < T r s ∧ (∀ k, k < L → 0 < T k s → Le T b W s r k) ∧ m_leaving [.list (tabW (L + 1) (W + 1) T), .int (s : Int), intL (rowW L fun k => (b k : Int))] = .ok (.int (r : Int)) := by
  obtain ⟨e', f1, v3, v4, v5, v6, f2, f3⟩ := fLoop_inv (g := gN 4) (b := sIf (qV (e2 opGt (e2 opIx (e2 opIx (eB 0) (eV 4)) (eV 1)) (eK (.int 0)))) (sIf (qV (e2 opIs (eB 3) (eK .none))) (sSet (gN 3) (eV 4)) (sSeq (sSet (gN 5) (e2 opMul (e2 opIx (e2 opIx (eB 0) (eV 4)) (e1 opNeg (eK (.int 1)))) (e2 opIx (e2 opIx (eB 0) (eV 3)) (eV 1))))
  (sSeq (sSet (gN 6) (e2 opMul (e2 opIx (e2 opIx (eB 0) (eV 3)) (e1 opNeg (eK (.int 1)))) (e2 opIx (e2 opIx (eB 0) (eV 4)) (eV 1))))
  (sIf (qOr (qV (e2 opLt (eB 5) (eB 6))) (qAnd (qV (e2 opEq (eB 5) (eB 6))) (qV (e2 opLt (e2 opIx (eB 2) (eV 4)) (e2 opIx (eB 2) (eV 3)))))) (sSet (gN 3) (eV 4)) sNil)))) sNil)
    (fun i e => ∃ (v3 : D) (v4 v5 v6 : SV), e = [.sh (.list (tabW (L + 1) (W + 1) T)), .sh (.int (s : Int)), .sh (intL (rowW L fun k => (b k : Int))), .sh v3, v4, v5, v6] ∧
      ((v3 = .none ∧ ∀ k, k < i → ¬ 0 < T k s) ∨ ∃ r : Nat, v3 = .int (r : Int) ∧ r < i ∧ 0 < T r s ∧ ∀ k, k < i → 0 < T k s → Le T b W s r k))
    (xs := (List.range L).map fun (k : Nat) => PyData.int (k : Int)) (e := [.sh (.list (tabW (L + 1) (W + 1) T)), .sh (.int (s : Int)), .sh (intL (rowW L fun k => (b k : Int))), .sh .none, .no, .no, .no]) ⟨.none, .no, .no, .no, rfl, .inl ⟨rfl, fun k hk => absurd hk (Nat.not_lt_zero _)⟩⟩ fun i hi e ⟨v3, v4, v5, v6, h1, h2⟩ => by
      subst h1
      have hiL : i < L := by rw [List.length_map, List.length_range] at hi; exact hi
      have cell : ∀ k, k < L + 1 → ∀ j, j < W + 1 → opIx (.list (tabW (L + 1) (W + 1) T)) (.int (k : Int)) = .ok (intL (rowW (W + 1) (T k))) ∧ opIx (intL (rowW (W + 1) (T k))) (.int (j : Int)) = .ok (.int (T k j)) := fun k hk j hj => ⟨tabW_ix hk, rowW_ix hj⟩
      have q0 : qV (e2 opGt (e2 opIx (e2 opIx (eB 0) (eV 4)) (eV 1)) (eK (.int 0))) [.sh (.list (tabW (L + 1) (W + 1) T)), .sh (.int (s : Int)), .sh (intL (rowW L fun k => (b k : Int))), .sh v3, .sh (.int (i : Int)), v5, v6] = .ok (decide (0 < T i s)) :=
        qv (op2 (op2 (op2 rfl rfl (cell i (by omega) s hs).1) rfl (cell i (by omega) s hs).2) rfl rfl)
      rw [range_get]
      by_cases c : 0 < T i s
      · rcases h2 with ⟨rfl, hn⟩ | ⟨r, rfl, hr, hp, hl⟩
        · refine ⟨_, _, rfl, (if_t (q0.trans (by rw [decide_eq_true c]))).trans ((if_t (qv (op2 rfl rfl rfl))).trans (set_ok rfl)), .int (i : Int), .sh (.int (i : Int)), v5, v6, rfl, .inr ⟨i, rfl, Nat.lt_succ_self i, c, fun k hk hkp => ?_⟩⟩
          by_cases z : k = i
          · rw [z]; exact .inr ⟨rfl, Nat.le_refl _⟩
          · exact absurd hkp (hn k (by omega))
        · have hrL : r < L := by omega
          have m1 := mul_e he (hT i (by omega) W (by omega)) (hT r (by omega) s hs)
          have m2 := mul_e he (hT r (by omega) W (by omega)) (hT i (by omega) s hs)
          have q3 : qOr (qV (e2 opLt (eB 5) (eB 6))) (qAnd (qV (e2 opEq (eB 5) (eB 6))) (qV (e2 opLt (e2 opIx (eB 2) (eV 4)) (e2 opIx (eB 2) (eV 3))))) [.sh (.list (tabW (L + 1) (W + 1) T)), .sh (.int (s : Int)), .sh (intL (rowW L fun k => (b k : Int))), .sh (.int (r : Int)), .sh (.int (i : Int)), .sh (.int (T i W * T r s)), .sh (.int (T r W * T i s))] =
              .ok (decide (T i W * T r s < T r W * T i s) || (decide (T i W * T r s = T r W * T i s) && decide ((b i : Int) < (b r : Int)))) :=
            qor (qv (op2 rfl rfl rfl)) fun _ => qand (qv (op2 rfl rfl (eq_int _ _))) fun _ => qv (op2 (op2 rfl rfl (rowW_ix hiL)) (op2 rfl rfl (rowW_ix hrL)) rfl)
          have go : ∀ (kk : Bool) (o : Out), (decide (T i W * T r s < T r W * T i s) || (decide (T i W * T r s = T r W * T i s) && decide ((b i : Int) < (b r : Int)))) = kk →
              (if kk then Out.next [.sh (.list (tabW (L + 1) (W + 1) T)), .sh (.int (s : Int)), .sh (intL (rowW L fun k => (b k : Int))), .sh (.int (i : Int)), .sh (.int (i : Int)), .sh (.int (T i W * T r s)), .sh (.int (T r W * T i s))] else Out.next [.sh (.list (tabW (L + 1) (W + 1) T)), .sh (.int (s : Int)), .sh (intL (rowW L fun k => (b k : Int))), .sh (.int (r : Int)), .sh (.int (i : Int)), .sh (.int (T i W * T r s)), .sh (.int (T r W * T i s))]) = o →
              sIf (qV (e2 opGt (e2 opIx (e2 opIx (eB 0) (eV 4)) (eV 1)) (eK (.int 0)))) (sIf (qV (e2 opIs (eB 3) (eK .none))) (sSet (gN 3) (eV 4)) (sSeq (sSet (gN 5) (e2 opMul (e2 opIx (e2 opIx (eB 0) (eV 4)) (e1 opNeg (eK (.int 1)))) (e2 opIx (e2 opIx (eB 0) (eV 3)) (eV 1))))
  (sSeq (sSet (gN 6) (e2 opMul (e2 opIx (e2 opIx (eB 0) (eV 3)) (e1 opNeg (eK (.int 1)))) (e2 opIx (e2 opIx (eB 0) (eV 4)) (eV 1))))
  (sIf (qOr (qV (e2 opLt (eB 5) (eB 6))) (qAnd (qV (e2 opEq (eB 5) (eB 6))) (qV (e2 opLt (e2 opIx (eB 2) (eV 4)) (e2 opIx (eB 2) (eV 3)))))) (sSet (gN 3) (eV 4)) sNil)))) sNil [.sh (.list (tabW (L + 1) (W + 1) T)), .sh (.int (s : Int)), .sh (intL (rowW L fun k => (b k : Int))), .sh (.int (r : Int)), .sh (.int (i : Int)), v5, v6] = o := fun kk o hkk ho => by
            refine (if_t (q0.trans (by rw [decide_eq_true c]))).trans ((if_f (qv (op2 rfl rfl rfl))).trans ?_)
            refine (seq_next (set_ok (op2 (op2 (op2 rfl rfl (cell i (by omega) s hs).1) (op1 (o := opNeg) (x := .int 1) rfl rfl) rowW_last) (op2 (op2 rfl rfl (cell r (by omega) s hs).1) rfl (cell r (by omega) s hs).2) m1))).trans ?_
            refine (seq_next (set_ok (op2 (op2 (op2 rfl rfl (cell r (by omega) s hs).1) (op1 (o := opNeg) (x := .int 1) rfl rfl) rowW_last) (op2 (op2 rfl rfl (cell i (by omega) s hs).1) rfl (cell i (by omega) s hs).2) m2))).trans ?_
            refine (if_b (q3.trans (by rw [hkk]))).trans ?_
            rw [← ho]
            cases kk <;> rfl
          by_cases z : T i W * T r s < T r W * T i s ∨ (T i W * T r s = T r W * T i s ∧ b i < b r)
          · have hk : (decide (T i W * T r s < T r W * T i s) || (decide (T i W * T r s = T r W * T i s) && decide ((b i : Int) < (b r : Int)))) = true := by
              rcases z with z | ⟨z1, z2⟩
              · rw [decide_eq_true z]; rfl
              · rw [decide_eq_true z1, decide_eq_true (show (b i : Int) < (b r : Int) by omega), Bool.and_self, Bool.or_true]
            refine ⟨_, _, rfl, go true _ hk rfl, .int (i : Int), _, _, _, rfl, .inr ⟨i, rfl, Nat.lt_succ_self i, c, fun k hkk hkp => ?_⟩⟩
            by_cases zi : k = i
            · rw [zi]; exact .inr ⟨rfl, Nat.le_refl _⟩
            · refine Le.trans c hp hkp ?_ (hl k (by omega) hkp)
              rcases z with z | ⟨z1, z2⟩
              · exact .inl z
              · exact .inr ⟨z1, by omega⟩
          · have hk : (decide (T i W * T r s < T r W * T i s) || (decide (T i W * T r s = T r W * T i s) && decide ((b i : Int) < (b r : Int)))) = false := by
              rw [decide_eq_false fun h => z (.inl h), Bool.false_or]
              by_cases z1 : T i W * T r s = T r W * T i s
              · rw [decide_eq_true z1, decide_eq_false (show ¬ (b i : Int) < (b r : Int) by
                  intro h; exact z (.inr ⟨z1, by omega⟩))]; rfl
              · rw [decide_eq_false z1]; rfl
            refine ⟨_, _, rfl, go false _ hk rfl, .int (r : Int), _, _, _, rfl, .inr ⟨r, rfl, by omega, hp, fun k hkk hkp => ?_⟩⟩
            by_cases zi : k = i
            · subst zi
              by_cases z2 : T r W * T k s < T k W * T r s
              · exact .inl z2
              · by_cases z3 : T k W * T r s = T r W * T k s
                · refine .inr ⟨z3.symm, ?_⟩
                  by_cases z4 : b k < b r
                  · exact absurd (.inr ⟨z3, z4⟩) z
                  · omega
                · exact absurd (.inl (by omega)) z
            · exact hl k (by omega) hkp
      · refine ⟨_, _, rfl, (if_f (q0.trans (by rw [decide_eq_false c]))).trans rfl, v3, .sh (.int (i : Int)), v5, v6, rfl, ?_⟩
        rcases h2 with ⟨h, hn⟩ | ⟨r, h, hr, hp, hl⟩
        · refine .inl ⟨h, fun k hk => ?_⟩
          by_cases z : k = i
          · rw [z]; exact c
          · exact hn k (by omega)
        · refine .inr ⟨r, h, by omega, hp, fun k hk hkp => ?_⟩
          by_cases z : k = i
          · rw [z] at hkp; exact absurd hkp c
          · exact hl k (by omega) hkp
  rw [List.length_map, List.length_range] at f3
  rcases f3 with ⟨_, hn⟩ | ⟨r, h, hr, hp, hl⟩
  · obtain ⟨k, hk, hkp⟩ := ex
    exact absurd hkp (hn k hk)
  · refine ⟨r, hr, hp, hl, fn_ret ((seq_next (set_ok rfl)).trans ((seq_next (for_ok (ir1n (n := L) (cl1 rfl ?_) (by omega)) f1)).trans ?_))⟩
    · show R.ok (PyData.int (((rowW L fun k => (b k : Int)).map PyData.int).length : Int)) = _
      rw [List.length_map, rowW_len]
    · rw [f2, h]; exact ret_ok rfl
end PL

namespace PL
open PySem
theorem enD_length : ∀ (n : Nat) (xs : List D), (enD n xs).length = xs.length
  | _, [] => rfl
  | n, x :: xs => by show (enD (n + 1) xs).length + 1 = xs.length + 1; rw [enD_length (n + 1) xs]
theorem enD_at : ∀ (n : Nat) (xs : List D) (i : Nat), (enD n xs)[i]? = (xs[i]?).map fun a => .tuple [.int ((n + i : Nat) : Int), a]
  | _, [], _ => by simp [enD]
  | n, x :: xs, 0 => rfl
  | n, x :: xs, i + 1 => by
    show (enD (n + 1) xs)[i]? = (xs[i]?).map _
    rw [enD_at (n + 1) xs i, show n + 1 + i = n + (i + 1) by omega]
theorem zipW (f g : Nat → Int) : ∀ l : List Nat, zipD ((l.map f).map .int) ((l.map g).map .int) = l.map fun j => .tuple [.int (f j), .int (g j)]
  | [] => rfl
  | j :: l => by
    show PyData.tuple [.int (f j), .int (g j)] :: zipD ((l.map f).map .int) ((l.map g).map .int) = _
    rw [zipW f g l]; rfl
theorem m_pivoted_ok {n W e : Nat} {T : Mat} {Dd : Int} {r s : Nat} (he : e + e < 1000000) (he9 : e ≤ 9000) (hn : n ≤ 1000) (hW : W ≤ 1000) (hr : r < n) (hs : s < W) (hT : ∀ k, k < n → ∀ j, j < W → (T k j).natAbs < 2 ^ e) (hD : 0 < Dd) (hD2 : Dd.natAbs < 2 ^ e) :
    m_pivoted [.list (tabW n W T), .int (r : Int), .int (s : Int), .int Dd] = .ok (.list (tabW n W (pivT T Dd r s))) := by
  have hrow : ∀ k, k < n → (tabW n W T)[k]? = some (intL (rowW W (T k))) := fun k hk => by
    unfold tabW
    rw [List.getElem?_map, List.getElem?_range hk]; rfl
  obtain ⟨e', f1, v6, v7, f2⟩ := fLoop_inv (g := gT [(gN 6), (gN 7)]) (b := sIf (qV (e2 opEq (eB 6) (eB 1))) (sApp 5 (eV 7)) (sApp 5 (eL (cmp (iZ (eB 7) (eB 4)) [8, 9] (gT [(gN 8), (gN 9)]) qY (e2 opDiv (e2 opSub (e2 opMul (eB 8) (e2 opIx (eB 4) (eV 2))) (e2 opMul (e2 opIx (eB 7) (eV 2)) (eB 9))) (eB 3))))))
    (fun i e => ∃ v6 v7, e = [.sh (.list (tabW n W T)), .sh (.int (r : Int)), .sh (.int (s : Int)), .sh (.int Dd), .sh (intL (rowW W (T r))), .ow ((List.range i).map fun k => intL (rowW W (pivT T Dd r s k))), v6, v7, .no, .no])
    (xs := enD 0 (tabW n W T)) (e := [.sh (.list (tabW n W T)), .sh (.int (r : Int)), .sh (.int (s : Int)), .sh (.int Dd), .sh (intL (rowW W (T r))), .ow [], .no, .no, .no, .no]) ⟨.no, .no, rfl⟩ fun i hi e ⟨v6, v7, h1⟩ => by
      subst h1
      rw [enD_length, tabW_len] at hi
      have ex : (enD 0 (tabW n W T))[i]'(by rw [enD_length, tabW_len]; exact hi) = .tuple [.int (i : Int), intL (rowW W (T i))] := by
        have := enD_at 0 (tabW n W T) i
        rw [hrow i hi, List.getElem?_eq_getElem (by rw [enD_length, tabW_len]; exact hi)] at this
        have := Option.some.inj this
        rw [this]
        simp
      rw [ex]
      have fin : ∀ (d : D), d = intL (rowW W (pivT T Dd r s i)) → ∀ f : EF, f [.sh (.list (tabW n W T)), .sh (.int (r : Int)), .sh (.int (s : Int)), .sh (.int Dd), .sh (intL (rowW W (T r))), .ow ((List.range i).map fun k => intL (rowW W (pivT T Dd r s k))), .sh (.int (i : Int)), .sh (intL (rowW W (T i))), .no, .no] = .ok d →
          sApp 5 f [.sh (.list (tabW n W T)), .sh (.int (r : Int)), .sh (.int (s : Int)), .sh (.int Dd), .sh (intL (rowW W (T r))), .ow ((List.range i).map fun k => intL (rowW W (pivT T Dd r s k))), .sh (.int (i : Int)), .sh (intL (rowW W (T i))), .no, .no] =
          .next [.sh (.list (tabW n W T)), .sh (.int (r : Int)), .sh (.int (s : Int)), .sh (.int Dd), .sh (intL (rowW W (T r))), .ow ((List.range (i + 1)).map fun k => intL (rowW W (pivT T Dd r s k))), .sh (.int (i : Int)), .sh (intL (rowW W (T i))), .no, .no] := fun d hd f hf => by
        show (f _).out _ = _
        rw [hf]
        show (if ((List.range i).map fun k => intL (rowW W (pivT T Dd r s k))).length < szL then _ else _) = _
        rw [if_pos (by rw [List.length_map, List.length_range]; unfold szL; omega), hd, List.range_succ, List.map_append]
        rfl
      refine ⟨_, _, rfl, ?_, .sh (.int (i : Int)), .sh (intL (rowW W (T i))), rfl⟩
      by_cases q : i = r
      · refine (if_t ((qv (op2 rfl rfl (eq_int _ _))).trans (by rw [decide_eq_true (show (i : Int) = (r : Int) by omega)]))).trans (fin (intL (rowW W (T i))) ?_ _ rfl)
        congr 2
        congr 1
        funext j
        unfold pivT
        rw [if_pos q, q]
      · refine (if_f ((qv (op2 rfl rfl (eq_int _ _))).trans (by rw [decide_eq_false (show ¬ (i : Int) = (r : Int) by omega)]))).trans (fin _ rfl _ (el ?_))
        have hz : iZ (eB 7) (eB 4) [.sh (.list (tabW n W T)), .sh (.int (r : Int)), .sh (.int (s : Int)), .sh (.int Dd), .sh (intL (rowW W (T r))), .ow ((List.range i).map fun k => intL (rowW W (pivT T Dd r s k))), .sh (.int (i : Int)), .sh (intL (rowW W (T i))), .no, .no] = .ok ((List.range W).map fun j => .tuple [.int (T i j), .int (T r j)]) := by
          rw [← zipW]; rfl
        have := cmp_map (it := iZ (eB 7) (eB 4)) (vs := [8, 9]) (g := gT [(gN 8), (gN 9)]) (t := qY) (f := e2 opDiv (e2 opSub (e2 opMul (eB 8) (e2 opIx (eB 4) (eV 2))) (e2 opMul (e2 opIx (eB 7) (eV 2)) (eB 9))) (eB 3)) (fun d => match d with | .tuple [.int a, .int b] => .int ((a * T r s - T i s * b) / Dd) | _ => .none) hz (by rw [List.length_map, List.length_range]; unfold szL; omega) fun x hx => by
          obtain ⟨j, hj, rfl⟩ := List.mem_map.mp hx
          have hj' := List.mem_range.mp hj
          exact ⟨_, rfl, rfl, op2 (op2 (op2 rfl (op2 rfl rfl (rowW_ix hs)) (mul_e he (hT i hi j hj') (hT r hr s hs))) (op2 (op2 rfl rfl (rowW_ix hs)) rfl (mul_e he (hT i hi s hs) (hT r hr j hj'))) rfl) rfl (div_e he9 hD hD2)⟩
        rw [this]
        congr 1
        show _ = (rowW W (pivT T Dd r s i)).map PyData.int
        unfold rowW
        rw [List.map_map, List.map_map]
        refine List.map_congr_left fun j _ => ?_
        show PyData.int _ = PyData.int (pivT T Dd r s i j)
        unfold pivT
        rw [if_neg q]
  rw [enD_length, tabW_len] at f2
  refine fn_ret ((seq_next (set_ok (op2 rfl rfl (tabW_ix hr)))).trans ((seq_next (e' := [.sh (.list (tabW n W T)), .sh (.int (r : Int)), .sh (.int (s : Int)), .sh (.int Dd), .sh (intL (rowW W (T r))), .ow [], .no, .no, .no, .no]) rfl).trans ((seq_next (for_ok rfl f1)).trans ?_)))
  rw [f2]
  rfl
end PL

namespace PL
open PySem
/-! ### loops while -/
theorem wLoop_succ {t : TF} {b : SF} : ∀ {n : Nat} {e : Env}, (wLoop t b n e).isStk = false → wLoop t b (n + 1) e = wLoop t b n e
  | 0, e, h => by cases h
  | n + 1, e, h => by
    have ih := fun e2 => wLoop_succ (t := t) (b := b) (n := n) (e := e2)
    show (t e).out _ = (t e).out _
    have h' : ((t e).out fun k => if k then (match b e with
      | .next e2 => wLoop t b n e2
      | .cont e2 => wLoop t b n e2
      | .brk e2 => .next e2
      | .ret d => .ret d
      | .err c => .err c
      | .stk => .stk) else .next e).isStk = false := h
    cases e1 : t e with
    | err c => rfl
    | stk => rfl
    | ok k =>
      rw [e1] at h'
      cases k with
      | false => rfl
      | true =>
        show (match b e with | .next e2 => wLoop t b (n + 1) e2 | .cont e2 => wLoop t b (n + 1) e2 | .brk e2 => .next e2 | .ret d => .ret d | .err c => .err c | .stk => .stk) = (match b e with | .next e2 => wLoop t b n e2 | .cont e2 => wLoop t b n e2 | .brk e2 => .next e2 | .ret d => .ret d | .err c => .err c | .stk => .stk)
        have h2 : (match b e with | .next e2 => wLoop t b n e2 | .cont e2 => wLoop t b n e2 | .brk e2 => .next e2 | .ret d => .ret d | .err c => .err c | .stk => .stk).isStk = false := h'
        cases e2 : b e with
        | next e3 => rw [e2] at h2; exact ih e3 h2
        | cont e3 => rw [e2] at h2; exact ih e3 h2
        | brk e3 => rfl
        | ret d => rfl
        | err c => rfl
        | stk => rfl
theorem wLoop_le {t : TF} {b : SF} {n k : Nat} {e : Env} (h : (wLoop t b n e).isStk = false) (hk : n ≤ k) : wLoop t b k e = wLoop t b n e := by
  induction hk with
  | refl => rfl
  | step _ ih => rw [wLoop_succ (by rw [ih]; exact h), ih]
theorem while_ok {t : TF} {b : SF} {n : Nat} {e : Env} {o : Out} (h : wLoop t b n e = o) (ho : o.isStk = false) : sWhile t b e = o := by
  have hx : ∃ n, (wLoop t b n e).isStk = false := ⟨n, by rw [h]; exact ho⟩
  unfold sWhile
  rw [dif_pos hx]
  have hc := Classical.choose_spec hx
  rcases Nat.le_total n (Classical.choose hx) with q | q
  · rw [wLoop_le (by rw [h]; exact ho) q, h]
  · rw [← wLoop_le hc q, h]
theorem w_stop {t : TF} {b : SF} {n : Nat} {e : Env} (h : t e = .ok false) : wLoop t b (n + 1) e = .next e := by
  show (t e).out _ = _
  rw [h]; rfl
theorem w_go {t : TF} {b : SF} {n : Nat} {e e2 : Env} (h : t e = .ok true) (hb : b e = .next e2) : wLoop t b (n + 1) e = wLoop t b n e2 := by
  show (t e).out _ = _
  rw [h]
  show (match b e with | .next e2 => wLoop t b n e2 | .cont e2 => wLoop t b n e2 | .brk e2 => .next e2 | .ret d => .ret d | .err c => .err c | .stk => .stk) = _
  rw [hb]
theorem w_ret {t : TF} {b : SF} {n : Nat} {e : Env} {d : D} (h : t e = .ok true) (hb : b e = .ret d) : wLoop t b (n + 1) e = .ret d := by
  show (t e).out _ = _
  rw [h]
  show (match b e with | .next e2 => wLoop t b n e2 | .cont e2 => wLoop t b n e2 | .brk e2 => .next e2 | .ret d => .ret d | .err c => .err c | .stk => .stk) = _
  rw [hb]
theorem cl4 {m : List D → R D} {f g h q : EF} {e : Env} {x y z w : D} {r : R D} (h1 : f e = .ok x) (h2 : g e = .ok y) (h3 : h e = .ok z) (h4 : q e = .ok w) (hm : m [x, y, z, w] = r) : eC m (aC f (aC g (aC h (aC q aN)))) e = r := by
  show ((f e).bind fun d => ((g e).bind fun d2 => ((h e).bind fun d3 => ((q e).bind fun d4 => R.ok [d4]).bind fun ds => R.ok (d3 :: ds)).bind fun ds => R.ok (d2 :: ds)).bind fun ds => R.ok (d :: ds)).bind m = r
  rw [h1, R.bind_ok, h2, R.bind_ok, h3, R.bind_ok, h4]; exact hm
theorem cb3 {m : List D → R D} {f g h : EF} {e : Env} {x y z d : D} (h1 : f e = .ok x) (h2 : g e = .ok y) (h3 : h e = .ok z) (hm : m [x, y, z] = .ok d) (hd : isSc d = true) : eCb m (aC f (aC g (aC h aN))) e = .ok d := by
  show ((f e).bind fun d => ((g e).bind fun d2 => ((h e).bind fun d3 => R.ok [d3]).bind fun ds => R.ok (d2 :: ds)).bind fun ds => R.ok (d :: ds)).bind (fun ds => scal (m ds)) = .ok d
  rw [h1, R.bind_ok, h2, R.bind_ok, h3]
  show scal (m [x, y, z]) = _
  rw [hm]
  show (if isSc d = true then R.ok d else .stk) = _
  rw [if_pos hd]
theorem tabW_congr {n W : Nat} {T T' : Mat} (h : ∀ k, k < n → ∀ j, j < W → T k j = T' k j) : tabW n W T = tabW n W T' := by
  unfold tabW rowW
  refine List.map_congr_left fun k hk => ?_
  rw [show (List.range W).map (T k) = (List.range W).map (T' k) from List.map_congr_left fun j hj => h k (List.mem_range.mp hk) j (List.mem_range.mp hj)]
theorem rowW_set {L r s : Nat} {b : Nat → Nat} : ((rowW L fun k => (b k : Int)).map PyData.int).set r (.int (s : Int)) = (rowW L fun k => ((if k = r then s else b k : Nat) : Int)).map PyData.int := by
  unfold rowW
  rw [List.map_map, List.map_map]
  apply List.ext_getElem?
  intro k
  rw [List.getElem?_set]
  by_cases q : r = k
  · subst q
    rw [if_pos rfl]
    by_cases hl : r < L
    · rw [if_pos (by rw [List.length_map, List.length_range]; exact hl), List.getElem?_map, List.getElem?_range hl]
      show some (PyData.int (s : Int)) = some (PyData.int ((if r = r then s else b r : Nat) : Int))
      rw [if_pos rfl]
    · rw [if_neg (by rw [List.length_map, List.length_range]; exact hl), List.getElem?_map, List.getElem?_eq_none (by rw [List.length_range]; omega)]; rfl
  · rw [if_neg q, List.getElem?_map, List.getElem?_map]
    by_cases hl : k < L
    · rw [List.getElem?_range hl]
      show some (PyData.int (b k : Int)) = some (PyData.int ((if k = r then s else b k : Nat) : Int))
      rw [if_neg fun e => q e.symm]
    · rw [List.getElem?_eq_none (by rw [List.length_range]; omega)]; rfl
def Val (L wide : Nat) (b : Nat → Nat) : Prop := ∀ k, k < L → b k < wide + L
def Siz (A : Mat) (L wide e : Nat) : Prop := ∀ b, Val L wide b → (∀ k, k < L + 1 → ∀ j, j < wide + L + 1 → (Tm A L b k j).natAbs < 2 ^ e) ∧ (Dm A L b).natAbs < 2 ^ e
def rowsD (A : Mat) (L wide : Nat) (b : Nat → Nat) : D := .list (tabW (L + 1) (wide + L + 1) (Tm A L b))
def envW (A : Mat) (L wide : Nat) (m1 : SV) (b : Nat → Nat) (v5 : D) (v6 : SV) : Env := [.sh (rowsD A L wide b), m1, .sh (.int (wide : Int)), .ow ((rowW L fun k => (b k : Int)).map .int), .sh (.int (Dm A L b)), .sh v5, v6]
def bodyW : SF := (sSeq (sSet (gN 6) (eCb m_leaving (aC (eB 0) (aC (eB 5) (aC (eB 3) aN)))))
  (sSeq (sSet (gN 0) (eC m_pivoted (aC (eV 0) (aC (eV 6) (aC (eV 5) (aC (eV 4) aN))))))
  (sSeq (sSet (gN 4) (e2 opIx (e2 opIx (eB 0) (eV 6)) (eV 5)))
  (sSeq (sPut 3 (eV 6) (eV 5))
  (sSet (gN 5) (eC m_entering (aC (e2 opIx (eB 0) (e1 opNeg (eK (.int 1)))) (aC (eV 2) aN))))))))
/-- what stood in slot 6 doesn't matter -/
theorem bodyW_v6 {a m1 c d e f : SV} {v u : SV} : bodyW [a, m1, c, d, e, f, v] = bodyW [a, m1, c, d, e, f, u] := rfl
section
variable {A : Mat} {L wide e : Nat}
theorem body_ok (t : Tbl A L wide) (sz : Siz A L wide e) (he : e + e < 1000000) (he9 : e ≤ 9000) (hL : L ≤ 100) (hw : wide ≤ 200) {m1 v6 : SV} {b : Nat → Nat} (g : Good A L (wide + L) b) (vb : Val L wide b) {s : Nat} (hs : s < wide) (hn : Tm A L b L s < 0) (hf : ∀ i, i < s → 0 ≤ Tm A L b L i) :
    ∃ r b', Step A L wide (wide + L) b r s b' ∧ Val L wide b' ∧ ∀ v5', m_entering [intL (rowW (wide + L + 1) (Tm A L b' L)), .int (wide : Int)] = .ok v5' → bodyW (envW A L wide m1 b (.int (s : Int)) v6) = .next (envW A L wide m1 b' v5' (.sh (.int (r : Int)))) := by
  obtain ⟨r, hr, hp, hle, hlv⟩ := m_leaving_ok (W := wide + L) (b := b) he (by omega) (show s < wide + L + 1 by omega) (sz b vb).1 (t.leave g vb hs hn)
  have st : Step A L wide (wide + L) b r s (fun k => if k = r then s else b k) := ⟨hr, hs, hn, hf, hp, fun k hk hkp => hle k hk hkp, rfl⟩
  have vb' : Val L wide (fun k => if k = r then s else b k) := fun k hk => by
    show (if k = r then s else b k) < wide + L
    split
    · omega
    · exact vb k hk
  refine ⟨r, _, st, vb', fun v5' hv => ?_⟩
  have hpv := m_pivoted_ok (n := L + 1) (W := wide + L + 1) (r := r) (s := s) he he9 (by omega) (by omega) (by omega) (by omega) (sz b vb).1 g.tab.pos (sz b vb).2
  have ht : tabW (L + 1) (wide + L + 1) (pivT (Tm A L b) (Dm A L b) r s) = tabW (L + 1) (wide + L + 1) (Tm A L (fun k => if k = r then s else b k)) := tabW_congr fun k hk j _ => (st.tm g hk j).symm
  rw [ht] at hpv
  have hby : Tm A L (fun k => if k = r then s else b k) r s = Dm A L (fun k => if k = r then s else b k) := by
    have e1 := basic_one (A := A) (L := L) (b := fun k => if k = r then s else b k) hr
    have e2 : (if r = r then s else b r) = s := if_pos rfl
    rw [e2] at e1
    exact e1
  unfold bodyW envW
  refine (seq_next (set_ok (d := .int (r : Int)) (cb3 rfl rfl rfl hlv rfl))).trans ?_
  refine (seq_next (set_ok (cl4 rfl rfl rfl rfl hpv))).trans ?_
  refine (seq_next (set_ok (d := .int (Dm A L (fun k => if k = r then s else b k))) (op2 (op2 rfl rfl (tabW_ix (by omega))) rfl ((rowW_ix (by omega)).trans (by rw [hby]))))).trans ?_
  refine (seq_next (e' := [.sh (rowsD A L wide (fun k => if k = r then s else b k)), m1, .sh (.int (wide : Int)), .ow ((rowW L fun k => ((if k = r then s else b k : Nat) : Int)).map .int), .sh (.int (Dm A L (fun k => if k = r then s else b k))), .sh (.int (s : Int)), .sh (.int (r : Int))]) ?_).trans ?_
  · show (toR (ixN ((rowW L fun k => (b k : Int)).map PyData.int).length (r : Int))).out _ = _
    have hix : ixN ((rowW L fun k => (b k : Int)).map PyData.int).length (r : Int) = some r := by
      unfold ixN
      rw [if_pos (by omega), if_pos (by rw [List.length_map, rowW_len]; omega), Int.toNat_natCast]
    rw [hix]
    show Out.next _ = _
    rw [rowW_set]; rfl
  · exact set_ok (cl2 (op2 rfl (op1 (o := opNeg) (x := .int 1) rfl rfl) tabW_last) rfl hv)
/-- the loop ends, at a basis where no place is left to enter -/
theorem loop_ok (t : Tbl A L wide) (sz : Siz A L wide e) (he : e + e < 1000000) (he9 : e ≤ 9000) (hL : L ≤ 100) (hw : wide ≤ 200) {m1 : SV} {b : Nat → Nat} (g : Good A L (wide + L) b) (vb : Val L wide b) :
    ∃ n b', Good A L (wide + L) b' ∧ Val L wide b' ∧ (∀ j, j < wide → 0 ≤ Tm A L b' L j) ∧ ∀ v5 v6, m_entering [intL (rowW (wide + L + 1) (Tm A L b L)), .int (wide : Int)] = .ok v5 →
      ∃ v6', wLoop (qV (e2 opIsNot (eB 5) (eK .none))) bodyW n (envW A L wide m1 b v5 v6) = .next (envW A L wide m1 b' .none v6') := by
  refine Classical.byContradiction fun hno => ?_
  let Q : (Nat → Nat) → Prop := fun b => Good A L (wide + L) b ∧ Val L wide b ∧ ¬ ∃ n b', Good A L (wide + L) b' ∧ Val L wide b' ∧ (∀ j, j < wide → 0 ≤ Tm A L b' L j) ∧ ∀ v5 v6, m_entering [intL (rowW (wide + L + 1) (Tm A L b L)), .int (wide : Int)] = .ok v5 →
      ∃ v6', wLoop (qV (e2 opIsNot (eB 5) (eK .none))) bodyW n (envW A L wide m1 b v5 v6) = .next (envW A L wide m1 b' .none v6')
  have nxt : ∀ b, Q b → ∃ c : (Nat → Nat) × Nat × Nat, Step A L wide (wide + L) b c.2.1 c.2.2 c.1 ∧ Q c.1 := fun b ⟨g, vb, hn⟩ => by
    rcases m_entering_ok (W := wide + L + 1) (wide := wide) (f := Tm A L b L) (by omega) (by omega) with ⟨s, h1, h2, h3, h4⟩ | ⟨h1, h2⟩
    · obtain ⟨r, b', st, vb', hb⟩ := body_ok (m1 := m1) (v6 := .no) t sz he he9 hL hw g vb h1 h2 h3
      refine ⟨(b', r, s), st, st.good g, vb', fun ⟨n, b2, q1, q2, q3, q4⟩ => hn ⟨n + 1, b2, q1, q2, q3, fun v5 v6 hv => ?_⟩⟩
      rw [h4] at hv
      cases hv
      have hv' : ∃ v5', m_entering [intL (rowW (wide + L + 1) (Tm A L b' L)), .int (wide : Int)] = .ok v5' := by
        rcases m_entering_ok (W := wide + L + 1) (wide := wide) (f := Tm A L b' L) (by omega) (by omega) with ⟨j, _, _, _, h⟩ | ⟨_, h⟩
        · exact ⟨_, h⟩
        · exact ⟨_, h⟩
      obtain ⟨v5', hv5⟩ := hv'
      -- the same step
      have er : bodyW (envW A L wide m1 b (.int (s : Int)) v6) = .next (envW A L wide m1 b' v5' (.sh (.int (r : Int)))) := by
        have := hb v5' hv5
        exact bodyW_v6.trans this
      obtain ⟨v6', hq⟩ := q4 v5' (.sh (.int (r : Int))) hv5
      exact ⟨v6', (w_go rfl er).trans hq⟩
    · exfalso
      refine hn ⟨1, b, g, vb, h1, fun v5 v6 hv => ?_⟩
      rw [h2] at hv
      cases hv
      exact ⟨v6, w_stop rfl⟩
  have hQ : Q b := ⟨g, vb, hno⟩
  let F : {b // Q b} → {b // Q b} := fun x => ⟨(Classical.choose (nxt x.1 x.2)).1, (Classical.choose_spec (nxt x.1 x.2)).2⟩
  let S : Nat → {b // Q b} := fun n => Nat.rec ⟨b, hQ⟩ (fun _ x => F x) n
  exact no_walk (A := A) (L := L) (wide := wide) (z := wide + L) (b := fun t => (S t).1) (r := fun t => (Classical.choose (nxt (S t).1 (S t).2)).2.1) (s := fun t => (Classical.choose (nxt (S t).1 (S t).2)).2.2) g fun t => (Classical.choose_spec (nxt (S t).1 (S t).2)).1
end
end PL

namespace PL
open PySem
section
variable {A : Mat} {L wide e : Nat}
theorem Tbl.bm0 (t : Tbl A L wide) : ∀ k, k < L + 1 → ∀ i, i < L + 1 → Bm A L (fun k => wide + k) k i = unitc k i := fun k hk i hi => by
  unfold Bm
  by_cases q : k < L
  · rw [if_pos q]; exact t.sl k q i hi
  · rw [if_neg q, show k = L by omega]
theorem Tbl.d0 (t : Tbl A L wide) : Dm A L (fun k => wide + k) = 1 := (det_congr t.bm0).trans (det_unit _)
theorem Tbl.t0 (t : Tbl A L wide) : ∀ k, k < L + 1 → ∀ j, Tm A L (fun k => wide + k) k j = A j k := fun k hk j => by
  refine (det_congr (E := up unitc k (A j)) fun l hl i hi => ?_).trans (det_at (A j) hk)
  by_cases q : l = k
  · subst q; rw [up_same, up_same]
  · rw [up_ne _ q, up_ne _ q]; exact t.bm0 l hl i hi
theorem blr_ok {f g : EF} {e : Env} {m n : Int} (h1 : f e = .ok (.int m)) (h2 : g e = .ok (.int n)) (hs : (smI m && smI n && decide ((n - m).toNat ≤ szL)) = true) : bLR f g e = .ok (rng m n) := by
  unfold bLR
  rw [h1, R.bind_ok, h2, R.bind_ok]
  show (if (smI m && smI n && decide ((n - m).toNat ≤ szL)) = true then R.ok (rng m n) else .stk) = _
  rw [if_pos hs]
/-- the first table -/
def rows0 (A : Mat) (L wide : Nat) : D := .list (tabW (L + 1) (wide + L + 1) fun k j => A j k)
theorem m_worked_ok (t : Tbl A L wide) (sz : Siz A L wide e) (he : e + e < 1000000) (he9 : e ≤ 9000) (hL : L ≤ 100) (hw : wide ≤ 200) :
    ∃ b, Good A L (wide + L) b ∧ Val L wide b ∧ (∀ j, j < wide → 0 ≤ Tm A L b L j) ∧ m_worked [rows0 A L wide, .int (L : Int), .int (wide : Int)] = .ok (.tuple [rowsD A L wide b, intL (rowW L fun k => (b k : Int)), .int (Dm A L b)]) := by
  have er : rows0 A L wide = rowsD A L wide (fun k => wide + k) := by
    unfold rows0 rowsD
    rw [tabW_congr (T' := Tm A L (fun k => wide + k)) fun k hk j _ => (t.t0 k hk j).symm]
  obtain ⟨n, b, g, vb, op, hl⟩ := loop_ok (m1 := .sh (.int (L : Int))) t sz he he9 hL hw t.good (fun k hk => by show wide + k < wide + L; omega)
  refine ⟨b, g, vb, op, ?_⟩
  obtain ⟨v5, hv⟩ : ∃ v5, m_entering [intL (rowW (wide + L + 1) (Tm A L (fun k => wide + k) L)), .int (wide : Int)] = .ok v5 := by
    rcases m_entering_ok (W := wide + L + 1) (wide := wide) (f := Tm A L (fun k => wide + k) L) (by omega) (by omega) with ⟨j, _, _, _, h⟩ | ⟨_, h⟩
    · exact ⟨_, h⟩
    · exact ⟨_, h⟩
  obtain ⟨v6, hq⟩ := hl v5 .no hv
  rw [er]
  have hb : rng (wide : Int) ((wide : Int) + (L : Int)) = (rowW L fun k => ((wide + k : Nat) : Int)).map PyData.int := by
    unfold rng rowW
    rw [List.map_map, show ((wide : Int) + (L : Int) - (wide : Int)).toNat = L by omega]
    exact List.map_congr_left fun k _ => by
      show PyData.int ((wide : Int) + (k : Int)) = PyData.int ((wide + k : Nat) : Int)
      rw [Int.natCast_add]
  refine fn_ret ?_
  refine (seq_next (e' := [.sh (rowsD A L wide (fun k => wide + k)), .sh (.int (L : Int)), .sh (.int (wide : Int)), .ow ((rowW L fun k => ((wide + k : Nat) : Int)).map .int), .no, .no, .no]) ?_).trans ?_
  · unfold sOwn
    have h1 : bLR (eV 2) (e2 opAdd (eB 2) (eB 1)) [.sh (rowsD A L wide (fun k => wide + k)), .sh (.int (L : Int)), .sh (.int (wide : Int)), .no, .no, .no, .no] = .ok (rng (wide : Int) ((wide : Int) + (L : Int))) := by
      exact blr_ok (m := (wide : Int)) (n := (wide : Int) + (L : Int)) rfl (op2 rfl rfl rfl) (by rw [smI_of (by omega) (by omega), smI_of (by omega) (by omega), decide_eq_true (by unfold szL; omega)]; rfl)
    show (bLR (eV 2) (e2 opAdd (eB 2) (eB 1)) [.sh (rowsD A L wide (fun k => wide + k)), .sh (.int (L : Int)), .sh (.int (wide : Int)), .no, .no, .no, .no]).out _ = _
    rw [h1, hb]; rfl
  refine (seq_next (set_ok (d := .int (Dm A L (fun k => wide + k))) (by rw [t.d0]; rfl))).trans ?_
  refine (seq_next (set_ok (cl2 (op2 rfl (op1 (o := opNeg) (x := .int 1) rfl rfl) tabW_last) rfl hv))).trans ?_
  refine (seq_next (while_ok hq rfl)).trans ?_
  exact ret_ok (et (ac rfl (ac rfl (ac rfl rfl))))
/-- how great the tables get -/
theorem siz_of {M : Nat} (hM : ∀ j, j < wide + L + 1 → ∀ i, i < L + 1 → (A j i).natAbs ≤ M) (h1 : 1 ≤ M) (hz : fac (L + 1) * M ^ (L + 1) < 2 ^ e) : Siz A L wide e := fun b vb => by
  have hB : ∀ k, k < L + 1 → ∀ i, i < L + 1 → (Bm A L b k i).natAbs ≤ M := fun k hk i hi => by
    unfold Bm
    by_cases q : k < L
    · rw [if_pos q]; exact hM _ (by have := vb k q; omega) i hi
    · rw [if_neg q]
      unfold unitc
      split
      · exact h1
      · exact Nat.zero_le _
  refine ⟨fun k hk j hj => Nat.lt_of_le_of_lt (det_abs fun l hl i hi => ?_) hz, Nat.lt_of_le_of_lt (det_abs hB) hz⟩
  by_cases q : l = k
  · subst q; rw [up_same]; exact hM j hj i hi
  · rw [up_ne _ q]; exact hB l hl i hi
end
end PL

namespace PL
open PySem
/-! ### the first table of lines, of what is wanted -/
def sid (w : Int) : Int := if w < 0 then -1 else 1
def wan (wanted : List Int) (i : Nat) : Int := wanted.getD i 0
/-- what stands at place j of the row of line r, number i, what is wanted being w -/
def celr (r : List Int) (w : Int) (many free L i j : Nat) : Int :=
  if j < many then sid w * r.getD j 0
  else if j < many + free then 0 - sid w * r.getD (j - many) 0
  else if j < many + free + L then (if j - (many + free) = i then 1 else 0)
  else sid w * w
def cel (lines : List (List Int)) (wanted : List Int) (many free L : Nat) (i j : Nat) : Int := celr (lines.getD i []) (wan wanted i) many free L i j
def first (lines : List (List Int)) (wanted : List Int) (many free L : Nat) : Mat := fun j i =>
  if i < L then cel lines wanted many free L i j
  else if j < many + free ∨ many + free + L ≤ j then - sumN L fun k => cel lines wanted many free L k j
  else 0
section
variable {lines : List (List Int)} {wanted : List Int} {many free L : Nat}
theorem first_tbl : Tbl (first lines wanted many free L) L (many + free) := by
  refine ⟨fun k hk i hi => ?_, fun j hj => ?_, fun i hi => ?_⟩
  · unfold first unitc
    by_cases q : i < L
    · rw [if_pos q]
      unfold cel celr
      rw [if_neg (by omega), if_neg (by omega), if_pos (by omega), show many + free + k - (many + free) = k by omega]
    · rw [if_neg q, if_neg (by omega), if_neg (by omega)]
  · unfold first
    rw [if_neg (Nat.lt_irrefl L), if_pos (by omega)]
    congr 1
    refine sumN_congr fun k hk => ?_
    rw [if_pos hk]
  · unfold first cel
    rw [if_pos hi]
    unfold celr
    rw [if_neg (by omega), if_neg (by omega), if_neg (by omega)]
    unfold sid
    split <;> omega
theorem sumN_list (f : Nat → Int) : ∀ n : Nat, sumN n f = ((List.range n).map f).sum
  | 0 => rfl
  | n + 1 => by
    rw [List.range_succ, List.map_append, List.sum_append, ← sumN_list f n]
    show sumN n f + f n = _
    simp
theorem m_side {w : Int} {f : EF} {e : Env} (h : f e = .ok (.int w)) : e2 opSub (eK (.int 1)) (e2 opMul (eK (.int 2)) (eC bInt (aC (e2 opLt f (eK (.int 0))) aN))) e = .ok (.int (sid w)) := by
  refine (op2 rfl (op2 rfl (cl1 (op2 h rfl rfl) rfl) (mul_l (by decide) (by decide))) rfl).trans ?_
  unfold sid
  by_cases q : w < 0
  · rw [if_pos q, decide_eq_true q]; rfl
  · rw [if_neg q, decide_eq_false q]; rfl
theorem sid_small (w : Int) : -(2 ^ 64) < sid w ∧ sid w < 2 ^ 64 := by unfold sid; split <;> decide
/-- a line as the table holds it -/
theorem cel_row {r : List Int} {w : Int} {i : Nat} (hl : r.length = many) (hf : free ≤ many) :
    (r.map fun x => sid w * x) ++ (r.take free).map (fun x => 0 - sid w * x) ++ ((List.range L).map fun k => if k = i then (1 : Int) else 0) ++ [sid w * w] = rowW (many + free + L + 1) (celr r w many free L i) := by
  apply List.ext_getElem?
  intro j
  unfold rowW
  rw [List.getElem?_map]
  by_cases h1 : j < many
  · rw [List.getElem?_append_left (by simp; omega), List.getElem?_append_left (by simp; omega), List.getElem?_append_left (by simp; omega), List.getElem?_map, List.getElem?_range (by omega), List.getElem?_eq_getElem (by omega)]
    unfold celr
    simp only [Option.map_some, if_pos h1]
    rw [List.getD_eq_getElem?_getD, List.getElem?_eq_getElem (by omega)]; rfl
  · by_cases h2 : j < many + free
    · rw [List.getElem?_append_left (by simp; omega), List.getElem?_append_left (by simp; omega), List.getElem?_append_right (by simp; omega), List.getElem?_map, List.getElem?_range (by omega), List.length_map, hl, List.getElem?_take, if_pos (by omega), List.getElem?_eq_getElem (by omega)]
      unfold celr
      simp only [Option.map_some, if_neg h1, if_pos h2]
      rw [List.getD_eq_getElem?_getD, List.getElem?_eq_getElem (by omega)]; rfl
    · have e2 : (List.map (fun x => sid w * x) r ++ List.map (fun x => 0 - sid w * x) (List.take free r)).length = many + free := by simp; omega
      by_cases h3 : j < many + free + L
      · rw [List.getElem?_append_left (by simp; omega), List.getElem?_append_right (by omega), List.getElem?_range (by omega), e2, List.getElem?_map, List.getElem?_range (by omega)]
        unfold celr
        simp only [Option.map_some, if_neg h1, if_neg h2, if_pos h3]
      · have e3 : (List.map (fun x => sid w * x) r ++ List.map (fun x => 0 - sid w * x) (List.take free r) ++ List.map (fun k => if k = i then (1 : Int) else 0) (List.range L)).length = many + free + L := by rw [List.length_append, e2, List.length_map, List.length_range]
        by_cases h4 : j = many + free + L
        · subst h4
          rw [List.getElem?_append_right (by omega), List.getElem?_range (by omega), e3, Nat.sub_self]
          unfold celr
          simp only [Option.map_some, if_neg h1, if_neg h2, if_neg h3]
          rfl
        · rw [List.getElem?_eq_none (by rw [List.length_append, e3]; simp; omega), List.getElem?_eq_none (by rw [List.length_range]; omega)]; rfl
end
end PL

namespace PL
open PySem
theorem esl_to2 {f g : EF} {e : Env} {xs : List D} {m : Int} (h : f e = .ok (.list xs)) (h2 : g e = .ok (.int m)) (h1 : 0 ≤ m) : eSl f oN (oS g) e = .ok (.list (xs.take m.toNat)) := by
  unfold eSl oS oN
  rw [h, R.bind_ok, R.bind_ok, h2]
  show R.ok (PyData.list ((xs.drop (sIx xs.length 0 none)).take (sIx xs.length xs.length (some m) - sIx xs.length 0 none))) = _
  have e : sIx xs.length xs.length (some m) = min m.toNat xs.length := by
    show (if m < 0 then (m + (xs.length : Int)).toNat else min m.toNat xs.length) = _
    rw [if_neg (by omega)]
  have e2 : sIx xs.length 0 none = 0 := rfl
  rw [e, e2, Nat.sub_zero, List.drop_zero]
  congr 2
  rcases Nat.le_total m.toNat xs.length with h | h
  · rw [Nat.min_eq_left h]
  · rw [Nat.min_eq_right h, List.take_length, List.take_of_length_le h]
theorem app_ok {i : Nat} {f : EF} {e : Env} {xs : List D} {d : D} (h1 : e[i]? = some (.ow xs)) (h2 : f e = .ok d) (hl : xs.length ≤ 1000) : sApp i f e = .next (e.set i (.ow (xs ++ [d]))) := by
  unfold sApp
  rw [h1]
  dsimp only
  rw [h2]
  show (if xs.length < szL then Out.next _ else .stk) = _
  rw [if_pos (Nat.lt_of_le_of_lt hl (by decide))]
section
variable {lines : List (List Int)} {wanted : List Int} {many free L : Nat}
/-- lines of the same length, as many as is wanted -/
structure Lin (lines : List (List Int)) (wanted : List Int) (many free L : Nat) : Prop where
  len : lines.length = L
  pos : 1 ≤ L
  row : ∀ l ∈ lines, l.length = many
  wl : wanted.length = L
  mp : 1 ≤ many
  fr : free ≤ many
theorem Lin.at (h : Lin lines wanted many free L) {i : Nat} (hi : i < L) : lines[i]? = some (lines.getD i []) ∧ (lines.getD i []).length = many := by
  have hl : i < lines.length := by rw [h.len]; exact hi
  have e : lines.getD i [] = lines[i] := by rw [List.getD_eq_getElem?_getD, List.getElem?_eq_getElem hl]; rfl
  rw [e]
  exact ⟨List.getElem?_eq_getElem hl, h.row _ (List.getElem_mem hl)⟩
theorem Lin.want (h : Lin lines wanted many free L) {i : Nat} (hi : i < L) : opIx (intL wanted) (.int (i : Int)) = .ok (.int (wan wanted i)) := by
  obtain ⟨z, h1, _, h3⟩ := ix_ints (xs := wanted) (k := (i : Int)) (by omega) (by have := h.wl; omega)
  rw [h3]
  rw [Int.toNat_natCast] at h1
  unfold wan
  rw [List.getD_eq_getElem?_getD, h1]; rfl
theorem rows_sum (h : Lin lines wanted many free L) {j : Nat} : (((List.range L).map fun i => cel lines wanted many free L i j)).sum = sumN L fun i => cel lines wanted many free L i j := (sumN_list _ L).symm
theorem m_begun_row (h : Lin lines wanted many free L) (hL : L ≤ 100) (hm : many ≤ 100) {i : Nat} (hi : i < L) {acc : List D} (ha : acc.length ≤ 1000) {v6 v7 v10 v11 v12 : SV} :
    ∃ u6 u7, (sSeq (sSet (gN 6) (e2 opSub (eK (.int 1)) (e2 opMul (eK (.int 2)) (eC bInt (aC (e2 opLt (e2 opIx (eB 1) (eV 4)) (eK (.int 0))) aN)))))
  (sSeq (sSet (gN 7) (e2 opAdd (eL (cmp (iL (eB 5)) [8] (gN 8) qY (e2 opMul (eB 6) (eB 8)))) (eL (cmp (iL (eSl (eB 5) oN (oS (eV 2)))) [8] (gN 8) qY (e2 opSub (eK (.int 0)) (e2 opMul (eB 6) (eB 8)))))))
  (sApp 3 (e2 opAdd (e2 opAdd (eB 7) (eL (cmp (iR1 (eC bLen (aC (eB 0) aN))) [9] (gN 9) qY (eC bInt (aC (e2 opEq (eB 9) (eB 4)) aN))))) (eL (aC (e2 opMul (eB 6) (e2 opIx (eB 1) (eV 4))) aN))))))
    [.sh (.list (lines.map intL)), .sh (intL wanted), .sh (.int (free : Int)), .ow acc, .sh (.int (i : Int)), .sh (intL (lines.getD i [])), v6, v7, .no, .no, v10, v11, v12] =
    .next [.sh (.list (lines.map intL)), .sh (intL wanted), .sh (.int (free : Int)), .ow (acc ++ [intL (rowW (many + free + L + 1) (cel lines wanted many free L i))]), .sh (.int (i : Int)), .sh (intL (lines.getD i [])), u6, u7, .no, .no, v10, v11, v12] := by
  obtain ⟨_, hr⟩ := h.at hi
  have hf := h.fr
  generalize hrr : lines.getD i [] = r at hr
  have hs := sid_small (wan wanted i)
  have hw := h.want hi
  have c1 : cmp (iL (eB 5)) [8] (gN 8) qY (e2 opMul (eB 6) (eB 8)) [.sh (.list (lines.map intL)), .sh (intL wanted), .sh (.int (free : Int)), .ow acc, .sh (.int (i : Int)), .sh (intL r), .sh (.int (sid (wan wanted i))), v7, .no, .no, v10, v11, v12] = .ok ((r.map fun x => sid (wan wanted i) * x).map .int) := by
    have := cmp_map (it := iL (eB 5)) (vs := [8]) (g := gN 8) (t := qY) (f := e2 opMul (eB 6) (eB 8)) (e := [.sh (.list (lines.map intL)), .sh (intL wanted), .sh (.int (free : Int)), .ow acc, .sh (.int (i : Int)), .sh (intL r), .sh (.int (sid (wan wanted i))), v7, .no, .no, v10, v11, v12]) (fun d => match d with | .int x => .int (sid (wan wanted i) * x) | _ => .none) (xs := r.map .int) (il rfl) (by rw [List.length_map]; unfold szL; omega) fun x hx => by
      obtain ⟨y, _, rfl⟩ := List.mem_map.mp hx
      exact ⟨_, rfl, rfl, op2 rfl rfl (mul_l hs.1 hs.2)⟩
    rw [this, List.map_map, List.map_map]; rfl
  have c2 : cmp (iL (eSl (eB 5) oN (oS (eV 2)))) [8] (gN 8) qY (e2 opSub (eK (.int 0)) (e2 opMul (eB 6) (eB 8))) [.sh (.list (lines.map intL)), .sh (intL wanted), .sh (.int (free : Int)), .ow acc, .sh (.int (i : Int)), .sh (intL r), .sh (.int (sid (wan wanted i))), v7, .no, .no, v10, v11, v12] = .ok (((r.take free).map fun x => 0 - sid (wan wanted i) * x).map .int) := by
    have := cmp_map (it := iL (eSl (eB 5) oN (oS (eV 2)))) (vs := [8]) (g := gN 8) (t := qY) (f := e2 opSub (eK (.int 0)) (e2 opMul (eB 6) (eB 8))) (e := [.sh (.list (lines.map intL)), .sh (intL wanted), .sh (.int (free : Int)), .ow acc, .sh (.int (i : Int)), .sh (intL r), .sh (.int (sid (wan wanted i))), v7, .no, .no, v10, v11, v12]) (fun d => match d with | .int x => .int (0 - sid (wan wanted i) * x) | _ => .none) (xs := (r.map .int).take free) (il (by have := esl_to2 (f := eB 5) (g := eV 2) (e := [.sh (.list (lines.map intL)), .sh (intL wanted), .sh (.int (free : Int)), .ow acc, .sh (.int (i : Int)), .sh (intL r), .sh (.int (sid (wan wanted i))), v7, .no, .no, v10, v11, v12]) (xs := r.map .int) (m := (free : Int)) rfl rfl (by omega); rw [Int.toNat_natCast] at this; exact this)) (by simp; unfold szL; omega) fun x hx => by
      obtain ⟨y, _, rfl⟩ := List.mem_map.mp (List.mem_of_mem_take hx)
      exact ⟨_, rfl, rfl, op2 rfl (op2 rfl rfl (mul_l hs.1 hs.2)) rfl⟩
    rw [this, ← List.map_take, List.map_map, List.map_map]; rfl
  have hle : eC bLen (aC (eB 0) aN) [.sh (.list (lines.map intL)), .sh (intL wanted), .sh (.int (free : Int)), .ow acc, .sh (.int (i : Int)), .sh (intL r), .sh (.int (sid (wan wanted i))), .sh (intL ((r.map fun x => sid (wan wanted i) * x) ++ (r.take free).map fun x => 0 - sid (wan wanted i) * x)), .no, .no, v10, v11, v12] = .ok (.int (L : Int)) := by
    refine cl1 rfl ?_
    show R.ok (PyData.int ((lines.map intL).length : Int)) = _
    rw [List.length_map, h.len]
  have c3 : cmp (iR1 (eC bLen (aC (eB 0) aN))) [9] (gN 9) qY (eC bInt (aC (e2 opEq (eB 9) (eB 4)) aN)) [.sh (.list (lines.map intL)), .sh (intL wanted), .sh (.int (free : Int)), .ow acc, .sh (.int (i : Int)), .sh (intL r), .sh (.int (sid (wan wanted i))), .sh (intL ((r.map fun x => sid (wan wanted i) * x) ++ (r.take free).map fun x => 0 - sid (wan wanted i) * x)), .no, .no, v10, v11, v12] = .ok (((List.range L).map fun k => if k = i then (1 : Int) else 0).map .int) := by
    have := cmp_map (it := iR1 (eC bLen (aC (eB 0) aN))) (vs := [9]) (g := gN 9) (t := qY) (f := eC bInt (aC (e2 opEq (eB 9) (eB 4)) aN)) (e := [.sh (.list (lines.map intL)), .sh (intL wanted), .sh (.int (free : Int)), .ow acc, .sh (.int (i : Int)), .sh (intL r), .sh (.int (sid (wan wanted i))), .sh (intL ((r.map fun x => sid (wan wanted i) * x) ++ (r.take free).map fun x => 0 - sid (wan wanted i) * x)), .no, .no, v10, v11, v12]) (fun d => match d with | .int k => .int (if k = (i : Int) then 1 else 0) | _ => .none) (xs := (List.range L).map fun (k : Nat) => PyData.int (k : Int)) (ir1n hle (by omega)) (by rw [List.length_map, List.length_range]; unfold szL; omega) fun x hx => by
      obtain ⟨k, _, rfl⟩ := List.mem_map.mp hx
      refine ⟨_, rfl, rfl, (cl1 (op2 rfl rfl (eq_int _ _)) rfl).trans ?_⟩
      by_cases z : (k : Int) = (i : Int)
      · rw [decide_eq_true z]
        show R.ok (PyData.int 1) = R.ok (PyData.int (if (k : Int) = (i : Int) then 1 else 0))
        rw [if_pos z]
      · rw [decide_eq_false z]
        show R.ok (PyData.int 0) = R.ok (PyData.int (if (k : Int) = (i : Int) then 1 else 0))
        rw [if_neg z]
    rw [this, List.map_map, List.map_map]
    refine congrArg R.ok (List.map_congr_left fun k _ => ?_)
    show PyData.int (if (k : Int) = (i : Int) then 1 else 0) = PyData.int (if k = i then 1 else 0)
    by_cases z : k = i
    · rw [if_pos z, if_pos (by omega)]
    · rw [if_neg z, if_neg (by omega)]
  have s1 : sSet (gN 6) (e2 opSub (eK (.int 1)) (e2 opMul (eK (.int 2)) (eC bInt (aC (e2 opLt (e2 opIx (eB 1) (eV 4)) (eK (.int 0))) aN)))) [.sh (.list (lines.map intL)), .sh (intL wanted), .sh (.int (free : Int)), .ow acc, .sh (.int (i : Int)), .sh (intL r), v6, v7, .no, .no, v10, v11, v12] = .next [.sh (.list (lines.map intL)), .sh (intL wanted), .sh (.int (free : Int)), .ow acc, .sh (.int (i : Int)), .sh (intL r), .sh (.int (sid (wan wanted i))), v7, .no, .no, v10, v11, v12] :=
    set_ok (m_side (f := e2 opIx (eB 1) (eV 4)) (op2 rfl rfl hw))
  have s2 : sSet (gN 7) (e2 opAdd (eL (cmp (iL (eB 5)) [8] (gN 8) qY (e2 opMul (eB 6) (eB 8)))) (eL (cmp (iL (eSl (eB 5) oN (oS (eV 2)))) [8] (gN 8) qY (e2 opSub (eK (.int 0)) (e2 opMul (eB 6) (eB 8)))))) [.sh (.list (lines.map intL)), .sh (intL wanted), .sh (.int (free : Int)), .ow acc, .sh (.int (i : Int)), .sh (intL r), .sh (.int (sid (wan wanted i))), v7, .no, .no, v10, v11, v12] = .next [.sh (.list (lines.map intL)), .sh (intL wanted), .sh (.int (free : Int)), .ow acc, .sh (.int (i : Int)), .sh (intL r), .sh (.int (sid (wan wanted i))), .sh (intL ((r.map fun x => sid (wan wanted i) * x) ++ (r.take free).map fun x => 0 - sid (wan wanted i) * x)), .no, .no, v10, v11, v12] :=
    set_ok (op2 (el c1) (el c2) ((add_list (by simp; omega)).trans (by
      show R.ok (PyData.list _) = R.ok (PyData.list (((r.map fun x => sid (wan wanted i) * x) ++ (r.take free).map fun x => 0 - sid (wan wanted i) * x).map .int))
      rw [List.map_append])))
  have ee : e2 opAdd (e2 opAdd (eB 7) (eL (cmp (iR1 (eC bLen (aC (eB 0) aN))) [9] (gN 9) qY (eC bInt (aC (e2 opEq (eB 9) (eB 4)) aN))))) (eL (aC (e2 opMul (eB 6) (e2 opIx (eB 1) (eV 4))) aN)) [.sh (.list (lines.map intL)), .sh (intL wanted), .sh (.int (free : Int)), .ow acc, .sh (.int (i : Int)), .sh (intL r), .sh (.int (sid (wan wanted i))), .sh (intL ((r.map fun x => sid (wan wanted i) * x) ++ (r.take free).map fun x => 0 - sid (wan wanted i) * x)), .no, .no, v10, v11, v12] = .ok (intL (rowW (many + free + L + 1) (cel lines wanted many free L i))) := by
    refine op2 (op2 rfl (el c3) (add_list (by simp; omega))) (el (ac (op2 rfl (op2 rfl rfl hw) (mul_l hs.1 hs.2)) rfl)) ((add_list (by simp; omega)).trans ?_)
    have e0 : cel lines wanted many free L i = celr r (wan wanted i) many free L i := by
      funext j; unfold cel; rw [hrr]
    rw [e0, ← cel_row hr hf]
    show R.ok (PyData.list _) = R.ok (PyData.list (List.map PyData.int _))
    simp only [List.map_append]
    rfl
  exact ⟨_, _, (seq_next s1).trans ((seq_next s2).trans (app_ok rfl ee ha))⟩
end
end PL

namespace PL
open PySem
section
variable {lines : List (List Int)} {wanted : List Int} {many free L : Nat}
abbrev celRows (lines : List (List Int)) (wanted : List Int) (many free L n : Nat) : List D := (List.range n).map fun i => intL (rowW (many + free + L + 1) (cel lines wanted many free L i))
theorem col_sum {f : EF} {e : Env} {j : Int} {i12 : Nat} {g : Nat → Int} (hf : iL f e = .ok (celRows lines wanted many free L L)) (hL : L ≤ 100) (ix : EF)
    (hx : ∀ k, k < L → e2 opIx (eB 7) ix ((wip [7] e).set 7 (.sh (intL (rowW (many + free + L + 1) (cel lines wanted many free L k))))) = .ok (.int (g k))) :
    eC bSum (aC (eL (cmp (iL f) [7] (gN 7) qY (e2 opIx (eB 7) ix))) aN) e = .ok (.int (sumN L g)) := by
  have hm : ∃ F : D → D, ∀ k, k < L → F (intL (rowW (many + free + L + 1) (cel lines wanted many free L k))) = .int (g k) := by
    refine ⟨fun d => match e2 opIx (eB 7) ix ((wip [7] e).set 7 (.sh d)) with | .ok v => v | _ => .none, fun k hk => ?_⟩
    show (match e2 opIx (eB 7) ix ((wip [7] e).set 7 (.sh (intL (rowW (many + free + L + 1) (cel lines wanted many free L k))))) with | .ok v => v | _ => .none) = _
    rw [hx k hk]
  obtain ⟨F, hF⟩ := hm
  have hc : cmp (iL f) [7] (gN 7) qY (e2 opIx (eB 7) ix) e = .ok (((List.range L).map g).map .int) := by
    rw [cmp_map F hf (by rw [List.length_map, List.length_range]; unfold szL; omega) fun x hx' => ?_]
    · rw [List.map_map, List.map_map]
      refine congrArg R.ok (List.map_congr_left fun k hk => ?_)
      exact hF k (List.mem_range.mp hk)
    · obtain ⟨k, hk, rfl⟩ := List.mem_map.mp hx'
      refine ⟨_, rfl, rfl, ?_⟩
      rw [hF k (List.mem_range.mp hk)]
      exact hx k (List.mem_range.mp hk)
  refine cl1 (el hc) ((sum_ints _).trans ?_)
  rw [sumN_list]
theorem m_begun_loop (h : Lin lines wanted many free L) (hL : L ≤ 100) (hm : many ≤ 100) : ∃ v4 v5 v6 v7, fLoop (gT [(gN 4), (gN 5)]) (sSeq (sSet (gN 6) (e2 opSub (eK (.int 1)) (e2 opMul (eK (.int 2)) (eC bInt (aC (e2 opLt (e2 opIx (eB 1) (eV 4)) (eK (.int 0))) aN)))))
  (sSeq (sSet (gN 7) (e2 opAdd (eL (cmp (iL (eB 5)) [8] (gN 8) qY (e2 opMul (eB 6) (eB 8)))) (eL (cmp (iL (eSl (eB 5) oN (oS (eV 2)))) [8] (gN 8) qY (e2 opSub (eK (.int 0)) (e2 opMul (eB 6) (eB 8)))))))
  (sApp 3 (e2 opAdd (e2 opAdd (eB 7) (eL (cmp (iR1 (eC bLen (aC (eB 0) aN))) [9] (gN 9) qY (eC bInt (aC (e2 opEq (eB 9) (eB 4)) aN))))) (eL (aC (e2 opMul (eB 6) (e2 opIx (eB 1) (eV 4))) aN))))))
    (enD 0 (lines.map intL)) [.sh (.list (lines.map intL)), .sh (intL wanted), .sh (.int (free : Int)), .ow [], .no, .no, .no, .no, .no, .no, .no, .no, .no] =
    .next [.sh (.list (lines.map intL)), .sh (intL wanted), .sh (.int (free : Int)), .ow (celRows lines wanted many free L L), v4, v5, v6, v7, .no, .no, .no, .no, .no] := by
  obtain ⟨e', f1, v4, v5, v6, v7, f2⟩ := fLoop_inv (g := gT [(gN 4), (gN 5)]) (b := (sSeq (sSet (gN 6) (e2 opSub (eK (.int 1)) (e2 opMul (eK (.int 2)) (eC bInt (aC (e2 opLt (e2 opIx (eB 1) (eV 4)) (eK (.int 0))) aN)))))
  (sSeq (sSet (gN 7) (e2 opAdd (eL (cmp (iL (eB 5)) [8] (gN 8) qY (e2 opMul (eB 6) (eB 8)))) (eL (cmp (iL (eSl (eB 5) oN (oS (eV 2)))) [8] (gN 8) qY (e2 opSub (eK (.int 0)) (e2 opMul (eB 6) (eB 8)))))))
  (sApp 3 (e2 opAdd (e2 opAdd (eB 7) (eL (cmp (iR1 (eC bLen (aC (eB 0) aN))) [9] (gN 9) qY (eC bInt (aC (e2 opEq (eB 9) (eB 4)) aN))))) (eL (aC (e2 opMul (eB 6) (e2 opIx (eB 1) (eV 4))) aN))))))) (fun i e => ∃ v4 v5 v6 v7, e = [.sh (.list (lines.map intL)), .sh (intL wanted), .sh (.int (free : Int)), .ow (celRows lines wanted many free L i), v4, v5, v6, v7, .no, .no, .no, .no, .no])
    (xs := enD 0 (lines.map intL)) (e := [.sh (.list (lines.map intL)), .sh (intL wanted), .sh (.int (free : Int)), .ow [], .no, .no, .no, .no, .no, .no, .no, .no, .no]) ⟨.no, .no, .no, .no, rfl⟩ fun i hi e ⟨v4, v5, v6, v7, he⟩ => by
      subst he
      have hi' : i < L := by rw [enD_length, List.length_map, h.len] at hi; exact hi
      have ex : (enD 0 (lines.map intL))[i]'hi = .tuple [.int (i : Int), intL (lines.getD i [])] := by
        have q := enD_at 0 (lines.map intL) i
        rw [List.getElem?_map, (h.at hi').1, List.getElem?_eq_getElem hi] at q
        have := Option.some.inj q
        rw [this]
        simp
      rw [ex]
      obtain ⟨u6, u7, hb⟩ := m_begun_row h hL hm hi' (acc := celRows lines wanted many free L i) (by rw [List.length_map, List.length_range]; omega) (v6 := v6) (v7 := v7) (v10 := .no) (v11 := .no) (v12 := .no)
      refine ⟨_, _, rfl, hb, .sh (.int (i : Int)), .sh (intL (lines.getD i [])), u6, u7, ?_⟩
      have er : celRows lines wanted many free L (i + 1) = celRows lines wanted many free L i ++ [intL (rowW (many + free + L + 1) (cel lines wanted many free L i))] := by
        unfold celRows
        rw [List.range_succ, List.map_append]; rfl
      rw [er]
  rw [enD_length, List.length_map, h.len] at f2
  exact ⟨v4, v5, v6, v7, f1.trans (by rw [f2])⟩
end
end PL

namespace PL
open PySem
section
variable {lines : List (List Int)} {wanted : List Int} {many free L : Nat}
/-- the aim's row -/
theorem cost_row : ((List.range (many + free)).map fun j => 0 - sumN L fun k => cel lines wanted many free L k j) ++ List.replicate L (0 : Int) ++ [0 - sumN L fun k => cel lines wanted many free L k (many + free + L)] = rowW (many + free + L + 1) fun j => first lines wanted many free L j L := by
  have hf : ∀ j, first lines wanted many free L j L = if j < many + free ∨ many + free + L ≤ j then - sumN L (fun k => cel lines wanted many free L k j) else 0 := fun j => by
    unfold first
    rw [if_neg (Nat.lt_irrefl L)]
  apply List.ext_getElem?
  intro j
  unfold rowW
  rw [List.getElem?_map]
  by_cases h1 : j < many + free
  · rw [List.getElem?_append_left (by simp; omega), List.getElem?_append_left (by simp; omega), List.getElem?_map, List.getElem?_range h1, List.getElem?_range (by omega)]
    simp only [Option.map_some]
    rw [hf, if_pos (.inl h1), Int.zero_sub]
  · by_cases h2 : j < many + free + L
    · rw [List.getElem?_append_left (by simp; omega), List.getElem?_append_right (by simp; omega), List.getElem?_range (by omega), List.getElem?_replicate, if_pos (by simp; omega)]
      simp only [Option.map_some]
      rw [hf, if_neg (by omega)]
    · have e : (List.map (fun j => 0 - sumN L fun k => cel lines wanted many free L k j) (List.range (many + free)) ++ List.replicate L (0 : Int)).length = many + free + L := by simp
      by_cases h3 : j = many + free + L
      · subst h3
        rw [List.getElem?_append_right (by omega), List.getElem?_range (by omega), e, Nat.sub_self]
        simp only [Option.map_some]
        rw [hf, if_pos (.inr (Nat.le_refl _)), Int.zero_sub]; rfl
      · rw [List.getElem?_eq_none (by rw [List.length_append, e]; simp; omega), List.getElem?_eq_none (by rw [List.length_range]; omega)]; rfl
theorem m_begun_ok (h : Lin lines wanted many free L) (hL : L ≤ 100) (hm : many ≤ 100) : m_begun [.list (lines.map intL), intL wanted, .int (free : Int)] = .ok (rows0 (first lines wanted many free L) L (many + free)) := by
  obtain ⟨v4, v5, v6, v7, hl⟩ := m_begun_loop h hL hm
  have hf := h.fr
  have hp := h.pos
  have h0 : opIx (.list (lines.map intL)) (.int 0) = .ok (intL (lines.getD 0 [])) := by
    obtain ⟨d, q1, _, q3⟩ := ix_list (xs := lines.map intL) (k := 0) (by decide) (by rw [List.length_map, h.len]; omega)
    rw [q3]
    rw [show (0 : Int).toNat = 0 from rfl, List.getElem?_map, (h.at (i := 0) (by omega)).1] at q1
    cases q1; rfl
  have hmany : bLen [intL (lines.getD 0 [])] = .ok (.int (many : Int)) := by
    show R.ok (PyData.int (((lines.getD 0 []).map PyData.int).length : Int)) = _
    rw [List.length_map, (h.at (i := 0) (by omega)).2]
  have hlen : bLen [.list (lines.map intL)] = .ok (.int (L : Int)) := by
    show R.ok (PyData.int ((lines.map intL).length : Int)) = _
    rw [List.length_map, h.len]
  refine fn_ret ?_
  refine (seq_next (e' := [.sh (.list (lines.map intL)), .sh (intL wanted), .sh (.int (free : Int)), .ow [], .no, .no, .no, .no, .no, .no, .no, .no, .no]) rfl).trans ?_
  refine (seq_next (for_ok rfl hl)).trans ?_
  refine (seq_next (set_ok (d := .int ((many + free : Nat) : Int)) (op2 (cl1 (op2 rfl rfl h0) hmany) rfl (by rw [Int.natCast_add]; rfl)))).trans ?_
  have hc := cmp_map (it := iR1 (eV 10)) (vs := [12]) (g := gN 12) (t := qY) (f := e2 opSub (eK (.int 0)) (eC bSum (aC (eL (cmp (iL (eB 3)) [7] (gN 7) qY (e2 opIx (eB 7) (eV 12)))) aN))) (e := [.sh (.list (lines.map intL)), .sh (intL wanted), .sh (.int (free : Int)), .ow (celRows lines wanted many free L L), v4, v5, v6, v7, .no, .no, .sh (.int ((many + free : Nat) : Int)), .no, .no])
    (fun d => match d with | .int j => .int (0 - sumN L fun k => cel lines wanted many free L k j.toNat) | _ => .none) (ir1n (n := many + free) rfl (by omega)) (by rw [List.length_map, List.length_range]; unfold szL; omega) fun x hx => by
      obtain ⟨j, hj, rfl⟩ := List.mem_map.mp hx
      have hj' := List.mem_range.mp hj
      refine ⟨_, rfl, rfl, op2 rfl (col_sum (j := 0) (i12 := 12) (many := many) (free := free) (wanted := wanted) (lines := lines) rfl hL (eV 12) fun k hk => op2 rfl rfl (rowW_ix (by omega))) ?_⟩
      show R.ok (PyData.int (0 - sumN L fun k => cel lines wanted many free L k j)) = R.ok (PyData.int (0 - sumN L fun k => cel lines wanted many free L k ((j : Int).toNat)))
      rw [Int.toNat_natCast]
  have hc' : cmp (iR1 (eV 10)) [12] (gN 12) qY (e2 opSub (eK (.int 0)) (eC bSum (aC (eL (cmp (iL (eB 3)) [7] (gN 7) qY (e2 opIx (eB 7) (eV 12)))) aN))) [.sh (.list (lines.map intL)), .sh (intL wanted), .sh (.int (free : Int)), .ow (celRows lines wanted many free L L), v4, v5, v6, v7, .no, .no, .sh (.int ((many + free : Nat) : Int)), .no, .no] = .ok (((List.range (many + free)).map fun j => 0 - sumN L fun k => cel lines wanted many free L k j).map .int) := by
    rw [hc, List.map_map, List.map_map]
    refine congrArg R.ok (List.map_congr_left fun j _ => ?_)
    show PyData.int (0 - sumN L fun k => cel lines wanted many free L k ((j : Int).toNat)) = _
    rw [Int.toNat_natCast]; rfl
  have s11 : sSet (gN 11) (eL (cmp (iR1 (eV 10)) [12] (gN 12) qY (e2 opSub (eK (.int 0)) (eC bSum (aC (eL (cmp (iL (eB 3)) [7] (gN 7) qY (e2 opIx (eB 7) (eV 12)))) aN))))) [.sh (.list (lines.map intL)), .sh (intL wanted), .sh (.int (free : Int)), .ow (celRows lines wanted many free L L), v4, v5, v6, v7, .no, .no, .sh (.int ((many + free : Nat) : Int)), .no, .no] = .next [.sh (.list (lines.map intL)), .sh (intL wanted), .sh (.int (free : Int)), .ow (celRows lines wanted many free L L), v4, v5, v6, v7, .no, .no, .sh (.int ((many + free : Nat) : Int)), .sh (intL ((List.range (many + free)).map fun j => 0 - sumN L fun k => cel lines wanted many free L k j)), .no] := set_ok (el hc')
  refine (seq_next s11).trans ?_
  have hz : e2 opAdd (eB 11) (e2 opMul (eL (aC (eK (.int 0)) aN)) (eC bLen (aC (eB 0) aN))) [.sh (.list (lines.map intL)), .sh (intL wanted), .sh (.int (free : Int)), .ow (celRows lines wanted many free L L), v4, v5, v6, v7, .no, .no, .sh (.int ((many + free : Nat) : Int)), .sh (intL ((List.range (many + free)).map fun j => 0 - sumN L fun k => cel lines wanted many free L k j)), .no] = .ok (.list ((((List.range (many + free)).map fun j => 0 - sumN L fun k => cel lines wanted many free L k j).map .int) ++ ((List.replicate (L : Int).toNat (0 : Int)).map .int))) :=
    op2 rfl (op2 (el rfl) (cl1 rfl hlen) (mul_list (by omega) (by omega))) (add_list (by simp; omega))
  have hy : e2 opSub (eK (.int 0)) (eC bSum (aC (eL (cmp (iL (eB 3)) [7] (gN 7) qY (e2 opIx (eB 7) (e1 opNeg (eK (.int 1)))))) aN)) [.sh (.list (lines.map intL)), .sh (intL wanted), .sh (.int (free : Int)), .ow (celRows lines wanted many free L L), v4, v5, v6, v7, .no, .no, .sh (.int ((many + free : Nat) : Int)), .sh (intL ((List.range (many + free)).map fun j => 0 - sumN L fun k => cel lines wanted many free L k j)), .no] = .ok (.int (0 - sumN L fun k => cel lines wanted many free L k (many + free + L))) :=
    op2 rfl (col_sum (j := 0) (i12 := 12) (many := many) (free := free) (wanted := wanted) (lines := lines) rfl hL (e1 opNeg (eK (.int 1))) fun k hk => op2 rfl (op1 (o := opNeg) (x := .int 1) rfl rfl) rowW_last) rfl
  refine ret_to (op2 rfl (el (ac (op2 hz (el (ac hy rfl)) (add_list (by simp; omega))) rfl)) (add_list (by simp; omega))) ?_
  unfold rows0 tabW
  rw [List.range_succ, List.map_append]
  have eA : ((List.range L).map fun k => intL (rowW (many + free + L + 1) fun j => first lines wanted many free L j k)) = celRows lines wanted many free L L := List.map_congr_left fun i hi => by
    have hi' := List.mem_range.mp hi
    have : (fun j => first lines wanted many free L j i) = cel lines wanted many free L i := by
      funext j; unfold first; rw [if_pos hi']
    rw [this]
  have eB' : ([L].map fun k => intL (rowW (many + free + L + 1) fun j => first lines wanted many free L j k)) = [intL (rowW (many + free + L + 1) fun j => first lines wanted many free L j L)] := rfl
  rw [eA, eB', ← cost_row, Int.toNat_natCast]
  have eC' : intL (((List.range (many + free)).map fun j => 0 - sumN L fun k => cel lines wanted many free L k j) ++ List.replicate L (0 : Int) ++ [0 - sumN L fun k => cel lines wanted many free L k (many + free + L)]) = .list ((((List.range (many + free)).map fun j => 0 - sumN L fun k => cel lines wanted many free L k j).map .int) ++ ((List.replicate L (0 : Int)).map .int) ++ [.int (0 - sumN L fun k => cel lines wanted many free L k (many + free + L))]) := by
    show PyData.list (List.map PyData.int _) = _
    rw [List.map_append, List.map_append]
    rfl
  rw [eC']
end
end PL

namespace PL
theorem fac_mono : ∀ {n k : Nat}, n ≤ k → fac n ≤ fac k := fun {n k} h => by
  induction h with
  | refl => exact Nat.le_refl _
  | @step m _ ih =>
    refine Nat.le_trans ih ?_
    show fac m ≤ (m + 1) * fac m
    exact Nat.le_mul_of_pos_left _ (Nat.succ_pos m)
theorem big_fact : fac 41 * (41 * 10 ^ 30) ^ 41 < 2 ^ 5000 := by decide +kernel
theorem big_le {L : Nat} (hL : L ≤ 40) : fac (L + 1) * (41 * 10 ^ 30) ^ (L + 1) < 2 ^ 5000 := by
  refine Nat.lt_of_le_of_lt (Nat.mul_le_mul (fac_mono (show L + 1 ≤ 41 by omega)) (Nat.pow_le_pow_right (by decide) (show L + 1 ≤ 41 by omega))) big_fact
section
variable {lines : List (List Int)} {wanted : List Int} {many free L : Nat}
theorem getD_abs {l : List Int} {i M : Nat} (h : ∀ x ∈ l, x.natAbs ≤ M) : (l.getD i 0).natAbs ≤ M := by
  rw [List.getD_eq_getElem?_getD]
  cases e : l[i]? with
  | none => exact Nat.zero_le _
  | some x => exact h x (List.mem_of_getElem? e)
theorem sid_abs (w x : Int) : (sid w * x).natAbs = x.natAbs := by
  unfold sid
  split
  · rw [Int.neg_one_mul, Int.natAbs_neg]
  · rw [Int.one_mul]
theorem cel_abs {M i j : Nat} (h1 : ∀ l ∈ lines, ∀ x ∈ l, x.natAbs ≤ M) (h2 : ∀ x ∈ wanted, x.natAbs ≤ M) (hM : 1 ≤ M) : (cel lines wanted many free L i j).natAbs ≤ M := by
  have hr : ∀ x ∈ lines.getD i [], x.natAbs ≤ M := fun x hx => by
    rw [List.getD_eq_getElem?_getD] at hx
    cases e : lines[i]? with
    | none => rw [e] at hx; cases hx
    | some l => rw [e] at hx; exact h1 l (List.mem_of_getElem? e) x hx
  unfold cel celr
  split
  · rw [sid_abs]; exact getD_abs hr
  · split
    · rw [Int.zero_sub, Int.natAbs_neg, sid_abs]; exact getD_abs hr
    · split
      · split
        · exact hM
        · exact Nat.zero_le _
      · rw [sid_abs]; exact getD_abs h2
theorem first_siz (h1 : ∀ l ∈ lines, ∀ x ∈ l, x.natAbs ≤ 10 ^ 30) (h2 : ∀ x ∈ wanted, x.natAbs ≤ 10 ^ 30) (hL : L ≤ 40) : Siz (first lines wanted many free L) L (many + free) 5000 := by
  refine siz_of (M := 41 * 10 ^ 30) (fun j hj i hi => ?_) (by decide) (big_le hL)
  unfold first
  split
  · exact Nat.le_trans (cel_abs h1 h2 (by decide)) (by decide)
  · split
    · rw [Int.natAbs_neg]
      refine Nat.le_trans (sumN_abs (M := 10 ^ 30) fun k _ => cel_abs h1 h2 (by decide)) ?_
      exact Nat.mul_le_mul_right _ (by omega)
    · exact Nat.zero_le _
end
end PL

namespace PL
open PySem
theorem put_ok {i : Nat} {k f : EF} {e : Env} {xs : List Int} {z : Int} {j : Nat} (h1 : e[i]? = some (.ow (xs.map .int))) (h2 : f e = .ok (.int z)) (h3 : k e = .ok (.int (j : Int))) (hj : j < xs.length) : sPut i k f e = .next (e.set i (.ow ((xs.set j z).map .int))) := by
  unfold sPut
  rw [h1]
  dsimp only
  rw [h2]
  show (k e).out _ = _
  rw [h3]
  have hix : ixN (xs.map PyData.int).length (j : Int) = some j := by
    unfold ixN
    rw [if_pos (by omega), if_pos (by rw [List.length_map]; omega), Int.toNat_natCast]
  show (toR (ixN (xs.map PyData.int).length (j : Int))).out _ = _
  rw [hix, List.map_set]
  rfl
end PL

namespace PL
open PySem
/-! ### what solved tells: an answer, or weights -/
structure AnsR (lines : List (List Int)) (wanted : List Int) (many free L : Nat) (x : Nat → Int) (d : Int) : Prop where
  pos : 0 < d
  nn : ∀ j, free ≤ j → j < many → 0 ≤ x j
  eq : ∀ i, i < L → (sumN many fun j => (lines.getD i []).getD j 0 * x j) = wan wanted i * d
  sz : ∀ j, j < many → (x j).natAbs < 2 ^ 6000
  dz : d.natAbs < 2 ^ 6000
structure WtsR (lines : List (List Int)) (wanted : List Int) (many free L : Nat) (w : Nat → Int) : Prop where
  eq : ∀ j, j < free → (sumN L fun i => (lines.getD i []).getD j 0 * w i) = 0
  le : ∀ j, j < many → (sumN L fun i => (lines.getD i []).getD j 0 * w i) ≤ 0
  pos : 0 < sumN L fun i => wan wanted i * w i
  sz : ∀ i, i < L → (w i).natAbs < 2 ^ 6000
section
variable {lines : List (List Int)} {wanted : List Int} {many free L : Nat} {b : Nat → Nat}
theorem sid_sq (w x : Int) : sid w * (sid w * x) = x := by unfold sid; split <;> omega
theorem sumN_app (f : Nat → Int) (n : Nat) : ∀ m : Nat, sumN (n + m) f = sumN n f + sumN m fun k => f (n + k)
  | 0 => by show sumN n f = sumN n f + 0; omega
  | m + 1 => by
    show sumN (n + m) f + f (n + m) = sumN n f + ((sumN m fun k => f (n + k)) + f (n + m))
    rw [sumN_app f n m]; omega
theorem sumN_add (f g : Nat → Int) (n : Nat) : (sumN n fun k => f k + g k) = sumN n f + sumN n g := by
  have := sumN_lin (f := fun k => f k + g k) (g := f) (h := g) (a := 1) (b := 1) (n := n) fun k _ => by simp
  rw [this]; simp
theorem sumN_sub (f g : Nat → Int) (n : Nat) : (sumN n fun k => f k - g k) = sumN n f - sumN n g := by
  have := sumN_lin (f := fun k => f k - g k) (g := f) (h := g) (a := 1) (b := -1) (n := n) fun k _ => by omega
  rw [this]; omega
theorem first_lo {i j : Nat} (hi : i < L) (hj : j < many) : first lines wanted many free L j i = sid (wan wanted i) * (lines.getD i []).getD j 0 := by
  unfold first cel celr; rw [if_pos hi, if_pos hj]
theorem first_fr {i j : Nat} (hi : i < L) (hj : j < free) : first lines wanted many free L (many + j) i = - (sid (wan wanted i) * (lines.getD i []).getD j 0) := by
  unfold first cel celr; rw [if_pos hi, if_neg (by omega), if_pos (by omega), show many + j - many = j by omega]; omega
theorem first_z {i : Nat} (hi : i < L) : first lines wanted many free L (many + free + L) i = sid (wan wanted i) * wan wanted i := by
  unfold first cel celr; rw [if_pos hi, if_neg (by omega), if_neg (by omega), if_neg (by omega)]
def wtv (A : Mat) (wanted : List Int) (wide L : Nat) (b : Nat → Nat) (i : Nat) : Int := sid (wan wanted i) * (Dm A L b - Tm A L b L (wide + i))
theorem wts_of {A : Mat} (hA : first lines wanted many free L = A) (sz : Siz A L (many + free) 5000) (g : Good A L (many + free + L) b) (vb : Val L (many + free) b) (op : ∀ j, j < many + free → 0 ≤ Tm A L b L j) (hf : free ≤ many)
    (neg : Tm A L b L (many + free + L) < 0) : WtsR lines wanted many free L (wtv A wanted (many + free) L b) := by
  have t : Tbl A L (many + free) := by rw [← hA]; exact first_tbl
  have k1 : ∀ j, j < many → (sumN L fun i => (lines.getD i []).getD j 0 * wtv A wanted (many + free) L b i) = - Tm A L b L j := fun j hj => by
    rw [t.dual (.inl (by omega)), Int.neg_neg]
    refine sumN_congr fun i hi => ?_
    rw [← hA, first_lo hi hj]
    unfold wtv
    grind
  have k2 : ∀ j, j < free → (sumN L fun i => (lines.getD i []).getD j 0 * wtv A wanted (many + free) L b i) = Tm A L b L (many + j) := fun j hj => by
    rw [t.dual (.inl (by omega)), ← sumN_neg]
    refine sumN_congr fun i hi => ?_
    rw [← hA, first_fr hi hj]
    unfold wtv
    grind
  have k3 : (sumN L fun i => wan wanted i * wtv A wanted (many + free) L b i) = - Tm A L b L (many + free + L) := by
    rw [t.dual (.inr rfl), Int.neg_neg]
    refine sumN_congr fun i hi => ?_
    rw [← hA, first_z hi]
    unfold wtv
    grind
  refine ⟨fun j hj => ?_, fun j hj => ?_, by rw [k3]; omega, fun i hi => ?_⟩
  · have a := k1 j (by omega)
    have b1 := k2 j hj
    have c := op j (by omega)
    have d := op (many + j) (by omega)
    omega
  · rw [k1 j hj]
    have := op j (by omega)
    omega
  · obtain ⟨s1, s2⟩ := sz b vb
    have h1 := s1 L (by omega) (many + free + i) (by omega)
    unfold wtv
    rw [sid_abs]
    have h2 := Int.natAbs_sub_le (Dm A L b) (Tm A L b L (many + free + i))
    have h3 : (2 : Nat) ^ 5000 + 2 ^ 5000 ≤ 2 ^ 6000 := by decide +kernel
    omega
/-- what stands at place p of the answer -/
def nmv (A : Mat) (L z : Nat) (b : Nat → Nat) (n p : Nat) : Int := sumN n fun k => if b k = p then Tm A L b k z else 0
def ansv (A : Mat) (many free L : Nat) (b : Nat → Nat) (p : Nat) : Int := nmv A L (many + free + L) b L p - (if p < free then nmv A L (many + free + L) b L (many + p) else 0)
theorem sumN_pick (m : Nat) (p : Nat) (v : Int) (f : Nat → Int) : (sumN m fun q => f q * (if p = q then v else 0)) = if p < m then f p * v else 0 := by
  by_cases h : p < m
  · rw [if_pos h, sumN_one h fun l _ hne => by rw [if_neg fun e => hne e.symm, Int.mul_zero], if_pos rfl]
  · rw [if_neg h, sumN_zero fun k hk => by rw [if_neg (by omega), Int.mul_zero]]
theorem ans_of {A : Mat} (hA : first lines wanted many free L = A) (sz : Siz A L (many + free) 5000) (g : Good A L (many + free + L) b) (vb : Val L (many + free) b) (hf : free ≤ many) (hL : L ≤ 40)
    (zero : Tm A L b L (many + free + L) = 0) : AnsR lines wanted many free L (ansv A many free L b) (Dm A L b) := by
  have t : Tbl A L (many + free) := by rw [← hA]; exact first_tbl
  have bl : ∀ p, (nmv A L (many + free + L) b L p).natAbs ≤ L * 2 ^ 5000 := fun p => sumN_abs fun k hk => by
    split
    · exact Nat.le_of_lt ((sz b vb).1 k (by omega) _ (by omega))
    · exact Nat.zero_le _
  have h4 : L * 2 ^ 5000 + L * 2 ^ 5000 < 2 ^ 6000 := by
    have : L * 2 ^ 5000 ≤ 40 * 2 ^ 5000 := Nat.mul_le_mul_right _ hL
    have h5 : 40 * 2 ^ 5000 + 40 * 2 ^ 5000 < 2 ^ 6000 := by decide +kernel
    omega
  have nn : ∀ p, 0 ≤ nmv A L (many + free + L) b L p := fun p => sumN_nonneg fun k hk => by
    split
    · exact g.fea k hk
    · exact Int.le_refl _
  refine ⟨g.tab.pos, fun j h1 h2 => ?_, fun i hi => ?_, fun j hj => ?_, Nat.lt_trans (sz b vb).2 (by decide +kernel)⟩
  · unfold ansv; rw [if_neg (by omega)]; have := nn j; omega
  · have e1 := t.primal g vb zero hi
    have lo := (t.low g vb).2 zero
    -- columns told by places
    have e2 : (sumN L fun k => Tm A L b k (many + free + L) * A (b k) i) = sumN (many + free) fun p => A p i * nmv A L (many + free + L) b L p := by
      unfold nmv
      rw [sumN_congr (g := fun p => sumN L fun k => A p i * (if b k = p then Tm A L b k (many + free + L) else 0)) fun p _ => (sumN_mul _).symm, sumN_comm]
      refine sumN_congr fun k hk => ?_
      rw [sumN_pick]
      by_cases q : b k < many + free
      · rw [if_pos q, Int.mul_comm]
      · rw [if_neg q, lo k hk (by omega), Int.zero_mul]
    rw [e2, sumN_app] at e1
    have e3 : (sumN many fun p => A p i * nmv A L (many + free + L) b L p) = sid (wan wanted i) * sumN many fun j => (lines.getD i []).getD j 0 * nmv A L (many + free + L) b L j := by
      rw [← sumN_mul]
      refine sumN_congr fun p hp => ?_
      rw [← hA, first_lo hi hp, Int.mul_assoc]
    have e4 : (sumN free fun p => A (many + p) i * nmv A L (many + free + L) b L (many + p)) = sid (wan wanted i) * - sumN many fun j => (lines.getD i []).getD j 0 * (if j < free then nmv A L (many + free + L) b L (many + j) else 0) := by
      obtain ⟨m', rfl⟩ : ∃ m', many = free + m' := ⟨many - free, by omega⟩
      rw [sumN_app (fun j => (lines.getD i []).getD j 0 * (if j < free then nmv A L (free + m' + free + L) b L (free + m' + j) else 0)) free m']
      rw [sumN_zero (n := m') fun k _ => by rw [if_neg (by omega), Int.mul_zero], Int.add_zero, ← sumN_neg, ← sumN_mul]
      refine sumN_congr fun p hp => ?_
      rw [← hA, first_fr hi hp, if_pos hp]
      grind
    have e5 : A (many + free + L) i = sid (wan wanted i) * wan wanted i := by rw [← hA]; exact first_z hi
    rw [e3, e4, e5, ← Int.mul_add] at e1
    have e6 : (sumN many fun j => (lines.getD i []).getD j 0 * ansv A many free L b j) = (sumN many fun j => (lines.getD i []).getD j 0 * nmv A L (many + free + L) b L j) - sumN many fun j => (lines.getD i []).getD j 0 * (if j < free then nmv A L (many + free + L) b L (many + j) else 0) := by
      rw [← sumN_sub]
      refine sumN_congr fun j _ => ?_
      unfold ansv
      rw [Int.mul_sub]
    rw [e6, Int.mul_comm (wan wanted i)]
    have e7 : sid (wan wanted i) * (Dm A L b * wan wanted i) = sid (wan wanted i) * ((sumN many fun j => (lines.getD i []).getD j 0 * nmv A L (many + free + L) b L j) + - sumN many fun j => (lines.getD i []).getD j 0 * (if j < free then nmv A L (many + free + L) b L (many + j) else 0)) := by
      rw [← e1]; grind
    have e8 := congrArg (fun v => sid (wan wanted i) * v) e7
    simp only [sid_sq] at e8
    omega
  · unfold ansv
    have a := bl j
    by_cases q : j < free
    · rw [if_pos q]
      have c := bl (many + j)
      have := Int.natAbs_sub_le (nmv A L (many + free + L) b L j) (nmv A L (many + free + L) b L (many + j))
      omega
    · rw [if_neg q, Int.sub_zero]; omega
end
end PL

namespace PL
open PySem
/-! ### reckoning by itself -/
section
variable {a b : SF} {f g h q : EF} {l : LF} {t u : TF} {e : Env} {d : D} {i : Nat} {o : Out}
theorem sq_set {d : D} (h : f e = .ok d) (h2 : b (e.set i (.sh d)) = o) : sSeq (sSet (gN i) f) b e = o := (seq_next (set_ok h)).trans h2
theorem sq_do {d : D} (h : f e = .ok d) (h2 : b e = o) : sSeq (sDo f) b e = o := (seq_next (do_ok h)).trans h2
theorem sq_ift {a2 : SF} {d : D} (h : t e = .ok true) (h2 : a e = .ret d) (h3 : Out.ret d = o) : sSeq (sIf t a a2) b e = o := (seq_ret ((if_t h).trans h2)).trans h3
theorem sq_iff {h' : t e = .ok false} (h2 : b e = o) : sSeq (sIf t a sNil) b e = o := (seq_next ((if_f h').trans rfl)).trans h2
theorem op_own {xs : List D} (h : l e = .ok xs) (h2 : b (e.set i (.ow xs)) = o) : sSeq (sOwn i l) b e = o := (seq_next (by unfold sOwn; rw [h]; rfl)).trans h2
theorem cl5 {m : List D → R D} {f g h q p : EF} {e : Env} {x y z w v : D} {r : R D} (h1 : f e = .ok x) (h2 : g e = .ok y) (h3 : h e = .ok z) (h4 : q e = .ok w) (h5 : p e = .ok v) (hm : m [x, y, z, w, v] = r) : eC m (aC f (aC g (aC h (aC q (aC p aN))))) e = r := by
  unfold eC; rw [ac h1 (ac h2 (ac h3 (ac h4 (ac h5 an))))]; exact hm
theorem cl0 {m : List D → R D} {r : R D} (h : m [] = r) : eC m aN e = r := h
theorem cl4' {m : List D → R D} {f g h q : EF} {e : Env} {x y z w : D} {r : R D} (h1 : f e = .ok x) (h2 : g e = .ok y) (h3 : h e = .ok z) (h4 : q e = .ok w) (hm : m [x, y, z, w] = r) : eC m (aC f (aC g (aC h (aC q aN)))) e = r := by
  show ((f e).bind fun d => ((g e).bind fun d2 => ((h e).bind fun d3 => ((q e).bind fun d4 => R.ok [d4]).bind fun ds => R.ok (d3 :: ds)).bind fun ds => R.ok (d2 :: ds)).bind fun ds => R.ok (d :: ds)).bind m = r
  rw [h1, R.bind_ok, h2, R.bind_ok, h3, R.bind_ok, h4]; exact hm
theorem ir1' {n : Int} (h : f e = .ok (.int n)) (h1 : smI n = true) : iR1 f e = .ok (rng 0 n) := by
  unfold iR1; rw [h, R.bind_ok]
  show (if smI n = true then R.ok (rng 0 n) else .stk) = _
  rw [if_pos h1]
theorem iz' {xs ys : List D} (h : f e = .ok (.list xs)) (h2 : g e = .ok (.list ys)) : iZ f g e = .ok (zipD xs ys) := by unfold iZ; rw [h, R.bind_ok, h2]; rfl
theorem ie' {xs : List D} (h : f e = .ok (.list xs)) : iE f e = .ok (enD 0 xs) := by unfold iE; rw [h]; rfl
theorem it' {xs : List D} (h : f e = .ok (.tuple xs)) : iT f e = .ok xs := by unfold iT; rw [h]; rfl
theorem sl2 {o p : Env → R (Option Int)} {x y : Option Int} {r : R D} (h : f e = .ok d) (h1 : o e = .ok x) (h2 : p e = .ok y) (h3 : opSl d x y = r) : eSl f o p e = r := by unfold eSl; rw [h, R.bind_ok, h1, R.bind_ok, h2]; exact h3
theorem os' {z : Int} (h : f e = .ok (.int z)) : oS f e = .ok (some z) := by unfold oS; rw [h]; rfl
theorem ret' {d' : D} (h : f e = .ok d) (h2 : Out.ret d = o) : sRet f e = o := (ret_ok h).trans h2
theorem for' {it : LF} {g : GF} {xs : List D} (h : it e = .ok xs) (h2 : fLoop g b xs e = o) : sFor it g b e = o := for_ok h h2
end
end PL

namespace PL
open PySem
/-! ### solved, walked -/
section
variable {lines : List (List Int)} {wanted : List Int} {many free L : Nat}
theorem tab_zz {A : Mat} {L W : Nat} {b : Nat → Nat} : e2 opIx (e2 opIx (eB 5) (e1 opNeg (eK (.int 1)))) (e1 opNeg (eK (.int 1))) = e2 opIx (e2 opIx (eB 5) (e1 opNeg (eK (.int 1)))) (e1 opNeg (eK (.int 1))) := rfl
abbrev sgnE : EF := e2 opSub (eK (.int 1)) (e2 opMul (eK (.int 2)) (eC bInt (aC (e2 opLt (e2 opIx (eB 1) (eV 9)) (eK (.int 0))) aN)))
/-- the weights are put together -/
theorem wts_loop {A : Mat} {b : Nat → Nat} {m7 : Int} {v3 v6 v11 v12 : SV} (h : Lin lines wanted many free L) (hL : L ≤ 40) (hd : m7 = Dm A L b) :
    ∃ v9 v10, fLoop (gN 9) (sSeq (sSet (gN 10) sgnE)
      (sApp 8 (e2 opMul (eB 10) (e2 opSub (eB 7) (e2 opIx (e2 opIx (eB 5) (e1 opNeg (eK (.int 1)))) (e2 opAdd (eB 4) (eB 9)))))))
      ((List.range L).map fun (k : Nat) => PyData.int (k : Int)) [.sh (.list (lines.map intL)), .sh (intL wanted), .sh (.int (free : Int)), v3, .sh (.int ((many + free : Nat) : Int)), .sh (rowsD A L (many + free) b), v6, .sh (.int m7), .ow [], .no, .no, v11, v12]
    = .next [.sh (.list (lines.map intL)), .sh (intL wanted), .sh (.int (free : Int)), v3, .sh (.int ((many + free : Nat) : Int)), .sh (rowsD A L (many + free) b), v6, .sh (.int m7), .ow (((List.range L).map fun i => wtv A wanted (many + free) L b i).map .int), v9, v10, v11, v12] := by
  obtain ⟨e', f1, v9, v10, f2⟩ := fLoop_inv (g := gN 9) (b := sSeq (sSet (gN 10) sgnE)
      (sApp 8 (e2 opMul (eB 10) (e2 opSub (eB 7) (e2 opIx (e2 opIx (eB 5) (e1 opNeg (eK (.int 1)))) (e2 opAdd (eB 4) (eB 9)))))))
    (fun i e => ∃ v9 v10, e = [.sh (.list (lines.map intL)), .sh (intL wanted), .sh (.int (free : Int)), v3, .sh (.int ((many + free : Nat) : Int)), .sh (rowsD A L (many + free) b), v6, .sh (.int m7), .ow (((List.range i).map fun i => wtv A wanted (many + free) L b i).map .int), v9, v10, v11, v12])
    (xs := (List.range L).map fun (k : Nat) => PyData.int (k : Int)) ⟨.no, .no, rfl⟩ fun i hi e ⟨v9, v10, h1⟩ => by
      subst h1
      rw [range_get]
      have hi' : i < L := by rw [List.length_map, List.length_range] at hi; exact hi
      refine ⟨_, _, rfl, ?_, .sh (.int (i : Int)), .sh (.int (sid (wan wanted i))), rfl⟩
      refine sq_set (d := .int (sid (wan wanted i))) (m_side (op2 rfl rfl (h.want hi'))) ?_
      refine (app_ok (xs := ((List.range i).map fun i => wtv A wanted (many + free) L b i).map .int) (d := .int (wtv A wanted (many + free) L b i)) rfl (op2 (y := .int (m7 - Tm A L b L (many + free + i))) rfl (op2 (o := opSub) (x := .int m7) (y := .int (Tm A L b L (many + free + i))) rfl (op2 (op2 rfl (op1 (o := opNeg) (x := .int 1) rfl rfl) tabW_last) (op2 (o := opAdd) rfl rfl rfl) ?_) rfl) ?_) (by simp; omega)).trans ?_
      · have := rowW_ix (W := many + free + L + 1) (f := Tm A L b L) (j := many + free + i) (by omega)
        rw [Int.natCast_add] at this
        exact this
      · rw [hd]
        exact (mul_l (sid_small _).1 (sid_small _).2).trans rfl
      · rw [List.range_succ, List.map_append, List.map_append]
        rfl
  rw [List.length_map, List.length_range] at f2
  exact ⟨v9, v10, f1.trans (by rw [f2])⟩
theorem getD_map {α β} {f : α → β} {xs : List α} {i : Nat} {d : β} (h : i < xs.length) : (xs.map f).getD i d = f (xs[i]) := by
  rw [List.getD_eq_getElem?_getD, List.getElem?_map, List.getElem?_eq_getElem h]; rfl
/-- the answer's first numbers -/
theorem ans_loop {A : Mat} {b : Nat → Nat} {v0 v1 v2 v3 v7 v8 v10 : SV} (g : Good A L (many + free + L) b) (hL : L ≤ 40) :
    ∃ v9 v12, fLoop (gT [(gN 9), (gN 12)]) (sIf (qV (e2 opLt (eB 12) (eB 4))) (sPut 11 (eV 12) (e2 opIx (e2 opIx (eB 5) (eV 9)) (e1 opNeg (eK (.int 1))))) sNil)
      (enD 0 ((rowW L fun k => (b k : Int)).map .int)) [v0, v1, v2, v3, .sh (.int ((many + free : Nat) : Int)), .sh (rowsD A L (many + free) b), .sh (intL (rowW L fun k => (b k : Int))), v7, v8, .no, v10, .ow ((List.replicate (many + free) (0 : Int)).map .int), .no]
    = .next [v0, v1, v2, v3, .sh (.int ((many + free : Nat) : Int)), .sh (rowsD A L (many + free) b), .sh (intL (rowW L fun k => (b k : Int))), v7, v8, v9, v10, .ow (((List.range (many + free)).map fun p => nmv A L (many + free + L) b L p).map .int), v12] := by
  obtain ⟨e', f1, v9, v12, nm, f2, f3⟩ := fLoop_inv (g := gT [(gN 9), (gN 12)]) (b := sIf (qV (e2 opLt (eB 12) (eB 4))) (sPut 11 (eV 12) (e2 opIx (e2 opIx (eB 5) (eV 9)) (e1 opNeg (eK (.int 1))))) sNil)
    (fun i e => ∃ v9 v12 nm, e = [v0, v1, v2, v3, .sh (.int ((many + free : Nat) : Int)), .sh (rowsD A L (many + free) b), .sh (intL (rowW L fun k => (b k : Int))), v7, v8, v9, v10, .ow (List.map .int nm), v12] ∧ nm = (List.range (many + free)).map fun p => nmv A L (many + free + L) b i p)
    (xs := enD 0 ((rowW L fun k => (b k : Int)).map .int)) ⟨.no, .no, List.replicate (many + free) 0, rfl, by
      apply List.ext_getElem?
      intro j
      rw [List.getElem?_replicate, List.getElem?_map]
      by_cases q : j < many + free
      · rw [if_pos q, List.getElem?_range q]; rfl
      · rw [if_neg q, List.getElem?_eq_none (by rw [List.length_range]; omega)]; rfl⟩ fun i hi e ⟨v9, v12, nm, h1, h2⟩ => by
      subst h1
      have hl : (enD 0 ((rowW L fun k => (b k : Int)).map PyData.int)).length = L := by rw [enD_length, List.length_map, rowW_len]
      have hi' : i < L := by rw [hl] at hi; exact hi
      have hx : (enD 0 ((rowW L fun k => (b k : Int)).map PyData.int))[i] = .tuple [.int (i : Int), .int (b i : Int)] := by
        have := enD_at 0 ((rowW L fun k => (b k : Int)).map PyData.int) i
        rw [List.getElem?_eq_getElem hi] at this
        rw [List.getElem?_map] at this
        unfold rowW at this
        rw [List.getElem?_map, List.getElem?_range hi'] at this
        simp only [Option.map_some, Option.some.injEq, Nat.zero_add] at this
        exact this
      have nml : nm.length = many + free := by rw [h2, List.length_map, List.length_range]
      rw [hx]
      have q : qV (e2 opLt (eB 12) (eB 4)) [v0, v1, v2, v3, .sh (.int ((many + free : Nat) : Int)), .sh (rowsD A L (many + free) b), .sh (intL (rowW L fun k => (b k : Int))), v7, v8, .sh (.int (i : Int)), v10, .ow (List.map .int nm), .sh (.int (b i : Int))] = .ok (decide ((b i : Int) < ((many + free : Nat) : Int))) := qv (op2 rfl rfl rfl)
      by_cases c : b i < many + free
      · refine ⟨_, _, rfl, (if_t (q.trans (by rw [decide_eq_true (by omega)]))).trans (put_ok (z := Tm A L b i (many + free + L)) (j := b i) rfl (op2 (op2 rfl rfl (tabW_ix (by omega))) (op1 (o := opNeg) (x := .int 1) rfl rfl) rowW_last) rfl (by rw [nml]; exact c)), .sh (.int (i : Int)), .sh (.int (b i : Int)), nm.set (b i) (Tm A L b i (many + free + L)), rfl, ?_⟩
        rw [h2]
        apply List.ext_getElem?
        intro j
        rw [List.getElem?_set, List.getElem?_map, List.getElem?_map]
        by_cases qj : b i = j
        · subst qj
          rw [if_pos rfl, if_pos (by rw [List.length_map, List.length_range]; exact c), List.getElem?_range c]
          show some _ = some (nmv A L (many + free + L) b (i + 1) (b i))
          unfold nmv
          show _ = some ((sumN i fun k => if b k = b i then Tm A L b k (many + free + L) else 0) + (if b i = b i then Tm A L b i (many + free + L) else 0))
          rw [if_pos rfl, sumN_zero fun k hk => by
            rw [if_neg fun e => ?_]
            have := g.inj (show k < L by omega) hi' e
            omega]
          rw [Int.zero_add]
        · rw [if_neg qj]
          by_cases qk : j < many + free
          · rw [List.getElem?_range qk]
            show some (nmv A L (many + free + L) b i j) = some (nmv A L (many + free + L) b (i + 1) j)
            congr 1
            show _ = nmv A L (many + free + L) b i j + (if b i = j then Tm A L b i (many + free + L) else 0)
            rw [if_neg qj, Int.add_zero]
          · rw [List.getElem?_eq_none (by rw [List.length_range]; omega)]; rfl
      · refine ⟨_, _, rfl, (if_f (q.trans (by rw [decide_eq_false (by omega)]))).trans rfl, .sh (.int (i : Int)), .sh (.int (b i : Int)), nm, rfl, ?_⟩
        rw [h2]
        refine List.map_congr_left fun p hp => ?_
        have hp' := List.mem_range.mp hp
        show _ = nmv A L (many + free + L) b i p + (if b i = p then Tm A L b i (many + free + L) else 0)
        rw [if_neg (by omega), Int.add_zero]
  have hl : (enD 0 ((rowW L fun k => (b k : Int)).map PyData.int)).length = L := by rw [enD_length, List.length_map, rowW_len]
  rw [hl] at f3
  exact ⟨v9, v12, f1.trans (by rw [f2, f3])⟩
/-- the free places' numbers -/
theorem fre_loop {f : Nat → Int} {v0 v1 v2 v4 v5 v6 v7 v8 v9 v10 v12 : SV} (hf : free ≤ many) (hm : many ≤ 60) :
    ∃ v12', fLoop (gN 12) (sPut 11 (eV 12) (e2 opSub (e2 opIx (eB 11) (eV 12)) (e2 opIx (eB 11) (e2 opAdd (eB 3) (eB 12)))))
      ((List.range free).map fun (k : Nat) => PyData.int (k : Int)) [v0, v1, v2, .sh (.int (many : Int)), v4, v5, v6, v7, v8, v9, v10, .ow (((List.range (many + free)).map f).map .int), v12]
    = .next [v0, v1, v2, .sh (.int (many : Int)), v4, v5, v6, v7, v8, v9, v10, .ow (((List.range (many + free)).map fun p => f p - if p < free then f (many + p) else 0).map .int), v12'] := by
  obtain ⟨e', f1, v12', f2⟩ := fLoop_inv (g := gN 12) (b := sPut 11 (eV 12) (e2 opSub (e2 opIx (eB 11) (eV 12)) (e2 opIx (eB 11) (e2 opAdd (eB 3) (eB 12)))))
    (fun i e => ∃ v12, e = [v0, v1, v2, .sh (.int (many : Int)), v4, v5, v6, v7, v8, v9, v10, .ow (((List.range (many + free)).map fun p => f p - if p < i then f (many + p) else 0).map .int), v12])
    (xs := (List.range free).map fun (k : Nat) => PyData.int (k : Int)) (e := [v0, v1, v2, .sh (.int (many : Int)), v4, v5, v6, v7, v8, v9, v10, .ow (((List.range (many + free)).map f).map .int), v12]) ⟨v12, by
      have : (fun p => f p - if p < 0 then f (many + p) else 0) = f := by funext p; rw [if_neg (Nat.not_lt_zero p), Int.sub_zero]
      rw [this]⟩ fun i hi e ⟨v12, h1⟩ => by
      subst h1
      rw [range_get]
      have hi' : i < free := by rw [List.length_map, List.length_range] at hi; exact hi
      have ix : ∀ j, j < many + free → opIx (.list (((List.range (many + free)).map fun p => f p - if p < i then f (many + p) else 0).map .int)) (.int (j : Int)) = .ok (.int (f j - if j < i then f (many + j) else 0)) := fun j hj => rowW_ix hj
      refine ⟨_, _, rfl, put_ok (z := f i - f (many + i)) (j := i) rfl (op2 (op2 rfl rfl ((ix i (by omega)).trans (by rw [if_neg (Nat.lt_irrefl i), Int.sub_zero]))) (op2 (r := .ok (.int (f (many + i)))) rfl (op2 (o := opAdd) rfl rfl rfl) ?_) rfl) rfl (by rw [List.length_map, List.length_range]; omega), .sh (.int (i : Int)), ?_⟩
      · have := ix (many + i) (by omega)
        rw [if_neg (by omega), Int.sub_zero, Int.natCast_add] at this
        exact this
      · show [v0, v1, v2, .sh (.int (many : Int)), v4, v5, v6, v7, v8, v9, v10, .ow ((((List.range (many + free)).map fun p => f p - if p < i then f (many + p) else 0).set i (f i - f (many + i))).map .int), .sh (.int (i : Int))] = _
        have : ((List.range (many + free)).map fun p => f p - if p < i then f (many + p) else 0).set i (f i - f (many + i)) = (List.range (many + free)).map fun p => f p - if p < i + 1 then f (many + p) else 0 := by
          apply List.ext_getElem?
          intro j
          rw [List.getElem?_set, List.getElem?_map, List.getElem?_map]
          by_cases qj : i = j
          · subst qj
            rw [if_pos rfl, if_pos (by rw [List.length_map, List.length_range]; omega), List.getElem?_range (by omega)]
            show _ = some (f i - if i < i + 1 then f (many + i) else 0)
            rw [if_pos (Nat.lt_succ_self i)]
          · rw [if_neg qj]
            by_cases qk : j < many + free
            · rw [List.getElem?_range qk]
              show some (f j - if j < i then f (many + j) else 0) = some (f j - if j < i + 1 then f (many + j) else 0)
              by_cases q : j < i
              · rw [if_pos q, if_pos (by omega)]
              · rw [if_neg q, if_neg (by omega)]
            · rw [List.getElem?_eq_none (by rw [List.length_range]; omega)]; rfl
        rw [this]
  rw [List.length_map, List.length_range] at f2
  exact ⟨v12', f1.trans (by rw [f2])⟩
/-- what solved tells -/
inductive SolR where
  | ans (x : Nat → Int) (d : Int) | wts (w : Nat → Int)
def SolR.d (many L : Nat) : SolR → D
  | .ans x d => .tuple [.str "answer", intL (rowW many x), .int d]
  | .wts w => .tuple [.str "weights", intL (rowW L w)]
def SolR.right (lines : List (List Int)) (wanted : List Int) (many free L : Nat) : SolR → Prop
  | .ans x d => AnsR lines wanted many free L x d
  | .wts w => WtsR lines wanted many free L w
theorem m_solved_ok (h : Lin lines wanted many free L) (hL : L ≤ 40) (hm : many ≤ 60) (b1 : ∀ l ∈ lines, ∀ x ∈ l, x.natAbs ≤ 10 ^ 30) (b2 : ∀ x ∈ wanted, x.natAbs ≤ 10 ^ 30)
    (hn : m_need_table [.list (lines.map intL), intL wanted, .int (free : Int)] = .ok .none) : ∃ r : SolR, m_solved [.list (lines.map intL), intL wanted, .int (free : Int)] = .ok (r.d many L) ∧ r.right lines wanted many free L := by
  have hf := h.fr
  have hp := h.pos
  obtain ⟨b, g, vb, op, hw⟩ := m_worked_ok (first_tbl (lines := lines) (wanted := wanted) (many := many) (free := free) (L := L)) (first_siz b1 b2 hL) (by decide) (by decide) (by omega) (by omega)
  have h0 : opIx (.list (lines.map intL)) (.int 0) = .ok (intL (lines.getD 0 [])) := by
    obtain ⟨d, q1, _, q3⟩ := ix_list (xs := lines.map intL) (k := 0) (by decide) (by rw [List.length_map, h.len]; omega)
    rw [q3]
    rw [show (0 : Int).toNat = 0 from rfl, List.getElem?_map, (h.at (i := 0) (by omega)).1] at q1
    cases q1; rfl
  have hmany : bLen [intL (lines.getD 0 [])] = .ok (.int (many : Int)) := by
    show R.ok (PyData.int (((lines.getD 0 []).map PyData.int).length : Int)) = _
    rw [List.length_map, (h.at (i := 0) (by omega)).2]
  have hlen : bLen [.list (lines.map intL)] = .ok (.int (L : Int)) := by
    show R.ok (PyData.int ((lines.map intL).length : Int)) = _
    rw [List.length_map, h.len]
  generalize hA : first lines wanted many free L = A at g hw op
  have hsz : Siz A L (many + free) 5000 := by rw [← hA]; exact first_siz b1 b2 hL
  have hbg := m_begun_ok h (by omega) (by omega)
  rw [hA] at hbg
  have hlow := ((show Tbl A L (many + free) by rw [← hA]; exact first_tbl).low g vb).1
  have key : ∃ r : SolR, b_solved ([.list (lines.map intL), intL wanted, .int (free : Int)].map .sh ++ List.replicate (13 - 3) .no) = .ret (r.d many L) ∧ r.right lines wanted many free L := by
    have pre : ∀ {o : Out}, (sSeq (sIf (qV (e2 opLt (e2 opIx (e2 opIx (eB 5) (e1 opNeg (eK (.int 1)))) (e1 opNeg (eK (.int 1)))) (eK (.int 0)))) (sSeq (sOwn 8 aN)
  (sSeq (sFor (iR1 (eC bLen (aC (eB 0) aN))) (gN 9) (sSeq (sSet (gN 10) (e2 opSub (eK (.int 1)) (e2 opMul (eK (.int 2)) (eC bInt (aC (e2 opLt (e2 opIx (eB 1) (eV 9)) (eK (.int 0))) aN)))))
  (sApp 8 (e2 opMul (eB 10) (e2 opSub (eB 7) (e2 opIx (e2 opIx (eB 5) (e1 opNeg (eK (.int 1)))) (e2 opAdd (eB 4) (eB 9))))))))
  (sRetO 8 "weights"))) sNil)
  (sSeq (sOwn 11 (lMul (eL (aC (eK (.int 0)) aN)) (eB 4)))
  (sSeq (sFor (iE (eV 6)) (gT [(gN 9), (gN 12)]) (sIf (qV (e2 opLt (eB 12) (eB 4))) (sPut 11 (eV 12) (e2 opIx (e2 opIx (eB 5) (eV 9)) (e1 opNeg (eK (.int 1))))) sNil))
  (sSeq (sFor (iR1 (eV 2)) (gN 12) (sPut 11 (eV 12) (e2 opSub (e2 opIx (eB 11) (eV 12)) (e2 opIx (eB 11) (e2 opAdd (eB 3) (eB 12))))))
  (sRet (eT (aC (eK (.str "answer")) (aC (eSl (eB 11) oN (oS (eV 3))) (aC (eV 7) aN))))))))) [.sh (.list (lines.map intL)), .sh (intL wanted), .sh (.int (free : Int)), .sh (.int (many : Int)), .sh (.int ((many + free : Nat) : Int)), .sh (rowsD A L (many + free) b), .sh (intL (rowW L fun k => (b k : Int))), .sh (.int (Dm A L b)), .no, .no, .no, .no, .no] = o → b_solved ([.list (lines.map intL), intL wanted, .int (free : Int)].map .sh ++ List.replicate (13 - 3) .no) = o := fun ho => by
      refine sq_do (cl3 rfl rfl rfl hn) ?_
      refine sq_set (cl1 (op2 rfl rfl h0) hmany) ?_
      refine sq_set (d := .int ((many + free : Nat) : Int)) (op2 rfl rfl rfl) ?_
      refine (seq_next (e' := [.sh (.list (lines.map intL)), .sh (intL wanted), .sh (.int (free : Int)), .sh (.int (many : Int)), .sh (.int ((many + free : Nat) : Int)), .sh (rowsD A L (many + free) b), .sh (intL (rowW L fun k => (b k : Int))), .sh (.int (Dm A L b)), .no, .no, .no, .no, .no]) ?_).trans ho
      unfold sSet
      rw [cl3 (cl3 rfl rfl rfl hbg) (cl1 rfl hlen) rfl hw]
      rfl
    have q : qV (e2 opLt (e2 opIx (e2 opIx (eB 5) (e1 opNeg (eK (.int 1)))) (e1 opNeg (eK (.int 1)))) (eK (.int 0))) [.sh (.list (lines.map intL)), .sh (intL wanted), .sh (.int (free : Int)), .sh (.int (many : Int)), .sh (.int ((many + free : Nat) : Int)), .sh (rowsD A L (many + free) b), .sh (intL (rowW L fun k => (b k : Int))), .sh (.int (Dm A L b)), .no, .no, .no, .no, .no] = .ok (decide (Tm A L b L (many + free + L) < 0)) :=
      qv (op2 (op2 (op2 rfl (op1 (o := opNeg) (x := .int 1) rfl rfl) tabW_last) (op1 (o := opNeg) (x := .int 1) rfl rfl) rowW_last) rfl rfl)
    by_cases neg : Tm A L b L (many + free + L) < 0
    · refine ⟨.wts (wtv A wanted (many + free) L b), pre (seq_ret ((if_t (q.trans (by rw [decide_eq_true neg]))).trans ?_)), wts_of hA hsz g vb op hf neg⟩
      obtain ⟨v9, v10, hl⟩ := wts_loop (A := A) (b := b) (v3 := .sh (.int (many : Int))) (v6 := .sh (intL (rowW L fun k => (b k : Int)))) (v11 := .no) (v12 := .no) h hL rfl
      refine op_own an ?_
      refine (seq_next (for_ok (ir1n (n := L) (cl1 rfl hlen) (by omega)) hl)).trans ?_
      exact rfl
    · have zero : Tm A L b L (many + free + L) = 0 := by omega
      refine ⟨.ans (ansv A many free L b) (Dm A L b), pre ((seq_next ((if_f (q.trans (by rw [decide_eq_false neg]))).trans rfl)).trans ?_), ans_of hA hsz g vb hf hL zero⟩
      obtain ⟨v9, v12, hl⟩ := ans_loop (A := A) (b := b) (many := many) (free := free) (v0 := .sh (.list (lines.map intL))) (v1 := .sh (intL wanted)) (v2 := .sh (.int (free : Int))) (v3 := .sh (.int (many : Int))) (v7 := .sh (.int (Dm A L b))) (v8 := .no) (v10 := .no) g hL
      obtain ⟨v12', hl2⟩ := fre_loop (many := many) (free := free) (f := nmv A L (many + free + L) b L) (v0 := .sh (.list (lines.map intL))) (v1 := .sh (intL wanted)) (v2 := .sh (.int (free : Int))) (v4 := .sh (.int ((many + free : Nat) : Int))) (v5 := .sh (rowsD A L (many + free) b)) (v6 := .sh (intL (rowW L fun k => (b k : Int)))) (v7 := .sh (.int (Dm A L b))) (v8 := .no) (v9 := v9) (v10 := .no) (v12 := v12) hf hm
      have hz : lMul (eL (aC (eK (.int 0)) aN)) (eB 4) [.sh (.list (lines.map intL)), .sh (intL wanted), .sh (.int (free : Int)), .sh (.int (many : Int)), .sh (.int ((many + free : Nat) : Int)), .sh (rowsD A L (many + free) b), .sh (intL (rowW L fun k => (b k : Int))), .sh (.int (Dm A L b)), .no, .no, .no, .no, .no] = .ok ((List.replicate (many + free) (0 : Int)).map .int) := by
        have := op2 (o := opMul) (f := eL (aC (eK (.int 0)) aN)) (g := eB 4) (e := [.sh (.list (lines.map intL)), .sh (intL wanted), .sh (.int (free : Int)), .sh (.int (many : Int)), .sh (.int ((many + free : Nat) : Int)), .sh (rowsD A L (many + free) b), .sh (intL (rowW L fun k => (b k : Int))), .sh (.int (Dm A L b)), .no, .no, .no, .no, .no]) (el rfl) rfl (mul_list (m := ((many + free : Nat) : Int)) (by omega) (by omega))
        unfold lMul
        rw [this, Int.toNat_natCast]; rfl
      refine op_own hz ?_
      refine (seq_next (for_ok (ie' rfl) hl)).trans ?_
      refine (seq_next (for_ok (ir1n (n := free) rfl (by omega)) hl2)).trans ?_
      refine ret_ok (et (ac rfl (ac (d := intL (rowW many (ansv A many free L b))) ?_ (ac rfl rfl))))
      refine (esl_to2 (m := (many : Int)) rfl rfl (by omega)).trans ?_
      rw [Int.toNat_natCast, ← List.map_take, ← List.map_take, List.take_range, Nat.min_eq_left (by omega)]
      rfl
  obtain ⟨r, k1, k2⟩ := key
  exact ⟨r, fn_ret k1, k2⟩
end
end PL

namespace PL
open PySem
/-! ### copies -/
def cpy : Nat → D → Prop
  | 0, _ => False
  | n + 1, d => match d with
    | .list xs => xs.length ≤ szL ∧ ∀ x ∈ xs, cpy n x
    | .tuple xs => xs.length ≤ szL ∧ ∀ x ∈ xs, cpy n x
    | .dict (_ :: _) => False
    | _ => True
mutual
theorem same_refl : ∀ (n : Nat) (d : D), cpy n d → same d d = true
  | 0, _, h => h.elim
  | n + 1, .list xs, h => by unfold same; exact sameAll_refl n xs h.2
  | n + 1, .tuple xs, h => by unfold same; exact sameAll_refl n xs h.2
  | n + 1, .dict [], _ => by unfold same; rfl
  | n + 1, .dict (_ :: _), h => h.elim
  | n + 1, .none, _ => by unfold same; rfl
  | n + 1, .bool b, _ => by unfold same; simp
  | n + 1, .int b, _ => by unfold same; simp
  | n + 1, .str b, _ => by unfold same; simp
theorem sameAll_refl : ∀ (n : Nat) (xs : List D), (∀ x ∈ xs, cpy n x) → sameAll xs xs = true
  | _, [], _ => by unfold sameAll; rfl
  | n, x :: xs, h => by
    unfold sameAll
    rw [same_refl n x (h x List.mem_cons_self), sameAll_refl n xs fun y hy => h y (List.mem_cons_of_mem _ hy)]; rfl
end
mutual
theorem low_of : ∀ (n k : Nat) (d : D), cpy n d → n ≤ k → lowD k d = true
  | 0, _, _, h, _ => h.elim
  | n + 1, k + 1, .list xs, h, hk => by unfold lowD; exact lowAll_of n k xs h.2 (Nat.le_of_succ_le_succ hk)
  | n + 1, k + 1, .tuple xs, h, hk => by unfold lowD; exact lowAll_of n k xs h.2 (Nat.le_of_succ_le_succ hk)
  | n + 1, k + 1, .dict [], _, _ => by unfold lowD; rfl
  | n + 1, _, .dict (_ :: _), h, _ => h.elim
  | n + 1, k + 1, .none, _, _ => by unfold lowD; rfl
  | n + 1, k + 1, .bool b, _, _ => by unfold lowD; rfl
  | n + 1, k + 1, .int b, _, _ => by unfold lowD; rfl
  | n + 1, k + 1, .str b, _, _ => by unfold lowD; rfl
theorem lowAll_of : ∀ (n k : Nat) (xs : List D), (∀ x ∈ xs, cpy n x) → n ≤ k → lowAll k xs = true
  | _, _, [], _, _ => by unfold lowAll; rfl
  | n, k, x :: xs, h, hk => by
    unfold lowAll
    rw [low_of n k x (h x List.mem_cons_self) hk, lowAll_of n k xs (fun y hy => h y (List.mem_cons_of_mem _ hy)) hk]; rfl
end
theorem eqD_refl {n : Nat} {d : D} (h : cpy n d) (hn : n ≤ 20) (hd : isDic d = false) : eqD d d = .ok true := by
  unfold eqD
  rw [same_refl n d h, low_of n 20 d h hn, hd]; rfl
theorem ne_refl {n : Nat} {d : D} (h : cpy n d) (hn : n ≤ 20) (hd : isDic d = false) : opNe d d = .ok (.bool false) := by
  unfold opNe; rw [eqD_refl h hn hd]; rfl
theorem cpy_ints {xs : List Int} {n : Nat} (h : xs.length ≤ 1000) : cpy (n + 2) (intL xs) := ⟨by rw [List.length_map]; exact Nat.le_trans h (by decide), fun x hx => by obtain ⟨y, _, rfl⟩ := List.mem_map.mp hx; trivial⟩
theorem scr_cpy {n : Nat} {d : D} (h : cpy n d) : isScr d = false := by
  cases n with
  | zero => exact h.elim
  | succ n => cases d with
    | dict kvs => cases kvs with | nil => rfl | cons => exact (show False from h).elim
    | _ => rfl
theorem noScr_cpy {n : Nat} {d : D} (h : cpy (n + 1) d) : noScr d := by
  cases d with
  | dict kvs => cases kvs with | nil => exact trivial | cons => exact (show False from h).elim
  | list xs =>
    refine ⟨h.1, fun x hx => ?_⟩
    have := h.2 x hx
    exact scr_cpy this
  | _ => exact trivial
theorem isi_ok {n : Nat} {d : D} (t : Ty) (h : cpy n d) : bIsi t [d] = .ok (.bool (isTy t d)) := by
  show (if isScr d = true then R.stk else _) = _
  rw [scr_cpy h]; rfl
theorem cpy_succ : ∀ {n : Nat} {d : D}, cpy n d → cpy (n + 1) d
  | 0, _, h => h.elim
  | n + 1, .list xs, h => ⟨h.1, fun x hx => cpy_succ (h.2 x hx)⟩
  | n + 1, .tuple xs, h => ⟨h.1, fun x hx => cpy_succ (h.2 x hx)⟩
  | n + 1, .dict [], _ => trivial
  | n + 1, .dict (_ :: _), h => h.elim
  | n + 1, .none, _ => trivial
  | n + 1, .bool _, _ => trivial
  | n + 1, .int _, _ => trivial
  | n + 1, .str _, _ => trivial
theorem cpy_le {n k : Nat} {d : D} (h : cpy n d) (hk : n ≤ k) : cpy k d := by
  induction hk with
  | refl => exact h
  | step _ ih => exact cpy_succ ih
theorem cpy_list {n : Nat} {xs : List D} (h : xs.length ≤ 1000) (h2 : ∀ x ∈ xs, cpy n x) : cpy (n + 1) (.list xs) := ⟨Nat.le_trans h (by decide), h2⟩
theorem cpy_tup {n : Nat} {xs : List D} (h : xs.length ≤ 1000) (h2 : ∀ x ∈ xs, cpy n x) : cpy (n + 1) (.tuple xs) := ⟨Nat.le_trans h (by decide), h2⟩
theorem pick {xs : List D} {k : Int} (P : D → Prop) (h1 : 0 ≤ k) (h2 : k < xs.length) (h : ∀ d ∈ xs, P d) : ∃ d, opIx (.list xs) (.int k) = .ok d ∧ P d := by
  obtain ⟨d, _, hd, e⟩ := ix_list h1 h2
  exact ⟨d, e, h d hd⟩
theorem eq_str {a b : Str} (h : eqD (.str a) (.str b) = .ok true) : opEq (.str a) (.str b) = .ok (.bool true) ∧ opNe (.str a) (.str b) = .ok (.bool false) := by
  unfold opEq opNe; rw [h]; exact ⟨rfl, rfl⟩
theorem eq_self (a : Str) : eqD (.str a) (.str a) = .ok true := eqD_refl (n := 1) trivial (by decide) rfl
theorem eq_same {n : Nat} {d : D} (h : cpy n d) (hn : n ≤ 20) (hd : isDic d = false) : opEq d d = .ok (.bool true) := by
  unfold opEq; rw [eqD_refl h hn hd]; rfl
end PL

namespace PL
open PySem
theorem m_copied : ∀ {n : Nat} {d : D}, cpy n d → m_law_copied n [d] = .ok d
  | 0, _, h => h.elim
  | n + 1, d, h => by
    show fnR 2 (b_law_copied (m_law_copied n)) [d] = _
    have hs : isScr d = false := by
      cases d with
      | dict kvs => cases kvs with | nil => rfl | cons => exact (show False from h).elim
      | _ => rfl
    have h1 : bIsi .list [d] = .ok (.bool (isTy .list d)) := by
      show (if isScr d = true then R.stk else _) = _
      rw [hs]; rfl
    have h2 : bIsi .tuple [d] = .ok (.bool (isTy .tuple d)) := by
      show (if isScr d = true then R.stk else _) = _
      rw [hs]; rfl
    have comp : ∀ (xs : List D) (it : LF) (e : Env), xs.length ≤ szL → (∀ x ∈ xs, cpy n x) → it e = .ok xs → (∀ x, eV 1 ((wip [1] e).set 1 (.sh x)) = .ok x) → cmp it [1] (gN 1) qY (eC (m_law_copied n) (aC (eV 1) aN)) e = .ok xs := fun xs it e hl hx hf he => by
      have := cmp_map (it := it) (vs := [1]) (g := gN 1) (t := qY) (f := eC (m_law_copied n) (aC (eV 1) aN)) (e := e) (fun d => d) hf hl fun x hx' => ⟨_, rfl, rfl, cl1 (he x) (m_copied (hx x hx'))⟩
      rw [this, List.map_id']
    cases d with
    | list xs => exact fn_ret (seq_ret ((if_t (qv (cl1 rfl h1))).trans (ret_ok (el (comp xs _ _ h.1 h.2 rfl fun _ => rfl)))))
    | tuple xs => exact fn_ret ((seq_next ((if_f (qv (cl1 rfl h1))).trans rfl)).trans (seq_ret ((if_t (qv (cl1 rfl h2))).trans (ret_ok (cl1 (el (comp xs (iT (eV 0)) _ h.1 h.2 rfl fun _ => rfl)) rfl)))))
    | _ => exact fn_ret ((seq_next ((if_f (qv (cl1 rfl h1))).trans rfl)).trans ((seq_next ((if_f (qv (cl1 rfl h2))).trans rfl)).trans (ret_ok rfl)))
end PL

namespace PL
open PySem
/-! ### what makes a table: both sides' looks -/
def headL : D → Bool | .list rs => decide ((1 : Int) ≤ rs.length) && decide ((rs.length : Int) ≤ 40) && (match rs with | r :: _ => isTy .list r | [] => false) | _ => false
def linesB (m : Nat) (rs : List D) : Bool := decide ((1 : Int) ≤ m) && decide ((m : Int) ≤ 60) && rs.all (arW m)
def freeB (m : Nat) : D → Bool | .int f => decide (0 ≤ f) && decide (f ≤ (m : Int)) | _ => false
def tabB (a b c : D) : Bool := match a with
  | .list (.list r :: rs) => headL a && linesB r.length (.list r :: rs) && (arW ((.list r :: rs : List D).length : Int) b && freeB r.length c)
  | _ => false
section
variable {n : Nat} {a b c : D} {e : Env}
theorem bLen_list (r : List D) : bLen [.list r] = .ok (.int (r.length : Int)) := rfl
theorem ix_head (r : D) (rs : List D) : opIx (.list (r :: rs)) (.int 0) = .ok r := by
  obtain ⟨d, h1, _, h3⟩ := ix_list (xs := r :: rs) (k := 0) (by decide) (by simp <;> omega)
  rw [h3]; cases h1; rfl
theorem q_head (h : cpy (n + 3) a) (he : eB 0 e = .ok a) : qOr (qNot (qV (eC (bIsi .list) (aC (eB 0) aN)))) (qOr (qNot (qV (eCh opLe opLe (eK (.int 1)) (eC bLen (aC (eB 0) aN)) (eK (.int 40))))) (qNot (qV (eC (bIsi .list) (aC (e2 opIx (eB 0) (eK (.int 0))) aN))))) e = .ok (!headL a) := by
  have h1 := qnot (qv (cl1 he (isi_ok .list h)))
  cases a with
  | list rs =>
    have h2 : qNot (qV (eCh opLe opLe (eK (.int 1)) (eC bLen (aC (eB 0) aN)) (eK (.int 40)))) e = .ok (!(decide ((1 : Int) ≤ rs.length) && decide ((rs.length : Int) ≤ 40))) := qnot (qv (ch2 rfl (cl1 he rfl) rfl fun _ => ⟨rfl, rfl⟩))
    cases hc : (decide ((1 : Int) ≤ rs.length) && decide ((rs.length : Int) ≤ 40)) with
    | false =>
      refine (qor h1 fun _ => qor (j := true) h2 fun q => ?_).trans ?_
      · rw [hc] at q; cases q
      · have : headL (.list rs) = false := by
          show (decide ((1 : Int) ≤ rs.length) && decide ((rs.length : Int) ≤ 40) && _) = false
          rw [hc]; rfl
        rw [this, hc]; rfl
    | true =>
      cases rs with
      | nil => simp at hc
      | cons r rs =>
        refine (qor h1 fun _ => qor h2 fun _ => qnot (qv (cl1 (op2 he rfl (ix_head r rs)) (isi_ok .list (h.2 r List.mem_cons_self))))).trans ?_
        have : headL (.list (r :: rs)) = isTy .list r := by
          show (decide ((1 : Int) ≤ (r :: rs).length) && decide (((r :: rs).length : Int) ≤ 40) && isTy .list r) = _
          rw [hc]; rfl
        rw [this, hc]; rfl
  | _ => exact (qor (j := true) h1 fun q => by cases q).trans rfl
theorem free_look (h : cpy (n + 1) c) {m : Nat} {f0 f1 f2 : EF} (h0 : f0 e = .ok c) (h1 : f1 e = .ok c) (h2 : f2 e = .ok (.int (m : Int))) :
    qOr (qNot (qV (eC m_is_whole (aC f0 aN)))) (qNot (qV (eCh opLe opLe (eK (.int 0)) f1 f2))) e = .ok (!freeB m c) ∧ eAnd (eC (bIsi .int) (aC f1 aN)) (eAnd (eNot (eC (bIsi .bool) (aC f1 aN))) (eCh opLe opLe (eK (.int 0)) f1 f2)) e = .ok (.bool (freeB m c)) := by
  have w := qnot (qv (cl1 h0 (m_whole (scr_cpy h))))
  have i1 := cl1 h1 (isi_ok .int h)
  have i2 := enot (cl1 h1 (isi_ok .bool h))
  cases c with
  | int f => exact ⟨(qor w fun _ => qnot (qv (ch2 rfl h1 rfl fun _ => ⟨h2, rfl⟩))).trans rfl, (eand i1 fun _ => eand i2 fun _ => ch2 rfl h1 rfl fun _ => ⟨h2, rfl⟩).trans rfl⟩
  | bool k => exact ⟨(qor (j := true) w fun q => by cases q).trans rfl, (eand i1 fun _ => eand (j := false) i2 fun q => by cases q).trans rfl⟩
  | _ => exact ⟨(qor (j := true) w fun q => by cases q).trans rfl, (eand (j := false) i1 fun q => by cases q).trans rfl⟩
theorem not_tab (h : headL a = false) : tabB a b c = false := by
  unfold tabB
  split
  · rw [h]; rfl
  · rfl
theorem head_of (h : headL a = true) : ∃ r rs, a = .list (.list r :: rs) := by
  cases a with
  | list rs => cases rs with
    | nil => unfold headL at h; simp at h
    | cons r rs => cases r with
      | list r => exact ⟨r, rs, rfl⟩
      | _ => unfold headL at h; simp [isTy] at h
  | _ => cases h
theorem m_need_gen (ha : cpy (n + 3) a) (hb : cpy (n + 2) b) (hc : cpy (n + 1) c) : m_need_table [a, b, c] = if tabB a b c then .ok .none else .err "BadTable" := by
  have q := q_head (e := [.sh a, .sh b, .sh c, .no, .no]) ha rfl
  cases hh : headL a with
  | false =>
    rw [not_tab hh]
    exact fn_err (seq_err ((if_t (q.trans (by rw [hh]; rfl))).trans rfl))
  | true =>
    obtain ⟨r, rs, rfl⟩ := head_of hh
    have q2 : qOr (qNot (qV (eCh opLe opLe (eK (.int 1)) (eB 3) (eK (.int 60))))) (qNot (qV (eC bAll (aC (eL (cmp (iL (eB 0)) [4] (gN 4) qY (eC m_are_whole (aC (eV 4) (aC (eV 3) aN))))) aN)))) [.sh (.list (.list r :: rs)), .sh b, .sh c, .sh (.int (r.length : Int)), .no] = .ok (!linesB r.length (.list r :: rs)) := by
      have l1 : qNot (qV (eCh opLe opLe (eK (.int 1)) (eB 3) (eK (.int 60)))) [.sh (.list (.list r :: rs)), .sh b, .sh c, .sh (.int (r.length : Int)), .no] = .ok (!(decide ((1 : Int) ≤ r.length) && decide ((r.length : Int) ≤ 60))) := qnot (qv (ch2 rfl rfl rfl fun _ => ⟨rfl, rfl⟩))
      have l2 : qNot (qV (eC bAll (aC (eL (cmp (iL (eB 0)) [4] (gN 4) qY (eC m_are_whole (aC (eV 4) (aC (eV 3) aN))))) aN))) [.sh (.list (.list r :: rs)), .sh b, .sh c, .sh (.int (r.length : Int)), .no] = .ok (!(.list r :: rs : List D).all (arW r.length)) :=
        qnot (qv (cl1 (el (cmp_map (fun x => .bool (arW r.length x)) (il rfl) ha.1 fun x hx => ⟨_, rfl, rfl, cl2 rfl rfl (m_arew (noScr_cpy (ha.2 x hx)))⟩)) (all_bools _ _)))
      refine (qor l1 fun _ => l2).trans ?_
      unfold linesB
      simp only [Bool.not_and]
    have q3 : qOr (qNot (qV (eC m_are_whole (aC (eV 1) (aC (eC bLen (aC (eB 0) aN)) aN))))) (qOr (qNot (qV (eC m_is_whole (aC (eV 2) aN)))) (qNot (qV (eCh opLe opLe (eK (.int 0)) (eB 2) (eB 3))))) [.sh (.list (.list r :: rs)), .sh b, .sh c, .sh (.int (r.length : Int)), .no] = .ok (!arW ((.list r :: rs : List D).length : Int) b || !freeB r.length c) :=
      qor (qnot (qv (cl2 rfl (cl1 rfl rfl) (m_arew (noScr_cpy hb))))) fun _ => (free_look (e := [.sh (.list (.list r :: rs)), .sh b, .sh c, .sh (.int (r.length : Int)), .no]) (f0 := eV 2) (f1 := eB 2) (f2 := eB 3) (m := r.length) hc rfl rfl rfl).1
    have ht : tabB (.list (.list r :: rs)) b c = (linesB r.length (.list r :: rs) && (arW ((.list r :: rs : List D).length : Int) b && freeB r.length c)) := by
      unfold tabB; rw [hh]; rfl
    have go : ∀ {o : Out}, sSeq (sIf (qOr (qNot (qV (eCh opLe opLe (eK (.int 1)) (eB 3) (eK (.int 60))))) (qNot (qV (eC bAll (aC (eL (cmp (iL (eB 0)) [4] (gN 4) qY (eC m_are_whole (aC (eV 4) (aC (eV 3) aN))))) aN))))) (sRaise "BadTable") sNil) (sIf (qOr (qNot (qV (eC m_are_whole (aC (eV 1) (aC (eC bLen (aC (eB 0) aN)) aN))))) (qOr (qNot (qV (eC m_is_whole (aC (eV 2) aN)))) (qNot (qV (eCh opLe opLe (eK (.int 0)) (eB 2) (eB 3)))))) (sRaise "BadTable") sNil) [.sh (.list (.list r :: rs)), .sh b, .sh c, .sh (.int (r.length : Int)), .no] = o → b_need_table [.sh (.list (.list r :: rs)), .sh b, .sh c, .no, .no] = o := fun ho =>
      (seq_next ((if_f (q.trans (by rw [hh]; rfl))).trans rfl)).trans ((seq_next (set_ok (cl1 (op2 rfl rfl (ix_head _ _)) (bLen_list r)))).trans ho)
    rw [ht]
    cases hl : linesB r.length (.list r :: rs) with
    | false => exact fn_err (go (seq_err ((if_t (q2.trans (by rw [hl]; rfl))).trans rfl)))
    | true =>
      cases hw : (arW ((.list r :: rs : List D).length : Int) b && freeB r.length c) with
      | false => exact fn_err (go ((seq_next ((if_f (q2.trans (by rw [hl]; rfl))).trans rfl)).trans ((if_t (q3.trans (by rw [← Bool.not_and, hw]; rfl))).trans rfl)))
      | true => exact fn_next (go ((seq_next ((if_f (q2.trans (by rw [hl]; rfl))).trans rfl)).trans ((if_f (q3.trans (by rw [← Bool.not_and, hw]; rfl))).trans rfl)))
end
end PL

namespace PL
open PySem
/-! ### tables that are none -/
def bd (d : D) : Prop := ∀ z, d = .int z → z.natAbs ≤ 10 ^ 30
def WB (b : D) : Prop := ∀ xs, b = .list xs → ∀ x ∈ xs, bd x
def LB (a : D) : Prop := ∀ rs, a = .list rs → ∀ r ∈ rs, WB r
theorem arW_of {n : Int} {d : D} (h : arW n d = true) : ∃ zs : List Int, d = intL zs ∧ (zs.length : Int) = n := by
  cases d with
  | list xs =>
    have h' : (decide ((xs.length : Int) = n) && xs.all isWh) = true := h
    rw [Bool.and_eq_true] at h'
    have : ∃ zs : List Int, xs = zs.map .int ∧ ∀ z ∈ zs, True := ints_of fun d hd => by
      have := List.all_eq_true.mp h'.2 d hd
      cases d <;> first | exact ⟨_, rfl, trivial⟩ | cases this
    obtain ⟨zs, rfl, _⟩ := this
    exact ⟨zs, rfl, by have := of_decide_eq_true h'.1; rw [List.length_map] at this; exact this⟩
  | _ => cases h
theorem rows_of {n : Int} : ∀ {rs : List D}, rs.all (arW n) = true → ∃ ls : List (List Int), rs = ls.map intL ∧ ∀ l ∈ ls, (l.length : Int) = n
  | [], _ => ⟨[], rfl, fun _ h => by cases h⟩
  | r :: rs, h => by
    rw [List.all_cons, Bool.and_eq_true] at h
    obtain ⟨zs, rfl, hz⟩ := arW_of h.1
    obtain ⟨ls, rfl, hl⟩ := rows_of h.2
    exact ⟨zs :: ls, rfl, fun l hl' => by
      rcases List.mem_cons.mp hl' with rfl | hl'
      · exact hz
      · exact hl l hl'⟩
theorem tab_of {a b c : D} (h : tabB a b c = true) : ∃ (lines : List (List Int)) (wanted : List Int) (many free L : Nat), a = .list (lines.map intL) ∧ b = intL wanted ∧ c = .int (free : Int) ∧ Lin lines wanted many free L ∧ L ≤ 40 ∧ many ≤ 60 := by
  have hh : headL a = true := by
    cases q : headL a with
    | true => rfl
    | false => rw [not_tab q] at h; cases h
  obtain ⟨r, rs, rfl⟩ := head_of hh
  have ht : tabB (.list (.list r :: rs)) b c = (linesB r.length (.list r :: rs) && (arW ((.list r :: rs : List D).length : Int) b && freeB r.length c)) := by
    unfold tabB; rw [hh]; rfl
  rw [ht, Bool.and_eq_true, Bool.and_eq_true] at h
  obtain ⟨h1, h2, h3⟩ := h
  have h1' : (decide ((1 : Int) ≤ r.length) && decide ((r.length : Int) ≤ 60) && (.list r :: rs : List D).all (arW r.length)) = true := h1
  rw [Bool.and_eq_true, Bool.and_eq_true] at h1'
  obtain ⟨ls, e1, hl⟩ := rows_of h1'.2
  obtain ⟨ws, rfl, hw⟩ := arW_of h2
  have g1 := of_decide_eq_true h1'.1.1
  have g2 := of_decide_eq_true h1'.1.2
  have hx : (decide ((1 : Int) ≤ (.list r :: rs : List D).length) && decide (((.list r :: rs : List D).length : Int) ≤ 40) && true) = true := hh
  rw [Bool.and_true, Bool.and_eq_true] at hx
  have g3 := of_decide_eq_true hx.1
  have g4 := of_decide_eq_true hx.2
  have el : (.list r :: rs : List D).length = ls.length := by rw [e1, List.length_map]
  cases c with
  | int f =>
    have h3' : (decide (0 ≤ f) && decide (f ≤ (r.length : Int))) = true := h3
    rw [Bool.and_eq_true] at h3'
    have g5 := of_decide_eq_true h3'.1
    have g6 := of_decide_eq_true h3'.2
    refine ⟨ls, ws, r.length, f.toNat, ls.length, by rw [e1], rfl, by rw [Int.toNat_of_nonneg g5], ⟨rfl, ?_, ?_, ?_, ?_, ?_⟩, ?_, ?_⟩
    · rw [el] at g3; omega
    · intro l hl'; have := hl l hl'; omega
    · rw [el] at hw; omega
    · omega
    · omega
    · rw [el] at g4; omega
    · omega
  | _ => cases h3
theorem solved_gen {n : Nat} {a b c : D} (ha : cpy (n + 3) a) (hb : cpy (n + 2) b) (hc : cpy (n + 1) c) (la : LB a) (lb : WB b) : (tabB a b c = true ∧ ∃ d, m_solved [a, b, c] = .ok d) ∨ (tabB a b c = false ∧ m_solved [a, b, c] = .err "BadTable") := by
  have hn := m_need_gen ha hb hc
  cases ht : tabB a b c with
  | false =>
    rw [ht] at hn
    exact .inr ⟨rfl, fn_err (seq_err (do_err (cl3 rfl rfl rfl hn)))⟩
  | true =>
    rw [ht] at hn
    obtain ⟨lines, wanted, many, free, L, rfl, rfl, rfl, hL, l4, m6⟩ := tab_of ht
    obtain ⟨r, h1, _⟩ := m_solved_ok hL l4 m6 (fun l hl x hx => la _ rfl _ (List.mem_map_of_mem hl) _ rfl _ (List.mem_map_of_mem hx) x rfl) (fun x hx => lb _ rfl _ (List.mem_map_of_mem hx) x rfl) hn
    exact .inl ⟨rfl, _, h1⟩
end PL

namespace PL
open PySem
/-! ### general lemmas, as the texts over told have them -/
abbrev Rw := List Int
abbrev Fn := Nat → Int
theorem eqD_str (a b : Str) (ha : a.cps.all (· < 0x110000) = true) (hb : b.cps.all (· < 0x110000) = true) : eqD (.str a) (.str b) = .ok (decide (a = b)) := by
  unfold eqD same lowD isDic flatD
  rw [ha, hb]
  by_cases h : a = b
  · rw [decide_eq_true h]; rfl
  · rw [decide_eq_false h]
    simp [PyData.eqv, h]
theorem eq_strs {a b : Str} {k : Bool} (ha : a.cps.all (· < 0x110000) = true) (hb : b.cps.all (· < 0x110000) = true) (h : decide (a = b) = k) : opEq (.str a) (.str b) = .ok (.bool k) ∧ opNe (.str a) (.str b) = .ok (.bool (!k)) := by
  unfold opEq opNe
  rw [eqD_str a b ha hb, h]; exact ⟨rfl, rfl⟩
theorem rowW_app (a b : Nat) (f : Fn) : rowW (a + b) f = rowW a f ++ rowW b fun i => f (a + i) := by
  unfold rowW
  rw [List.range_add, List.map_append, List.map_map]; rfl
theorem rowW_zero (n : Nat) : List.replicate n (0 : Int) = rowW n fun _ => 0 := by
  unfold rowW
  rw [List.map_const', List.length_range]
theorem rowW_congr {n : Nat} {f g : Fn} (h : ∀ i, i < n → f i = g i) : rowW n f = rowW n g := List.map_congr_left fun i hi => h i (List.mem_range.mp hi)
theorem intL_app (a b : List Int) : (.list (a.map .int ++ b.map .int) : D) = intL (a ++ b) := by
  show _ = PyData.list (List.map PyData.int (a ++ b))
  rw [List.map_append]
theorem opAdd_intL {a b : List Int} (h : a.length + b.length ≤ 1000) : opAdd (intL a) (intL b) = .ok (intL (a ++ b)) := by
  rw [← intL_app]; exact add_list (by simp; omega)
theorem opMul_zero {n : Nat} (h : n ≤ 1000) : opMul (.list [.int 0]) (.int (n : Int)) = .ok (intL (rowW n fun _ => 0)) := by
  rw [mul_list (by omega) (by omega), Int.toNat_natCast, rowW_zero]
/-- a comprehension over range -/
theorem cmp_rng {n : Nat} {it : LF} {vs : List Nat} {g : GF} {t : TF} {f : EF} {e : Env} (F : Fn) (hi : it e = .ok ((List.range n).map fun (k : Nat) => PyData.int (k : Int))) (hn : n ≤ 1000) (h : ∀ k : Nat, k < n → ∃ e1, g (.int (k : Int)) (wip vs e) = .ok e1 ∧ t e1 = .ok true ∧ f e1 = .ok (.int (F k))) : cmp it vs g t f e = .ok ((rowW n F).map .int) := by
  have := cmp_map (it := it) (vs := vs) (g := g) (t := t) (f := f) (e := e) (fun d => match d with | .int k => .int (F k.toNat) | _ => .none) hi (by rw [List.length_map, List.length_range]; unfold szL; omega) fun x hx => by
    obtain ⟨k, hk, rfl⟩ := List.mem_map.mp hx
    obtain ⟨e1, h1, h2, h3⟩ := h k (List.mem_range.mp hk)
    refine ⟨e1, h1, h2, h3.trans ?_⟩
    show R.ok (PyData.int (F k)) = R.ok (PyData.int (F (k : Int).toNat))
    rw [Int.toNat_natCast]
  rw [this]
  unfold rowW
  rw [List.map_map, List.map_map]
  refine congrArg R.ok (List.map_congr_left fun k _ => ?_)
  show PyData.int (F (k : Int).toNat) = _
  rw [Int.toNat_natCast]; rfl
theorem cLoop_enc {A : Type} (enc F : A → D) {g : GF} {t : TF} {f : EF} {e : Env} : ∀ {xs : List A}, (∀ a ∈ xs, ∃ e1, g (enc a) e = .ok e1 ∧ t e1 = .ok true ∧ f e1 = .ok (F a)) → cLoop g t f e (xs.map enc) = .ok (xs.map F)
  | [], _ => rfl
  | x :: xs, h => by
    obtain ⟨e1, h1, h2, h3⟩ := h x List.mem_cons_self
    show cLoop g t f e (enc x :: xs.map enc) = _
    unfold cLoop
    rw [h1, R.calm_ok, R.bind_ok, h2, R.calm_ok, R.bind_ok, if_pos rfl, h3, R.calm_ok, R.bind_ok, cLoop_enc enc F (xs := xs) fun y hy => h y (List.mem_cons_of_mem _ hy)]
    rfl
theorem cmp_enc {A : Type} (enc F : A → D) {it : LF} {vs : List Nat} {g : GF} {t : TF} {f : EF} {e : Env} {xs : List A} (hi : it e = .ok (xs.map enc)) (hl : xs.length ≤ 1000) (h : ∀ a ∈ xs, ∃ e1, g (enc a) (wip vs e) = .ok e1 ∧ t e1 = .ok true ∧ f e1 = .ok (F a)) : cmp it vs g t f e = .ok (xs.map F) := by
  unfold cmp
  rw [hi, R.bind_ok, if_pos (by rw [List.length_map]; unfold szL; omega)]
  exact cLoop_enc enc F h
theorem sl_mid {T a n : Nat} {x : Fn} (h : a + n ≤ T) : opSl (intL (rowW T x)) (some (a : Int)) (some ((a + n : Nat) : Int)) = .ok (intL (rowW n fun i => x (a + i))) := by
  show R.ok (PyData.list (cut ((rowW T x).map .int) (some (a : Int)) (some ((a + n : Nat) : Int)))) = _
  unfold cut
  have hl : ((rowW T x).map PyData.int).length = T := by rw [List.length_map, rowW_len]
  have e1 : sIx ((rowW T x).map PyData.int).length 0 (some (a : Int)) = a := by
    show (if (a : Int) < 0 then ((a : Int) + (((rowW T x).map PyData.int).length : Int)).toNat else min (a : Int).toNat ((rowW T x).map PyData.int).length) = a
    rw [if_neg (by omega), hl, Int.toNat_natCast, Nat.min_eq_left (by omega)]
  have e2 : sIx ((rowW T x).map PyData.int).length ((rowW T x).map PyData.int).length (some ((a + n : Nat) : Int)) = a + n := by
    show (if ((a + n : Nat) : Int) < 0 then (((a + n : Nat) : Int) + (((rowW T x).map PyData.int).length : Int)).toNat else min ((a + n : Nat) : Int).toNat ((rowW T x).map PyData.int).length) = a + n
    rw [if_neg (by omega), hl, Int.toNat_natCast, Nat.min_eq_left (by omega)]
  rw [e1, e2, ← List.map_drop, ← List.map_take, show a + n - a = n by omega]
  congr 3
  obtain ⟨r, rfl⟩ : ∃ r, T = a + n + r := ⟨T - (a + n), by omega⟩
  rw [rowW_app (a + n) r, rowW_app a n, List.append_assoc, List.drop_append, List.drop_eq_nil_of_le (by rw [rowW_len]; omega), rowW_len, Nat.sub_self, List.drop_zero, List.nil_append, List.take_append, List.take_of_length_le (by rw [rowW_len]; omega), rowW_len, Nat.sub_self, List.take_zero, List.append_nil]
theorem sl_lo {T n : Nat} {x : Fn} (h : n ≤ T) : opSl (intL (rowW T x)) none (some (n : Int)) = .ok (intL (rowW n x)) := by
  have := esl_to2 (f := eK (intL (rowW T x))) (g := eK (.int (n : Int))) (e := []) (m := (n : Int)) rfl rfl (by omega)
  refine (show opSl (intL (rowW T x)) none (some (n : Int)) = eSl (eK (intL (rowW T x))) oN (oS (eK (.int (n : Int)))) [] from rfl).trans (this.trans ?_)
  rw [Int.toNat_natCast, ← List.map_take]
  congr 3
  obtain ⟨r, rfl⟩ : ∃ r, T = n + r := ⟨T - n, by omega⟩
  rw [rowW_app n r, List.take_append, List.take_of_length_le (by rw [rowW_len]; omega), rowW_len, Nat.sub_self, List.take_zero, List.append_nil]
theorem ix_get {r : List Int} {j : Nat} (h : j < r.length) : opIx (intL r) (.int (j : Int)) = .ok (.int (r.getD j 0)) := by
  obtain ⟨z, h1, _, h3⟩ := ix_ints (xs := r) (k := (j : Int)) (by omega) (by omega)
  rw [h3, List.getD_eq_getElem?_getD]
  rw [Int.toNat_natCast] at h1
  rw [h1]; rfl
theorem flat_intL : ∀ (xs : List Int) (n : Nat), flatAll n (xs.map PyData.int) = true
  | [], _ => rfl
  | x :: xs, n => by show (flatD n (.int x) && flatAll n (xs.map PyData.int)) = true; rw [flat_intL xs n]; unfold flatD; rfl
theorem flat_rowsL (n : Nat) : ∀ rs : List Rw, flatAll (n + 1) (rs.map intL) = true
  | [] => rfl
  | r :: rs => by show (flatD (n + 1) (intL r) && flatAll (n + 1) (rs.map intL)) = true; rw [flat_rowsL n rs, Bool.and_true]; exact flat_intL r n
theorem arW_intL (xs : List Int) (n : Nat) (h : xs.length = n) : arW (n : Int) (intL xs) = true := by rw [arW_ints, decide_eq_true (by omega)]
section
variable {lines : List (List Int)} {wanted : List Int} {many free L : Nat}
theorem need_lin (h : Lin lines wanted many free L) (hL : L ≤ 40) (hm : many ≤ 60) : m_need_table [.list (lines.map intL), intL wanted, .int (free : Int)] = .ok .none := by
  have hp := h.pos
  have hmp := h.mp
  have hfr := h.fr
  have hlen := h.len
  have hwl := h.wl
  have ca : cpy (0 + 3) (.list (lines.map intL)) := cpy_list (by rw [List.length_map]; omega) fun x hx => by
    obtain ⟨l, hl, rfl⟩ := List.mem_map.mp hx
    exact cpy_ints (by rw [h.row l hl]; omega)
  have cb : cpy (0 + 2) (intL wanted) := cpy_ints (by omega)
  rw [m_need_gen ca cb (c := .int (free : Int)) trivial, if_pos]
  obtain ⟨l0, ls, rfl⟩ : ∃ l0 ls, lines = l0 :: ls := by
    cases lines with
    | nil => simp at hlen; omega
    | cons a b => exact ⟨a, b, rfl⟩
  have h0 := h.row l0 List.mem_cons_self
  show (headL (.list (intL l0 :: ls.map intL)) && linesB (l0.map PyData.int).length (intL l0 :: ls.map intL) && (arW ((intL l0 :: ls.map intL : List D).length : Int) (intL wanted) && freeB (l0.map PyData.int).length (.int (free : Int)))) = true
  have el : (intL l0 :: ls.map intL : List D).length = L := by rw [List.length_cons, List.length_map, ← hlen]; rfl
  have a1 : headL (.list (intL l0 :: ls.map intL)) = true := by
    show (decide ((1 : Int) ≤ (intL l0 :: ls.map intL : List D).length) && decide (((intL l0 :: ls.map intL : List D).length : Int) ≤ 40) && true) = true
    rw [el, decide_eq_true (by omega), decide_eq_true (by omega)]; rfl
  have a2 : linesB (l0.map PyData.int).length (intL l0 :: ls.map intL) = true := by
    unfold linesB
    rw [List.length_map, h0, decide_eq_true (by omega), decide_eq_true (by omega), Bool.true_and]
    exact List.all_eq_true.mpr fun x hx => by
      have hx' : x ∈ (l0 :: ls).map intL := hx
      obtain ⟨l, hl, rfl⟩ := List.mem_map.mp hx'
      exact arW_intL l many (h.row l hl)
  have a3 : freeB (l0.map PyData.int).length (.int (free : Int)) = true := by
    unfold freeB
    rw [List.length_map, h0]
    show (decide ((0 : Int) ≤ (free : Int)) && decide ((free : Int) ≤ (many : Int))) = true
    rw [decide_eq_true (by omega), decide_eq_true (by omega)]; rfl
  rw [a1, a2, a3, el, arW_intL wanted L hwl]; rfl
end
end PL

namespace PL
open PySem
/-! ### what solved tells, looked at -/
theorem l_whole {d : D} {n : Int} (h : noScr d) : m_law_whole_ones [d, .int n] = .ok (.bool (arW n d)) := by
  have hs : isScr d = false := by
    cases d with
    | dict kvs => cases kvs with | nil => rfl | cons => exact h.elim
    | _ => rfl
  have h1 : bIsi .list [d] = .ok (.bool (isTy .list d)) := by
    show (if isScr d = true then R.stk else _) = _
    rw [hs]; rfl
  cases d with
  | list xs =>
    have q : qOr (qNot (qV (eC (bIsi .list) (aC (eB 0) aN)))) (qV (e2 opNe (eC bLen (aC (eB 0) aN)) (eB 1))) [.sh (.list xs), .sh (.int n), .no] = .ok (!decide ((xs.length : Int) = n)) := (qor (qnot (qv (cl1 rfl h1))) fun _ => qv (op2 (cl1 rfl rfl) rfl (ne_int _ _))).trans rfl
    by_cases c : (xs.length : Int) = n
    · refine fn_ret ((seq_next ((if_f (q.trans (by rw [decide_eq_true c]; rfl))).trans rfl)).trans (ret_to (cl1 (el (cmp_map (fun x => .bool (isWh x)) (il rfl) h.1 fun x hx => ?_)) (all_bools xs isWh)) ?_))
      · have i1 : bIsi .int [x] = .ok (.bool (isTy .int x)) := by
          show (if isScr x = true then R.stk else _) = _
          rw [h.2 x hx]; rfl
        have i2 : bIsi .bool [x] = .ok (.bool (isTy .bool x)) := by
          show (if isScr x = true then R.stk else _) = _
          rw [h.2 x hx]; rfl
        refine ⟨_, rfl, rfl, (eand (cl1 rfl i1) fun _ => enot (cl1 rfl i2)).trans ?_⟩
        cases x <;> rfl
      · show _ = PyData.bool (decide ((xs.length : Int) = n) && xs.all isWh)
        rw [decide_eq_true c]; rfl
    · refine fn_ret (seq_ret ((if_t (q.trans (by rw [decide_eq_false c]; rfl))).trans (ret_to rfl ?_)))
      show _ = PyData.bool (decide ((xs.length : Int) = n) && xs.all isWh)
      rw [decide_eq_false c]; rfl
  | dict kvs => exact fn_ret (seq_ret ((if_t ((qor (j := true) (qnot (qv (cl1 rfl h1))) fun q => by cases q).trans rfl)).trans (ret_ok rfl)))
  | _ => exact fn_ret (seq_ret ((if_t ((qor (j := true) (qnot (qv (cl1 rfl h1))) fun q => by cases q).trans rfl)).trans (ret_ok rfl)))
theorem minL_app (zs : List Int) : ∃ m, minL (zs ++ [0]) = some m ∧ m ≤ 0 ∧ (m = 0 ↔ ∀ z ∈ zs, 0 ≤ z) := by
  have key : ∀ (r : List Int) (x : Int), r.foldl (fun a b => if b < a then b else a) x ≤ x ∧ (∀ z ∈ r, r.foldl (fun a b => if b < a then b else a) x ≤ z) ∧ r.foldl (fun a b => if b < a then b else a) x ∈ x :: r := fun r => by
    induction r with
    | nil => intro x; exact ⟨Int.le_refl _, fun z h => (by cases h), List.mem_cons_self⟩
    | cons y r ih =>
      intro x
      obtain ⟨h1, h2, h3⟩ := ih (if y < x then y else x)
      rw [List.foldl_cons]
      generalize r.foldl (fun a b => if b < a then b else a) (if y < x then y else x) = m at *
      have hle : (if y < x then y else x) ≤ x ∧ (if y < x then y else x) ≤ y := by by_cases c : y < x <;> simp [c] <;> omega
      refine ⟨by omega, fun z hz => ?_, ?_⟩
      · rcases List.mem_cons.mp hz with rfl | hz
        · omega
        · exact h2 z hz
      · rcases List.mem_cons.mp h3 with h | h
        · rw [h]
          by_cases c : y < x
          · rw [if_pos c]; exact List.mem_cons_of_mem _ List.mem_cons_self
          · rw [if_neg c]; exact List.mem_cons_self
        · exact List.mem_cons_of_mem _ (List.mem_cons_of_mem _ h)
  obtain ⟨x, r, e⟩ : ∃ x r, zs ++ [0] = x :: r := by
    cases zs with
    | nil => exact ⟨0, [], rfl⟩
    | cons a b => exact ⟨a, b ++ [0], rfl⟩
  obtain ⟨h1, h2, h3⟩ := key r x
  have all : ∀ z ∈ zs ++ [0], r.foldl (fun a b => if b < a then b else a) x ≤ z := fun z hz => by
    rw [e] at hz
    rcases List.mem_cons.mp hz with rfl | hz
    · exact h1
    · exact h2 z hz
  rw [← e] at h3
  refine ⟨r.foldl (fun a b => if b < a then b else a) x, by rw [e]; rfl, all 0 (by simp), fun h z hz => ?_, fun h => ?_⟩
  · have := all z (by simp [hz]); omega
  · have h0 := all 0 (by simp)
    rcases List.mem_append.mp h3 with q | q
    · have := h _ q; omega
    · rw [List.mem_singleton.mp q]
theorem rows_ix {asks : List Rw} {k : Nat} (hk : k < asks.length) : opIx (.list (asks.map intL)) (.int (k : Int)) = .ok (intL (asks.getD k [])) := by
  obtain ⟨d, h1, _, h2⟩ := ix_list (xs := asks.map intL) (k := (k : Int)) (by omega) (by rw [List.length_map]; omega)
  rw [h2, List.getD_eq_getElem?_getD]
  rw [Int.toNat_natCast, List.getElem?_map] at h1
  cases e : asks[k]? with
  | none => rw [e] at h1; cases h1
  | some z => rw [e] at h1; cases h1; rfl
theorem sl_hi {T a n : Nat} {x : Fn} (h : a + n = T) : opSl (intL (rowW T x)) (some (a : Int)) none = .ok (intL (rowW n fun i => x (a + i))) := by
  subst h
  rw [← sl_mid (T := a + n) (a := a) (n := n) (x := x) (Nat.le_refl _)]
  show R.ok (PyData.list (cut ((rowW (a + n) x).map .int) (some (a : Int)) none)) = .ok (.list (cut ((rowW (a + n) x).map .int) (some (a : Int)) (some ((a + n : Nat) : Int))))
  have e : sIx ((rowW (a + n) x).map PyData.int).length ((rowW (a + n) x).map PyData.int).length (some ((a + n : Nat) : Int)) = sIx ((rowW (a + n) x).map PyData.int).length ((rowW (a + n) x).map PyData.int).length none := by
    rw [List.length_map, rowW_len]
    show (if ((a + n : Nat) : Int) < 0 then (((a + n : Nat) : Int) + ((a + n : Nat) : Int)).toNat else min ((a + n : Nat) : Int).toNat (a + n)) = a + n
    rw [if_neg (by omega)]; omega
  unfold cut
  rw [e]
theorem ix_t0 (a : D) (rest : List D) : opIx (.tuple (a :: rest)) (.int 0) = .ok a := by
  show toR (atI (a :: rest) 0) = _
  unfold atI ixN
  rw [if_pos (by decide), if_pos (by rw [List.length_cons]; omega)]
  rfl
theorem zip_gen {A B : Type} (f : A → D) (g : B → D) (da : A) (db : B) : ∀ (l : List A) (m : List B), m.length = l.length → zipD (l.map f) (m.map g) = (List.range l.length).map fun k => .tuple [f (l.getD k da), g (m.getD k db)]
  | [], [], _ => rfl
  | a :: l, b :: m, h => by
    show PyData.tuple [f a, g b] :: zipD (l.map f) (m.map g) = _
    rw [zip_gen f g da db l m (by simpa using h), List.length_cons, List.range_succ_eq_map, List.map_cons, List.map_map]
    rfl
theorem rowW_get {n k : Nat} {f : Fn} (h : k < n) : (rowW n f).getD k 0 = f k := by
  unfold rowW
  rw [List.getD_eq_getElem?_getD, List.getElem?_map, List.getElem?_range h]; rfl
theorem getD_in {A : Type} {l : List A} {k : Nat} {d : A} (h : k < l.length) : l.getD k d ∈ l := by
  rw [List.getD_eq_getElem?_getD, List.getElem?_eq_getElem h]; exact List.getElem_mem h
theorem eq_aa : opEq (.str "answer") (.str "answer") = .ok (.bool true) := (eq_strs (by decide +kernel) (by decide +kernel) (by decide +kernel)).1
theorem eq_wa : opEq (.str "weights") (.str "answer") = .ok (.bool false) := (eq_strs (by decide +kernel) (by decide +kernel) (by decide +kernel)).1
theorem eq_ww : opEq (.str "weights") (.str "weights") = .ok (.bool true) := (eq_strs (by decide +kernel) (by decide +kernel) (by decide +kernel)).1
theorem noS_row {n : Nat} {f : Fn} (h : n ≤ 1000) : noScr (intL (rowW n f)) := noScr_ints (by rw [rowW_len]; unfold szL; omega)
section
variable {lines : List (List Int)} {wanted : List Int} {many free L : Nat}
def Bd (B : Nat) (xs : List Int) : Prop := ∀ x ∈ xs, x.natAbs ≤ B
theorem l_answers (h : Lin lines wanted many free L) (hL : L ≤ 40) (hm : many ≤ 60) (b1 : ∀ l ∈ lines, Bd (10 ^ 15) l) (b2 : Bd (10 ^ 15) wanted) {x : Fn} {d : Int} (T : AnsR lines wanted many free L x d) :
    m_law_answers [.list (lines.map intL), intL wanted, .int (free : Int), (SolR.ans x d).d many L] = .ok (.bool true) := by
  have hlen := h.len
  have hp := h.pos
  have hfr := h.fr
  have hl0 : eC bLen (aC (e2 opIx (eB 0) (eK (.int 0))) aN) [.sh (.list (lines.map intL)), .sh (intL wanted), .sh (.int (free : Int)), .sh ((SolR.ans x d).d many L), .no, .no, .no, .no] = .ok (.int (many : Int)) := by
    refine cl1 (op2 rfl rfl (rows_ix (k := 0) (by omega))) ?_
    show R.ok (PyData.int (((lines.getD 0 []).map PyData.int).length : Int)) = _
    rw [List.length_map, h.row _ (getD_in (by omega))]
  have w1 : m_law_whole_ones [intL (rowW many x), .int (many : Int)] = .ok (.bool true) := by
    rw [l_whole (noS_row (by omega)), arW_intL _ _ rowW_len]
  have w2 : m_law_whole_ones [.list [.int d], .int 1] = .ok (.bool true) := by
    rw [l_whole (d := .list [.int d]) (n := 1) ⟨by show 1 ≤ szL; decide, fun y hy => by rw [List.mem_singleton.mp hy]; rfl⟩]; rfl
  have hd := T.pos
  obtain ⟨n, hn⟩ : ∃ n, free + n = many := ⟨many - free, by omega⟩
  obtain ⟨m, m1, m2, m3⟩ := minL_app (rowW n fun i => x (free + i))
  have m0 : m = 0 := m3.mpr fun z hz => by
    unfold rowW at hz
    obtain ⟨k, hk, rfl⟩ := List.mem_map.mp hz
    have := List.mem_range.mp hk
    exact T.nn _ (by omega) (by omega)
  have hmin : eC bMinL (aC (e2 opAdd (eSl (e2 opIx (eB 3) (eK (.int 1))) (oS (eV 2)) oN) (eL (aC (eK (.int 0)) aN))) aN) [.sh (.list (lines.map intL)), .sh (intL wanted), .sh (.int (free : Int)), .sh ((SolR.ans x d).d many L), .no, .no, .no, .no] = .ok (.int 0) := by
    refine cl1 (op2 (sl2 (op2 (x := (SolR.ans x d).d many L) (y := .int 1) (r := .ok (intL (rowW many x))) rfl rfl rfl) (os' rfl) rfl (sl_hi hn)) (el (ac rfl an)) (opAdd_intL (b := [0]) (by rw [rowW_len]; simp; omega))) ?_
    show (asIs (((rowW n fun i => x (free + i)) ++ [0]).map PyData.int)).bind _ = _
    rw [asIs_map]
    show (toR (minL ((rowW n fun i => x (free + i)) ++ [0]))).bind _ = _
    rw [m1, m0]; rfl
  obtain ⟨e', f1, v4, v5, f2⟩ := fLoop_inv (g := gT [(gN 4), (gN 5)]) (b := sIf (qV (e2 opNe (eC bSum (aC (eL (cmp (iZ (eB 4) (e2 opIx (eB 3) (eK (.int 1)))) [6, 7] (gT [(gN 6), (gN 7)]) qY (e2 opMul (eB 6) (eB 7)))) aN)) (e2 opMul (eB 5) (e2 opIx (eB 3) (eK (.int 2)))))) (sRet (eK (.bool false))) sNil)
    (fun i e => ∃ v4 v5, e = [.sh (.list (lines.map intL)), .sh (intL wanted), .sh (.int (free : Int)), .sh ((SolR.ans x d).d many L), v4, v5, .no, .no])
    (xs := (List.range lines.length).map fun k => .tuple [intL (lines.getD k []), .int (wanted.getD k 0)]) (e := [.sh (.list (lines.map intL)), .sh (intL wanted), .sh (.int (free : Int)), .sh ((SolR.ans x d).d many L), .no, .no, .no, .no]) ⟨_, _, rfl⟩ fun i hi e ⟨v4, v5, h2⟩ => by
      subst h2
      have hi' : i < lines.length := by rw [List.length_map, List.length_range] at hi; exact hi
      rw [List.getElem_map, List.getElem_range]
      have rl := h.row _ (getD_in (d := []) hi')
      have bl := b1 _ (getD_in (d := []) hi')
      have hc : cmp (iZ (eB 4) (e2 opIx (eB 3) (eK (.int 1)))) [6, 7] (gT [(gN 6), (gN 7)]) qY (e2 opMul (eB 6) (eB 7)) [.sh (.list (lines.map intL)), .sh (intL wanted), .sh (.int (free : Int)), .sh ((SolR.ans x d).d many L), .sh (intL (lines.getD i [])), .sh (.int (wanted.getD i 0)), .no, .no] = .ok ((rowW many fun k => (lines.getD i []).getD k 0 * x k).map .int) := by
        refine (cmp_enc (A := Nat) (xs := List.range many) (fun k => .tuple [.int ((lines.getD i []).getD k 0), .int ((rowW many x).getD k 0)]) (fun k => .int ((lines.getD i []).getD k 0 * x k)) ?_ (by rw [List.length_range]; omega) fun k hk => ?_).trans (by unfold rowW; rw [List.map_map]; rfl)
        · refine (iz' (xs := (lines.getD i []).map .int) (ys := (rowW many x).map .int) rfl (op2 (x := (SolR.ans x d).d many L) (y := .int 1) (r := .ok (intL (rowW many x))) rfl rfl rfl)).trans ?_
          rw [zip_gen PyData.int PyData.int 0 0 _ _ (by rw [rowW_len, rl]), rl]
        · have hk' := List.mem_range.mp hk
          rw [rowW_get hk']
          have := bl _ (getD_in (d := 0) (l := lines.getD i []) (k := k) (by omega))
          exact ⟨_, rfl, rfl, op2 rfl rfl (mul_l (by omega) (by omega))⟩
      have bw := b2 _ (getD_in (d := 0) (l := wanted) (k := i) (by rw [h.wl]; omega))
      have q : qV (e2 opNe (eC bSum (aC (eL (cmp (iZ (eB 4) (e2 opIx (eB 3) (eK (.int 1)))) [6, 7] (gT [(gN 6), (gN 7)]) qY (e2 opMul (eB 6) (eB 7)))) aN)) (e2 opMul (eB 5) (e2 opIx (eB 3) (eK (.int 2))))) [.sh (.list (lines.map intL)), .sh (intL wanted), .sh (.int (free : Int)), .sh ((SolR.ans x d).d many L), .sh (intL (lines.getD i [])), .sh (.int (wanted.getD i 0)), .no, .no] = .ok false := by
        refine qv (op2 (cl1 (el hc) (sum_ints _)) (op2 rfl (op2 (x := (SolR.ans x d).d many L) (y := .int 2) (r := .ok (.int d)) rfl rfl rfl) (mul_l (by omega) (by omega))) ((ne_int _ _).trans ?_))
        have := T.eq i (by omega)
        rw [sumN_list] at this
        have e1 : (rowW many fun k => (lines.getD i []).getD k 0 * x k).sum = wanted.getD i 0 * d := this
        rw [decide_eq_true e1]; rfl
      exact ⟨_, _, rfl, (if_f q).trans rfl, _, _, rfl⟩
  refine fn_ret ((seq_next ((if_f ((qor (qv (op2 (cl1 rfl rfl) rfl (ne_int _ _))) fun _ => qor (qnot (qv (cl2 (op2 (x := (SolR.ans x d).d many L) (y := .int 1) (r := .ok (intL (rowW many x))) rfl rfl rfl) hl0 w1))) fun _ => qnot (qv (cl2 (el (ac (op2 (x := (SolR.ans x d).d many L) (y := .int 2) (r := .ok (.int d)) rfl rfl rfl) an)) rfl w2))).trans rfl)).trans rfl)).trans ?_)
  refine (seq_next ((if_f ((qor (k := false) (j := false) (qv (op2 (op2 (x := (SolR.ans x d).d many L) (y := .int 2) (r := .ok (.int d)) rfl rfl rfl) rfl ?_)) fun _ => qv (op2 hmin rfl rfl)).trans rfl)).trans rfl)).trans ?_
  · show R.ok (PyData.bool (decide (d < 1))) = _
    rw [decide_eq_false (by omega)]
  refine (seq_next (for_ok ?_ f1)).trans (?_ : sRet (eK (.bool true)) e' = _)
  · refine (iz' (xs := lines.map intL) (ys := wanted.map .int) rfl rfl).trans ?_
    rw [zip_gen intL PyData.int [] 0 _ _ (by rw [h.wl, h.len])]
  · exact ret_ok rfl
theorem l_shows (h : Lin lines wanted many free L) (hL : L ≤ 40) (hm : many ≤ 60) (b1 : ∀ l ∈ lines, Bd (10 ^ 15) l) (b2 : Bd (10 ^ 15) wanted) {w : Fn} (T : WtsR lines wanted many free L w) :
    m_law_shows [.list (lines.map intL), intL wanted, .int (free : Int), (SolR.wts w).d many L] = .ok (.bool true) := by
  have hlen := h.len
  have hp := h.pos
  have hfr := h.fr
  have hl0 : ∀ (v4 v5 v6 : SV), eC bLen (aC (e2 opIx (eB 0) (eK (.int 0))) aN) [.sh (.list (lines.map intL)), .sh (intL wanted), .sh (.int (free : Int)), .sh ((SolR.wts w).d many L), v4, v5, v6] = .ok (.int (many : Int)) := fun _ _ _ => by
    refine cl1 (op2 rfl rfl (rows_ix (k := 0) (by omega))) ?_
    show R.ok (PyData.int (((lines.getD 0 []).map PyData.int).length : Int)) = _
    rw [List.length_map, h.row _ (getD_in (by omega))]
  have hll : ∀ (v4 v5 v6 : SV), eC bLen (aC (eB 0) aN) [.sh (.list (lines.map intL)), .sh (intL wanted), .sh (.int (free : Int)), .sh ((SolR.wts w).d many L), v4, v5, v6] = .ok (.int (L : Int)) := fun _ _ _ => cl1 rfl (by show R.ok (PyData.int ((lines.map intL).length : Int)) = _; rw [List.length_map, hlen])
  have hw : ∀ (v4 v5 v6 : SV), e2 opIx (eB 3) (eK (.int 1)) [.sh (.list (lines.map intL)), .sh (intL wanted), .sh (.int (free : Int)), .sh ((SolR.wts w).d many L), v4, v5, v6] = .ok (intL (rowW L w)) := fun _ _ _ => op2 (x := (SolR.wts w).d many L) (y := .int 1) rfl rfl rfl
  have w1 : m_law_whole_ones [intL (rowW L w), .int (L : Int)] = .ok (.bool true) := by
    rw [l_whole (noS_row (by omega)), arW_intL _ _ rowW_len]
  obtain ⟨e', f1, v4, v5, f2⟩ := fLoop_inv (g := gN 4) (b := (sSeq (sSet (gN 5) (eC bSum (aC (eL (cmp (iR1 (eC bLen (aC (eB 0) aN))) [6] (gN 6) qY (e2 opMul (e2 opIx (e2 opIx (eB 0) (eV 6)) (eV 4)) (e2 opIx (e2 opIx (eB 3) (eK (.int 1))) (eV 6))))) aN)))
  (sIf (qOr (qV (e2 opGt (eB 5) (eK (.int 0)))) (qAnd (qV (e2 opLt (eB 4) (eB 2))) (qV (e2 opNe (eB 5) (eK (.int 0)))))) (sRet (eK (.bool false))) sNil)))
    (fun i e => ∃ v4 v5, e = [.sh (.list (lines.map intL)), .sh (intL wanted), .sh (.int (free : Int)), .sh ((SolR.wts w).d many L), v4, v5, .no])
    (xs := (List.range many).map fun (k : Nat) => PyData.int (k : Int)) (e := [.sh (.list (lines.map intL)), .sh (intL wanted), .sh (.int (free : Int)), .sh ((SolR.wts w).d many L), .no, .no, .no]) ⟨_, _, rfl⟩ fun i hi e ⟨v4, v5, h2⟩ => by
      subst h2
      have hi' : i < many := by rw [List.length_map, List.length_range] at hi; exact hi
      rw [List.getElem_map, List.getElem_range]
      have hc := cmp_rng (n := L) (it := iR1 (eC bLen (aC (eB 0) aN))) (vs := [6]) (g := gN 6) (t := qY) (f := e2 opMul (e2 opIx (e2 opIx (eB 0) (eV 6)) (eV 4)) (e2 opIx (e2 opIx (eB 3) (eK (.int 1))) (eV 6))) (e := [.sh (.list (lines.map intL)), .sh (intL wanted), .sh (.int (free : Int)), .sh ((SolR.wts w).d many L), .sh (.int (i : Int)), v5, .no])
        (fun k => (lines.getD k []).getD i 0 * w k) (ir1n (hll _ _ _) (by omega)) (by omega) fun k hk => by
          have rl := h.row _ (getD_in (d := []) (l := lines) (k := k) (by omega))
          have bl := b1 _ (getD_in (d := []) (l := lines) (k := k) (by omega)) _ (getD_in (d := 0) (k := i) (by omega))
          exact ⟨_, rfl, rfl, op2 (op2 (op2 rfl rfl (rows_ix (by omega))) rfl (ix_get (by omega))) (op2 (hw _ _ _) rfl (rowW_ix hk)) (mul_l (by omega) (by omega))⟩
      have hle := T.le i hi'
      have heq : i < free → (sumN L fun k => (lines.getD k []).getD i 0 * w k) = 0 := fun h => T.eq i h
      rw [sumN_list] at hle heq
      have hs : eC bSum (aC (eL (cmp (iR1 (eC bLen (aC (eB 0) aN))) [6] (gN 6) qY (e2 opMul (e2 opIx (e2 opIx (eB 0) (eV 6)) (eV 4)) (e2 opIx (e2 opIx (eB 3) (eK (.int 1))) (eV 6))))) aN) [.sh (.list (lines.map intL)), .sh (intL wanted), .sh (.int (free : Int)), .sh ((SolR.wts w).d many L), .sh (.int (i : Int)), v5, .no] = .ok (.int (rowW L fun k => (lines.getD k []).getD i 0 * w k).sum) := cl1 (el hc) (sum_ints _)
      have hle : (rowW L fun k => (lines.getD k []).getD i 0 * w k).sum ≤ 0 := hle
      have heq : i < free → (rowW L fun k => (lines.getD k []).getD i 0 * w k).sum = 0 := heq
      generalize (rowW L fun k => (lines.getD k []).getD i 0 * w k).sum = t at *
      refine ⟨_, _, rfl, sq_set hs ((if_f ((qor (j := false) (qv (op2 rfl rfl rfl)) fun _ => ?_).trans ?_)).trans rfl), _, _, rfl⟩
      · by_cases c : i < free
        · refine (qand (qv (op2 rfl rfl rfl)) fun _ => qv (op2 rfl rfl (ne_int _ _))).trans ?_
          rw [decide_eq_true (heq c)]
          show R.ok (_ && false) = _
          rw [Bool.and_false]
        · refine (qand (j := false) (k := decide ((i : Int) < (free : Int))) (qv (op2 rfl rfl rfl)) fun q => ?_).trans ?_
          · rw [decide_eq_false (by omega)] at q; cases q
          · rw [decide_eq_false (by omega)]; rfl
      · show R.ok (decide (0 < t) || false) = _
        rw [decide_eq_false (by omega)]; rfl
  refine fn_ret ((seq_next ((if_f ((qor (qv (op2 (cl1 rfl rfl) rfl (ne_int _ _))) fun _ => qnot (qv (cl2 (hw _ _ _) (hll _ _ _) w1))).trans rfl)).trans rfl)).trans ((seq_next (for_ok (ir1n (hl0 _ _ _) (by omega)) f1)).trans ?_))
  rw [f2]
  have hc := cmp_rng (n := L) (it := iR1 (eC bLen (aC (eB 0) aN))) (vs := [6]) (g := gN 6) (t := qY) (f := e2 opMul (e2 opIx (eB 1) (eV 6)) (e2 opIx (e2 opIx (eB 3) (eK (.int 1))) (eV 6))) (e := [.sh (.list (lines.map intL)), .sh (intL wanted), .sh (.int (free : Int)), .sh ((SolR.wts w).d many L), v4, v5, .no])
    (fun k => wanted.getD k 0 * w k) (ir1n (hll _ _ _) (by omega)) (by omega) fun k hk => by
      have bl := b2 _ (getD_in (d := 0) (l := wanted) (k := k) (by rw [h.wl]; exact hk))
      exact ⟨_, rfl, rfl, op2 (op2 rfl rfl (ix_get (by rw [h.wl]; exact hk))) (op2 (hw _ _ _) rfl (rowW_ix hk)) (mul_l (by omega) (by omega))⟩
  refine ret_to (op2 (cl1 (el hc) (sum_ints _)) rfl rfl) ?_
  have := T.pos
  rw [sumN_list] at this
  have e1 : 0 < (rowW L fun k => wanted.getD k 0 * w k).sum := this
  rw [decide_eq_true e1]
theorem l_right (h : Lin lines wanted many free L) (hL : L ≤ 40) (hm : many ≤ 60) (b1 : ∀ l ∈ lines, Bd (10 ^ 15) l) (b2 : Bd (10 ^ 15) wanted) {r : SolR} (T : r.right lines wanted many free L) :
    m_law_right [.list (lines.map intL), intL wanted, .int (free : Int), r.d many L] = .ok (.bool true) := by
  cases r with
  | ans x d =>
    have T : AnsR lines wanted many free L x d := T
    refine fn_ret ((seq_next ((if_f ((qor (qnot (qv (cl1 rfl rfl))) fun _ => qor (qv (op2 (cl1 rfl rfl) rfl rfl)) fun _ => qnot (qv (cl1 (op2 (x := (SolR.ans x d).d many L) (y := .int 0) (r := .ok (.str "answer")) rfl rfl rfl) rfl))).trans rfl)).trans rfl)).trans (seq_ret ((if_t (qv (op2 (op2 (x := (SolR.ans x d).d many L) (y := .int 0) (r := .ok (.str "answer")) rfl rfl rfl) rfl eq_aa))).trans (ret_ok (cl4' rfl rfl rfl rfl (l_answers h hL hm b1 b2 T))))))
  | wts w =>
    have T : WtsR lines wanted many free L w := T
    refine fn_ret ((seq_next ((if_f ((qor (qnot (qv (cl1 rfl rfl))) fun _ => qor (qv (op2 (cl1 rfl rfl) rfl rfl)) fun _ => qnot (qv (cl1 (op2 (x := (SolR.wts w).d many L) (y := .int 0) (r := .ok (.str "weights")) rfl rfl rfl) rfl))).trans rfl)).trans rfl)).trans ((seq_next ((if_f (qv (op2 (op2 (x := (SolR.wts w).d many L) (y := .int 0) (r := .ok (.str "weights")) rfl rfl rfl) rfl eq_wa))).trans rfl)).trans (ret_to (eand (op2 (op2 (x := (SolR.wts w).d many L) (y := .int 0) (r := .ok (.str "weights")) rfl rfl rfl) rfl eq_ww) fun _ => cl4' rfl rfl rfl rfl (l_shows h hL hm b1 b2 T)) rfl)))
end
end PL

namespace PL
open PySem
/-! ### what is built -/
theorem sumN_bd {B : Nat} {f : Nat → Int} : ∀ {n : Nat}, (∀ k, k < n → (f k).natAbs ≤ B) → (sumN n f).natAbs ≤ n * B
  | 0, _ => by show (0 : Int).natAbs ≤ _; simp
  | n + 1, h => by
    have ih := sumN_bd (n := n) fun k hk => h k (Nat.lt_succ_of_lt hk)
    have h1 := h n (Nat.lt_succ_self n)
    show (sumN n f + f n).natAbs ≤ _
    rw [Nat.add_mul, Nat.one_mul]
    omega
theorem pow_ok {a b : Int} (h : 0 ≤ b ∧ b ≤ 1000 ∧ a.natAbs < 2 ^ 64) : opPow (.int a) (.int b) = .ok (.int (a ^ b.toNat)) := if_pos h
theorem pow9 : opPow (.int 10) (.int 9) = .ok (.int 1000000000) := (pow_ok (a := 10) (b := 9) (by decide)).trans (congrArg (fun z => R.ok (PyData.int z)) (by decide +kernel))
def LnP (many : Nat) (B : Nat) (l : List Int) : Prop := l.length = many ∧ Bd B l
set_option maxHeartbeats 1000000 in
theorem m_lines {ns : List Int} {n many : Nat} (hn : n ≤ 20) (hm : many ≤ 25) : ∃ ls : List (List Int), m_law_lines [scri ns, .int (n : Int), .int (many : Int)] = .ok (.list (ls.map intL)) ∧ ls.length = n ∧ ∀ l ∈ ls, LnP many (10 ^ 12) l := by
  obtain ⟨d, hd, far, rfl, f1, f2⟩ : ∃ d, opIx (.list [.int 1, .int 1, .int 1, .int 1, .int 1, .int 1000000007]) (.int (cell ns 1 % 6)) = .ok d ∧ ∃ z : Int, d = .int z ∧ 1 ≤ z ∧ z ≤ 1000000007 := by
    obtain ⟨d, h1, h2⟩ := pick (fun d => ∃ z : Int, d = .int z ∧ 1 ≤ z ∧ z ≤ 1000000007) (xs := [.int 1, .int 1, .int 1, .int 1, .int 1, .int 1000000007]) (k := cell ns 1 % 6) (by omega) (by show cell ns 1 % 6 < 6; omega) fun d hd => by
      simp only [List.mem_cons, List.not_mem_nil, or_false] at hd
      rcases hd with rfl | rfl | rfl | rfl | rfl | rfl
      · exact ⟨1, rfl, by decide, by decide⟩
      · exact ⟨1, rfl, by decide, by decide⟩
      · exact ⟨1, rfl, by decide, by decide⟩
      · exact ⟨1, rfl, by decide, by decide⟩
      · exact ⟨1, rfl, by decide, by decide⟩
      · exact ⟨_, rfl, by decide, by decide⟩
    exact ⟨d, h1, h2⟩
  have hfar : e2 opIx (eL (aC (eK (.int 1)) (aC (eK (.int 1)) (aC (eK (.int 1)) (aC (eK (.int 1)) (aC (eK (.int 1)) (aC (e2 opAdd (e2 opPow (eK (.int 10)) (eK (.int 9))) (eK (.int 7))) aN))))))) (e2 opMod (eC m_law_cell_at (aC (eV 0) (aC (eK (.int 1)) aN))) (eK (.int 6))) [.sh (scri ns), .sh (.int (n : Int)), .sh (.int (many : Int)), .ow [], .no, .no, .no, .no, .no, .no] = .ok (.int far) :=
    op2 (el (ac rfl (ac rfl (ac rfl (ac rfl (ac rfl (ac (op2 (op2 rfl rfl pow9) rfl rfl) an))))))) (op2 (cl2 rfl rfl (m_cell (by decide))) rfl (mod_ok (by decide))) hd
  have q : qV (e2 opGt (eB 1) (eK (.int 9))) [.sh (scri ns), .sh (.int (n : Int)), .sh (.int (many : Int)), .ow [], .sh (.int far), .no, .no, .no, .no, .no] = .ok (decide ((9 : Int) < (n : Int))) := qv (op2 rfl rfl rfl)
  by_cases big : (9 : Int) < (n : Int)
  · obtain ⟨e', g1, ls, v6, v7, g2, g3, g4⟩ := fLoop_inv (g := gN 6) (b := (sSeq (sSet (gN 7) (eL (cmp (iR1 (eV 2)) [8] (gN 8) qY (e2 opMod (eC m_law_drawn (aC (eV 5) (aC (e2 opAdd (e2 opMul (eK (.int 40)) (eB 6)) (eB 8)) aN))) (eK (.int 20))))))
  (sApp 3 (eL (cmp (iL (eB 7)) [9] (gN 9) qY (e2 opIx (eL (aC (eK (.int 0)) (aC (e2 opSub (eB 9) (eK (.int 2))) aN))) (eC bInt (aC (e2 opLt (eB 9) (eK (.int 5))) aN))))))))
      (fun i e => ∃ (ls : List (List Int)) (v6 v7 : SV), e = [.sh (scri ns), .sh (.int (n : Int)), .sh (.int (many : Int)), .ow (ls.map intL), .sh (.int far), .sh (.int (cell ns 5)), v6, v7, .no, .no] ∧ ls.length = i ∧ ∀ l ∈ ls, LnP many (10 ^ 12) l)
      (xs := (List.range n).map fun (k : Nat) => PyData.int (k : Int)) (e := [.sh (scri ns), .sh (.int (n : Int)), .sh (.int (many : Int)), .ow [], .sh (.int far), .sh (.int (cell ns 5)), .no, .no, .no, .no]) ⟨[], _, _, rfl, rfl, fun l h => by cases h⟩ fun i hi e ⟨ls, v6, v7, h2, h3, h4⟩ => by
        subst h2
        have hi' : i < n := by rw [List.length_map, List.length_range] at hi; exact hi
        rw [List.getElem_map, List.getElem_range]
        have c7 := cmp_rng (n := many) (it := iR1 (eV 2)) (vs := [8]) (g := gN 8) (t := qY) (f := e2 opMod (eC m_law_drawn (aC (eV 5) (aC (e2 opAdd (e2 opMul (eK (.int 40)) (eB 6)) (eB 8)) aN))) (eK (.int 20))) (e := [.sh (scri ns), .sh (.int (n : Int)), .sh (.int (many : Int)), .ow (ls.map intL), .sh (.int far), .sh (.int (cell ns 5)), .sh (.int (i : Int)), v7, .no, .no])
          (fun k => draw (cell ns 5) (40 * (i : Int) + (k : Int)) % 20) (ir1n rfl (by omega)) (by omega) fun k hk => ⟨_, rfl, rfl, op2 (cl2 rfl (op2 (op2 rfl rfl (mul_l (by decide) (by decide))) rfl rfl) (m_drawn _ _)) rfl (mod_ok (by decide))⟩
        have hb : ∀ z ∈ rowW many (fun k => draw (cell ns 5) (40 * (i : Int) + (k : Int)) % 20), 0 ≤ z ∧ z < 20 := fun z hz => by
          unfold rowW at hz
          obtain ⟨k, _, rfl⟩ := List.mem_map.mp hz
          show 0 ≤ draw (cell ns 5) (40 * (i : Int) + (k : Int)) % 20 ∧ draw (cell ns 5) (40 * (i : Int) + (k : Int)) % 20 < 20
          omega
        have hl7 : (rowW many fun k => draw (cell ns 5) (40 * (i : Int) + (k : Int)) % 20).length = many := rowW_len
        generalize (rowW many fun k => draw (cell ns 5) (40 * (i : Int) + (k : Int)) % 20) = G at *
        have c9 : cmp (iL (eB 7)) [9] (gN 9) qY (e2 opIx (eL (aC (eK (.int 0)) (aC (e2 opSub (eB 9) (eK (.int 2))) aN))) (eC bInt (aC (e2 opLt (eB 9) (eK (.int 5))) aN))) [.sh (scri ns), .sh (.int (n : Int)), .sh (.int (many : Int)), .ow (ls.map intL), .sh (.int far), .sh (.int (cell ns 5)), .sh (.int (i : Int)), .sh (intL G), .no, .no] = .ok ((G.map fun z => if z < 5 then z - 2 else 0).map .int) := by
          rw [List.map_map]
          refine cmp_enc (A := Int) (xs := G) .int (fun z => .int (if z < 5 then z - 2 else 0)) (il rfl) (by omega) fun z hz => ⟨_, rfl, rfl, op2 (el (ac rfl (ac (op2 rfl rfl rfl) an))) (cl1 (op2 rfl rfl rfl) rfl) ?_⟩
          by_cases c : z < 5
          · rw [decide_eq_true c, if_pos c]; rfl
          · rw [decide_eq_false c, if_neg c]; rfl
        refine ⟨_, _, rfl, sq_set (el c7) (app_ok (d := intL (G.map fun z => if z < 5 then z - 2 else 0)) rfl (el c9) (by rw [List.length_map]; omega)), ls ++ [G.map fun z => if z < 5 then z - 2 else 0], .sh (.int (i : Int)), .sh (intL G), by rw [List.map_append]; rfl, by rw [List.length_append, h3]; rfl, fun l hl => ?_⟩
        rcases List.mem_append.mp hl with hl | hl
        · exact h4 l hl
        · rw [List.mem_singleton.mp hl]
          refine ⟨by rw [List.length_map, hl7], fun x hx => ?_⟩
          obtain ⟨z, hz, rfl⟩ := List.mem_map.mp hx
          have := hb z hz
          show (if z < 5 then z - 2 else 0).natAbs ≤ _
          by_cases c : z < 5
          · rw [if_pos c]; omega
          · rw [if_neg c]; decide
    rw [List.length_map, List.length_range] at g3
    refine ⟨ls, fn_ret (op_own an (sq_set hfar (seq_ret ((if_t (q.trans (by rw [decide_eq_true big]))).trans (sq_set (cl2 rfl rfl (m_cell (by decide))) ((seq_next (for_ok (ir1n rfl (by omega)) g1)).trans ?_)))))), g3, g4⟩
    rw [g2]; rfl
  · obtain ⟨e', g1, ls, v5, v6, g2, g3, g4⟩ := fLoop_inv (g := gN 6) (b := (sSeq (sSet (gN 5) (eC m_law_cell_at (aC (eV 0) (aC (e2 opAdd (eK (.int 5)) (eB 6)) aN))))
  (sIf (qAnd (qV (e2 opEq (e2 opMod (eB 5) (eK (.int 5))) (eK (.int 1)))) (qV (e2 opGt (eB 6) (eK (.int 1))))) (sApp 3 (eL (cmp (iR1 (eV 2)) [8] (gN 8) qY (e2 opAdd (e2 opIx (e2 opIx (eB 3) (e2 opSub (eB 6) (eK (.int 1)))) (eV 8)) (e2 opIx (e2 opIx (eB 3) (e2 opSub (eB 6) (eK (.int 2)))) (eV 8)))))) (sApp 3 (eL (cmp (iR1 (eV 2)) [8] (gN 8) qY (e2 opMul (eB 4) (e2 opSub (e2 opMod (eC m_law_drawn (aC (eV 5) (aC (eV 8) aN))) (eK (.int 7))) (eK (.int 3))))))))))
      (fun i e => ∃ (ls : List (List Int)) (v5 v6 : SV), e = [.sh (scri ns), .sh (.int (n : Int)), .sh (.int (many : Int)), .ow (ls.map intL), .sh (.int far), v5, v6, .no, .no, .no] ∧ ls.length = i ∧ ∀ k, k < i → LnP many (2 ^ k * 3000000021) (ls.getD k []))
      (xs := (List.range n).map fun (k : Nat) => PyData.int (k : Int)) (e := [.sh (scri ns), .sh (.int (n : Int)), .sh (.int (many : Int)), .ow [], .sh (.int far), .no, .no, .no, .no, .no]) ⟨[], _, _, rfl, rfl, fun k h => by omega⟩ fun i hi e ⟨ls, v5, v6, h2, h3, h4⟩ => by
        subst h2
        have hi' : i < n := by rw [List.length_map, List.length_range] at hi; exact hi
        rw [List.getElem_map, List.getElem_range]
        have hll : (ls.map intL).length ≤ 1000 := by rw [List.length_map]; omega
        have hcell : e2 opAdd (eK (.int 5)) (eB 6) = e2 opAdd (eK (.int 5)) (eB 6) := rfl
        have s5 : eC m_law_cell_at (aC (eV 0) (aC (e2 opAdd (eK (.int 5)) (eB 6)) aN)) [.sh (scri ns), .sh (.int (n : Int)), .sh (.int (many : Int)), .ow (ls.map intL), .sh (.int far), v5, .sh (.int (i : Int)), .no, .no, .no] = .ok (.int (cell ns (5 + (i : Int)))) := cl2 rfl (op2 rfl rfl rfl) (m_cell (by omega))
        generalize cell ns (5 + (i : Int)) = c at s5
        have nxt : ∀ z : List Int, LnP many (2 ^ i * 3000000021) z → ∀ k, k < i + 1 → LnP many (2 ^ k * 3000000021) ((ls ++ [z]).getD k []) := fun z hz k hk => by
          by_cases e : k = i
          · subst e
            rw [List.getD_eq_getElem?_getD, List.getElem?_append_right (by omega), h3, Nat.sub_self]; exact hz
          · rw [List.getD_eq_getElem?_getD, List.getElem?_append_left (by omega), ← List.getD_eq_getElem?_getD]; exact h4 k (by omega)
        have qq : qAnd (qV (e2 opEq (e2 opMod (eB 5) (eK (.int 5))) (eK (.int 1)))) (qV (e2 opGt (eB 6) (eK (.int 1)))) [.sh (scri ns), .sh (.int (n : Int)), .sh (.int (many : Int)), .ow (ls.map intL), .sh (.int far), .sh (.int c), .sh (.int (i : Int)), .no, .no, .no] = .ok (decide (c % 5 = 1) && decide ((1 : Int) < (i : Int))) := qand (qv (op2 (op2 rfl rfl (mod_ok (by decide))) rfl (eq_int _ _))) fun _ => qv (op2 rfl rfl rfl)
        cases hb : (decide (c % 5 = 1) && decide ((1 : Int) < (i : Int))) with
        | true =>
          have hi2 : 1 < i := by
            rw [Bool.and_eq_true] at hb
            have := of_decide_eq_true hb.2
            omega
          obtain ⟨l1, b1⟩ := h4 (i - 1) (by omega)
          obtain ⟨l2, b2⟩ := h4 (i - 2) (by omega)
          have e1 : opIx (.list (ls.map intL)) (.int ((i : Int) - 1)) = .ok (intL (ls.getD (i - 1) [])) := by
            have := rows_ix (asks := ls) (k := i - 1) (by omega)
            rw [show ((i - 1 : Nat) : Int) = (i : Int) - 1 by omega] at this; exact this
          have e2' : opIx (.list (ls.map intL)) (.int ((i : Int) - 2)) = .ok (intL (ls.getD (i - 2) [])) := by
            have := rows_ix (asks := ls) (k := i - 2) (by omega)
            rw [show ((i - 2 : Nat) : Int) = (i : Int) - 2 by omega] at this; exact this
          have hc := cmp_rng (n := many) (it := iR1 (eV 2)) (vs := [8]) (g := gN 8) (t := qY) (f := e2 opAdd (e2 opIx (e2 opIx (eB 3) (e2 opSub (eB 6) (eK (.int 1)))) (eV 8)) (e2 opIx (e2 opIx (eB 3) (e2 opSub (eB 6) (eK (.int 2)))) (eV 8))) (e := [.sh (scri ns), .sh (.int (n : Int)), .sh (.int (many : Int)), .ow (ls.map intL), .sh (.int far), .sh (.int c), .sh (.int (i : Int)), .no, .no, .no])
            (fun j => (ls.getD (i - 1) []).getD j 0 + (ls.getD (i - 2) []).getD j 0) (ir1n rfl (by omega)) (by omega) fun j hj => ⟨_, rfl, rfl, op2 (op2 (op2 rfl (op2 rfl rfl rfl) e1) rfl (ix_get (by omega))) (op2 (op2 rfl (op2 rfl rfl rfl) e2') rfl (ix_get (by omega))) rfl⟩
          refine ⟨_, _, rfl, sq_set s5 ((if_t (qq.trans (by rw [hb]))).trans (app_ok (d := intL (rowW many fun j => (ls.getD (i - 1) []).getD j 0 + (ls.getD (i - 2) []).getD j 0)) rfl (el hc) hll)), ls ++ [rowW many fun j => (ls.getD (i - 1) []).getD j 0 + (ls.getD (i - 2) []).getD j 0], .sh (.int c), .sh (.int (i : Int)), by rw [List.map_append]; rfl, by rw [List.length_append, h3]; rfl, nxt _ ⟨rowW_len, fun x hx => ?_⟩⟩
          unfold rowW at hx
          obtain ⟨j, hj, rfl⟩ := List.mem_map.mp hx
          have hj' := List.mem_range.mp hj
          have p1 := b1 _ (getD_in (d := 0) (k := j) (by omega))
          have p2 := b2 _ (getD_in (d := 0) (k := j) (by omega))
          obtain ⟨m, rfl⟩ : ∃ m, i = m + 2 := ⟨i - 2, by omega⟩
          rw [show m + 2 - 1 = m + 1 by omega] at p1 ⊢
          rw [show m + 2 - 2 = m by omega] at p2 ⊢
          rw [Nat.pow_succ] at p1
          rw [Nat.pow_succ, Nat.pow_succ]
          generalize 2 ^ m = P at *
          omega
        | false =>
          have hc := cmp_rng (n := many) (it := iR1 (eV 2)) (vs := [8]) (g := gN 8) (t := qY) (f := e2 opMul (eB 4) (e2 opSub (e2 opMod (eC m_law_drawn (aC (eV 5) (aC (eV 8) aN))) (eK (.int 7))) (eK (.int 3)))) (e := [.sh (scri ns), .sh (.int (n : Int)), .sh (.int (many : Int)), .ow (ls.map intL), .sh (.int far), .sh (.int c), .sh (.int (i : Int)), .no, .no, .no])
            (fun j => far * (draw c (j : Int) % 7 - 3)) (ir1n rfl (by omega)) (by omega) fun j hj => ⟨_, rfl, rfl, op2 rfl (op2 (op2 (cl2 rfl rfl (m_drawn _ _)) rfl (mod_ok (by decide))) rfl rfl) (mul_l (by omega) (by omega))⟩
          refine ⟨_, _, rfl, sq_set s5 ((if_f (qq.trans (by rw [hb]))).trans (app_ok (d := intL (rowW many fun j => far * (draw c (j : Int) % 7 - 3))) rfl (el hc) hll)), ls ++ [rowW many fun j => far * (draw c (j : Int) % 7 - 3)], .sh (.int c), .sh (.int (i : Int)), by rw [List.map_append]; rfl, by rw [List.length_append, h3]; rfl, nxt _ ⟨rowW_len, fun x hx => ?_⟩⟩
          unfold rowW at hx
          obtain ⟨j, hj, rfl⟩ := List.mem_map.mp hx
          have hz : (draw c (j : Int) % 7 - 3).natAbs ≤ 3 := by omega
          have hf : far.natAbs ≤ 1000000007 := by omega
          show (far * (draw c (j : Int) % 7 - 3)).natAbs ≤ 2 ^ i * 3000000021
          rw [Int.natAbs_mul]
          have h1 : far.natAbs * (draw c (j : Int) % 7 - 3).natAbs ≤ 1000000007 * 3 := Nat.mul_le_mul hf hz
          have h2 : 1 ≤ 2 ^ i := Nat.one_le_two_pow
          have h3 : 1 * 3000000021 ≤ 2 ^ i * 3000000021 := Nat.mul_le_mul_right _ h2
          omega
    rw [List.length_map, List.length_range] at g3 g4
    refine ⟨ls, fn_ret (op_own an (sq_set hfar ((seq_next ((if_f (q.trans (by rw [decide_eq_false big]))).trans rfl)).trans ((seq_next (for_ok (ir1n rfl (by omega)) g1)).trans ?_)))), g3, fun l hl => ?_⟩
    · rw [g2]; rfl
    · obtain ⟨k, hk, rfl⟩ := List.getElem_of_mem hl
      have := g4 k (by omega)
      rw [List.getD_eq_getElem?_getD, List.getElem?_eq_getElem hk] at this
      refine ⟨this.1, fun x hx => Nat.le_trans (this.2 x hx) ?_⟩
      have : 2 ^ k ≤ 2 ^ 8 := Nat.pow_le_pow_right (by decide) (by omega)
      have h8 : 2 ^ k * 3000000021 ≤ 2 ^ 8 * 3000000021 := Nat.mul_le_mul_right _ this
      exact Nat.le_trans h8 (by decide)
end PL

namespace PL
open PySem
theorem bd_row {n B : Nat} {f : Nat → Int} (h : ∀ k, k < n → (f k).natAbs ≤ B) : Bd B (rowW n f) := fun x hx => by
  unfold rowW at hx
  obtain ⟨k, hk, rfl⟩ := List.mem_map.mp hx
  exact h k (List.mem_range.mp hk)
set_option maxHeartbeats 1000000 in
theorem m_wanted {ns : List Int} {ls : List (List Int)} {many L free : Nat} (h1 : 1 ≤ L) (hL : L ≤ 20) (hm : many ≤ 25) (hl : ls.length = L) (hp : ∀ l ∈ ls, LnP many (10 ^ 12) l) :
    ∃ ws : List Int, m_law_wanted [scri ns, .list (ls.map intL), .int (many : Int), .int (free : Int)] = .ok (intL ws) ∧ ws.length = L ∧ Bd (10 ^ 15) ws := by
  let c := cell ns 2
  have hll : ∀ (v4 v5 v6 v7 v8 v9 v10 : SV), eC bLen (aC (eB 1) aN) [.sh (scri ns), .sh (.list (ls.map intL)), .sh (.int (many : Int)), .sh (.int (free : Int)), v4, v5, v6, v7, v8, v9, v10] = .ok (.int (L : Int)) := fun _ _ _ _ _ _ _ => cl1 rfl (by show R.ok (PyData.int ((ls.map intL).length : Int)) = _; rw [List.length_map, hl])
  have s4 : eC m_law_cell_at (aC (eV 0) (aC (eK (.int 2)) aN)) [.sh (scri ns), .sh (.list (ls.map intL)), .sh (.int (many : Int)), .sh (.int (free : Int)), .no, .no, .no, .no, .no, .no, .no] = .ok (.int c) := cl2 rfl rfl (m_cell (by decide))
  generalize c = c at s4
  have q0 : qV (e2 opEq (e2 opMod (eB 4) (eK (.int 3))) (eK (.int 0))) [.sh (scri ns), .sh (.list (ls.map intL)), .sh (.int (many : Int)), .sh (.int (free : Int)), .sh (.int c), .no, .no, .no, .no, .no, .no] = .ok (decide (c % 3 = 0)) := qv (op2 (op2 rfl rfl (mod_ok (by decide))) rfl (eq_int _ _))
  by_cases b0 : c % 3 = 0
  · have hc := cmp_rng (n := L) (it := iR1 (eC bLen (aC (eB 1) aN))) (vs := [5]) (g := gN 5) (t := qY) (f := e2 opSub (e2 opMod (eC m_law_drawn (aC (eV 4) (aC (e2 opAdd (eK (.int 50)) (eB 5)) aN))) (eK (.int 15))) (eK (.int 7))) (e := [.sh (scri ns), .sh (.list (ls.map intL)), .sh (.int (many : Int)), .sh (.int (free : Int)), .sh (.int c), .no, .no, .no, .no, .no, .no])
      (fun k => draw c (50 + (k : Int)) % 15 - 7) (ir1n (hll _ _ _ _ _ _ _) (by omega)) (by omega) fun k hk => ⟨_, rfl, rfl, op2 (op2 (cl2 rfl (op2 rfl rfl rfl) (m_drawn _ _)) rfl (mod_ok (by decide))) rfl rfl⟩
    exact ⟨_, fn_ret (sq_set s4 (seq_ret ((if_t (q0.trans (by rw [decide_eq_true b0]))).trans (ret_ok (el hc))))), rowW_len, bd_row fun k hk => by
      have : (draw c (50 + (k : Int)) % 15 - 7).natAbs ≤ 15 := by omega
      exact Nat.le_trans this (by decide)⟩
  · have hc := cmp_rng (n := many) (it := iR1 (eV 2)) (vs := [7]) (g := gN 7) (t := qY) (f := e2 opSub (e2 opMod (eC m_law_drawn (aC (eV 4) (aC (eV 7) aN))) (eK (.int 6))) (e2 opMul (eK (.int 2)) (eC bInt (aC (e2 opLt (eB 7) (eB 3)) aN)))) (e := [.sh (scri ns), .sh (.list (ls.map intL)), .sh (.int (many : Int)), .sh (.int (free : Int)), .sh (.int c), .no, .no, .no, .no, .no, .no])
      (fun k => draw c (k : Int) % 6 - 2 * (if (k : Int) < (free : Int) then 1 else 0)) (ir1n rfl (by omega)) (by omega) fun k hk => ⟨_, rfl, rfl, by
        refine op2 (op2 (cl2 rfl rfl (m_drawn _ _)) rfl (mod_ok (by decide))) (op2 rfl (cl1 (op2 rfl rfl rfl) rfl) (mul_l (by decide) (by decide))) ?_
        by_cases q : (k : Int) < (free : Int)
        · rw [decide_eq_true q, if_pos q]; rfl
        · rw [decide_eq_false q, if_neg q]; rfl⟩
    have hS : ∀ k : Nat, (draw c (k : Int) % 6 - 2 * (if (k : Int) < (free : Int) then 1 else 0)).natAbs ≤ 7 := fun k => by
      by_cases q : (k : Int) < (free : Int)
      · rw [if_pos q]; omega
      · rw [if_neg q]; omega
    generalize hSd : (fun k : Nat => draw c (k : Int) % 6 - 2 * (if (k : Int) < (free : Int) then 1 else 0)) = S at hc
    have hS : ∀ k : Nat, (S k).natAbs ≤ 7 := fun k => by rw [← hSd]; exact hS k
    let Z : Nat → Int := fun i => sumN many fun j => (ls.getD i []).getD j 0 * S j
    have hZ : ∀ i, i < L → (Z i).natAbs ≤ 25 * (10 ^ 12 * 7) := fun i hi => by
      obtain ⟨p1, p2⟩ := hp _ (getD_in (d := []) (l := ls) (k := i) (by omega))
      have := sumN_bd (B := 10 ^ 12 * 7) (n := many) (f := fun j => (ls.getD i []).getD j 0 * S j) fun j hj => by
        rw [Int.natAbs_mul]
        exact Nat.mul_le_mul (p2 _ (getD_in (d := 0) (k := j) (by omega))) (hS j)
      exact Nat.le_trans this (Nat.mul_le_mul_right _ hm)
    obtain ⟨e', f1, v7, v9, f2⟩ := fLoop_inv (g := gN 9) (b := (sApp 8 (eC bSum (aC (eL (cmp (iR1 (eV 2)) [7] (gN 7) qY (e2 opMul (e2 opIx (eB 9) (eV 7)) (e2 opIx (eB 6) (eV 7))))) aN))))
      (fun i e => ∃ v7 v9, e = [.sh (scri ns), .sh (.list (ls.map intL)), .sh (.int (many : Int)), .sh (.int (free : Int)), .sh (.int c), .no, .sh (intL (rowW many S)), v7, .ow ((rowW i Z).map .int), v9, .no])
      (xs := ls.map intL) (e := [.sh (scri ns), .sh (.list (ls.map intL)), .sh (.int (many : Int)), .sh (.int (free : Int)), .sh (.int c), .no, .sh (intL (rowW many S)), .no, .ow [], .no, .no]) ⟨_, _, rfl⟩ fun i hi e ⟨v7, v9, h2⟩ => by
        subst h2
        have hi' : i < ls.length := by rw [List.length_map] at hi; exact hi
        rw [List.getElem_map]
        have ei : ls[i] = ls.getD i [] := by rw [List.getD_eq_getElem?_getD, List.getElem?_eq_getElem hi']; rfl
        rw [ei]
        obtain ⟨p1, p2⟩ := hp _ (getD_in (d := []) (l := ls) (k := i) hi')
        have hcc := cmp_rng (n := many) (it := iR1 (eV 2)) (vs := [7]) (g := gN 7) (t := qY) (f := e2 opMul (e2 opIx (eB 9) (eV 7)) (e2 opIx (eB 6) (eV 7))) (e := [.sh (scri ns), .sh (.list (ls.map intL)), .sh (.int (many : Int)), .sh (.int (free : Int)), .sh (.int c), .no, .sh (intL (rowW many S)), v7, .ow ((rowW i Z).map .int), .sh (intL (ls.getD i [])), .no])
          (fun j => (ls.getD i []).getD j 0 * S j) (ir1n rfl (by omega)) (by omega) fun j hj => ⟨_, rfl, rfl, op2 (op2 rfl rfl (ix_get (by omega))) (op2 rfl rfl (rowW_ix hj)) (mul_r (by have := hS j; omega) (by have := hS j; omega))⟩
        refine ⟨_, _, rfl, app_ok (d := .int (Z i)) rfl (cl1 (el hcc) ((sum_ints _).trans ?_)) (by rw [List.length_map, rowW_len]; omega), v7, .sh (intL (ls.getD i [])), ?_⟩
        · show R.ok (PyData.int (rowW many fun j => (ls.getD i []).getD j 0 * S j).sum) = R.ok (.int (sumN many fun j => (ls.getD i []).getD j 0 * S j))
          rw [sumN_list]; rfl
        · rw [rowW_app i 1, List.map_append]; rfl
    rw [List.length_map, hl] at f2
    have q1 : ∀ (v7 v9 : SV), qV (e2 opEq (e2 opMod (eB 4) (eK (.int 3))) (eK (.int 1))) [.sh (scri ns), .sh (.list (ls.map intL)), .sh (.int (many : Int)), .sh (.int (free : Int)), .sh (.int c), .no, .sh (intL (rowW many S)), v7, .ow ((rowW L Z).map .int), v9, .no] = .ok (decide (c % 3 = 1)) := fun _ _ => qv (op2 (op2 rfl rfl (mod_ok (by decide))) rfl (eq_int _ _))
    have pre : ∀ {rest : SF} {o : Out}, rest [.sh (scri ns), .sh (.list (ls.map intL)), .sh (.int (many : Int)), .sh (.int (free : Int)), .sh (.int c), .no, .sh (intL (rowW many S)), v7, .ow ((rowW L Z).map .int), v9, .no] = o → sSeq (sSet (gN 4) (eC m_law_cell_at (aC (eV 0) (aC (eK (.int 2)) aN)))) (sSeq (sIf (qV (e2 opEq (e2 opMod (eB 4) (eK (.int 3))) (eK (.int 0)))) (sRet (eL (cmp (iR1 (eC bLen (aC (eB 1) aN))) [5] (gN 5) qY (e2 opSub (e2 opMod (eC m_law_drawn (aC (eV 4) (aC (e2 opAdd (eK (.int 50)) (eB 5)) aN))) (eK (.int 15))) (eK (.int 7)))))) sNil)
  (sSeq (sSet (gN 6) (eL (cmp (iR1 (eV 2)) [7] (gN 7) qY (e2 opSub (e2 opMod (eC m_law_drawn (aC (eV 4) (aC (eV 7) aN))) (eK (.int 6))) (e2 opMul (eK (.int 2)) (eC bInt (aC (e2 opLt (eB 7) (eB 3)) aN)))))))
  (sSeq (sOwn 8 aN)
  (sSeq (sFor (iL (eV 1)) (gN 9) (sApp 8 (eC bSum (aC (eL (cmp (iR1 (eV 2)) [7] (gN 7) qY (e2 opMul (e2 opIx (eB 9) (eV 7)) (e2 opIx (eB 6) (eV 7))))) aN)))) rest)))) [.sh (scri ns), .sh (.list (ls.map intL)), .sh (.int (many : Int)), .sh (.int (free : Int)), .no, .no, .no, .no, .no, .no, .no] = o := fun ho => by
      refine sq_set s4 ((seq_next ((if_f (q0.trans (by rw [decide_eq_false b0]))).trans rfl)).trans (sq_set (el hc) (op_own an ((seq_next (for_ok (il rfl) f1)).trans ?_))))
      rw [f2]; exact ho
    by_cases b1 : c % 3 = 1
    · have hn : 0 < (L : Int) := by omega
      have k0 : 0 ≤ c / 3 % (L : Int) := Int.emod_nonneg _ (by omega)
      have k9 : c / 3 % (L : Int) < L := Int.emod_lt_of_pos _ hn
      obtain ⟨k, hk⟩ : ∃ k : Nat, c / 3 % (L : Int) = (k : Int) := ⟨(c / 3 % (L : Int)).toNat, by omega⟩
      have hat : e2 opMod (e2 opDiv (eB 4) (eK (.int 3))) (eC bLen (aC (eB 1) aN)) [.sh (scri ns), .sh (.list (ls.map intL)), .sh (.int (many : Int)), .sh (.int (free : Int)), .sh (.int c), .no, .sh (intL (rowW many S)), v7, .ow ((rowW L Z).map .int), v9, .no] = .ok (.int (k : Int)) := by
        rw [← hk]
        exact op2 (op2 rfl rfl (div_ok (by decide) (by decide))) (hll _ _ _ _ _ _ _) (mod_ok hn)
      have hkL : k < L := by omega
      have hix : opIx (.list ((rowW L Z).map .int)) (.int (k : Int)) = .ok (.int (Z k)) := rowW_ix hkL
      refine ⟨(rowW L Z).set k (Z k + draw c 99 % 3 - 1), fn_ret (pre ((seq_next ((if_t ((q1 _ _).trans (by rw [decide_eq_true b1]))).trans (sq_set hat (put_ok (j := k) rfl (op2 (op2 (op2 rfl rfl hix) (op2 (cl2 rfl rfl (m_drawn _ _)) rfl (mod_ok (by decide))) rfl) rfl rfl) rfl (by rw [rowW_len]; exact hkL))))).trans rfl)), by rw [List.length_set, rowW_len], fun x hx => ?_⟩
      rcases List.mem_or_eq_of_mem_set hx with hx | rfl
      · exact Nat.le_trans (bd_row hZ x hx) (by decide)
      · have := hZ k hkL
        omega
    · exact ⟨rowW L Z, fn_ret (pre ((seq_next ((if_f ((q1 _ _).trans (by rw [decide_eq_false b1]))).trans rfl)).trans rfl)), rowW_len, fun x hx => Nat.le_trans (bd_row hZ x hx) (by decide)⟩
end PL

namespace PL
open PySem
theorem ownC_ok {i : Nat} {m : List D → R D} {fs : LF} {g : OTR} {e : Env} {ds : List D} {d : D} {o : Out} (h1 : fs e = .ok ds) (h2 : m ds = .ok d) (hi : i < e.length) (hd : deepB d = true) (hg : g d (e.set i .no) = o) : sOwnC i m fs g e = o := by
  unfold sOwnC
  rw [h1]
  show (m ds).out _ = o
  rw [h2]
  show (if i < e.length ∧ deepB d = true then _ else _) = o
  rw [if_pos ⟨hi, hd⟩]; exact hg
theorem sc_ints (p : List Int) : (p.map PyData.int).all isSc = true := by
  rw [List.all_eq_true]; intro x hx; obtain ⟨y, _, rfl⟩ := List.mem_map.mp hx; rfl
theorem deep_r {r : SolR} {many L : Nat} : deepB (r.d many L) = true := by
  cases r with
  | ans x d => show ((rowW many x).map PyData.int).all isSc && ([PyData.int d] : List D).all isSc = true; rw [sc_ints]; rfl
  | wts w => show ((rowW L w).map PyData.int).all isSc && ([] : List D).all isSc = true; rw [sc_ints]; rfl
theorem oapp_ok {i : Nat} {j : Int} {f : EF} {e : Env} {d x : D} {m : Nat} {ys : List D} (h1 : inL d j = some (m, ys)) (h2 : f (e.set i (.sh d)) = .ok x) (h3 : isSc x = true) (h4 : ys.length < szL) : oApp i j f d e = .next e (putL d m (ys ++ [x])) := by
  unfold oApp
  rw [h1]
  dsimp only
  rw [h2]
  dsimp only
  rw [if_pos ⟨h3, h4⟩]
theorem ocons_next {f : OTF} {g : OTR} {e : Env} {d d' : D} {e' : Env} {o : Out} (h : f d e = .next e' d') (h2 : g d' e' = o) : oCons f g d e = o := by unfold oCons; rw [h]; exact h2
theorem oif_f {i : Nat} {t : TF} {f : OTF} {e : Env} {d : D} (h : t (e.set i (.sh d)) = .ok false) : oIf i t f d e = .next e d := by unfold oIf; rw [h]
theorem in_r {r : SolR} {many L : Nat} (hm : many ≤ 60) (hL : L ≤ 40) : ∃ ys, inL (r.d many L) 1 = some (1, ys) ∧ ys.length < szL := by
  cases r with
  | ans x d =>
    refine ⟨(rowW many x).map .int, ?_, by rw [List.length_map, rowW_len]; unfold szL; omega⟩
    have e : inL ((SolR.ans x d).d many L) 1 = (if ((rowW many x).map PyData.int).all isSc = true then some (1, (rowW many x).map PyData.int) else none) := rfl
    rw [e, if_pos (sc_ints _)]
  | wts w =>
    refine ⟨(rowW L w).map .int, ?_, by rw [List.length_map, rowW_len]; unfold szL; omega⟩
    have e : inL ((SolR.wts w).d many L) 1 = (if ((rowW L w).map PyData.int).all isSc = true then some (1, (rowW L w).map PyData.int) else none) := rfl
    rw [e, if_pos (sc_ints _)]
set_option maxHeartbeats 1000000 in
theorem law_true : ∀ ns : List Int, ns.length ≤ 63 → (∀ z ∈ ns, Builtin.Int.intBits z ≤ 1048576) → m_law [scr (ns.map .int)] = .ok (.bool true) := by
  intro ns _ _
  let c := cell ns 0
  have hc0 : ∀ (v1 v2 v3 : SV), eC m_law_cell_at (aC (eV 0) (aC (eK (.int 0)) aN)) [.sh (scri ns), v1, v2, v3, .no, .no, .no, .no, .no] = .ok (.int c) := fun _ _ _ => cl2 rfl rfl (m_cell (by decide))
  have hc3 : ∀ (v1 v2 v3 : SV), eC m_law_cell_at (aC (eV 0) (aC (eK (.int 3)) aN)) [.sh (scri ns), v1, v2, v3, .no, .no, .no, .no, .no] = .ok (.int (cell ns 3)) := fun _ _ _ => cl2 rfl rfl (m_cell (by decide))
  have hc4 : ∀ (v1 v2 v3 : SV), eC m_law_cell_at (aC (eV 0) (aC (eK (.int 4)) aN)) [.sh (scri ns), v1, v2, v3, .no, .no, .no, .no, .no] = .ok (.int (cell ns 4)) := fun _ _ _ => cl2 rfl rfl (m_cell (by decide))
  generalize c = c at hc0
  -- the sizes
  obtain ⟨n, many, hsz, n1, n2, m1, m2⟩ : ∃ n many : Nat, (∀ {rest : SF} {o : Out}, rest [.sh (scri ns), .sh (.int (n : Int)), .sh (.int (many : Int)), .no, .no, .no, .no, .no, .no] = o → (sSeq (sSet (gN 1) (e2 opAdd (eK (.int 1)) (e2 opMod (eC m_law_cell_at (aC (eV 0) (aC (eK (.int 0)) aN))) (eK (.int 4)))))
  (sSeq (sSet (gN 2) (e2 opAdd (eK (.int 1)) (e2 opMod (e2 opDiv (eC m_law_cell_at (aC (eV 0) (aC (eK (.int 0)) aN))) (eK (.int 4))) (eK (.int 5)))))
  (sSeq (sIf (qV (e2 opEq (e2 opMod (e2 opDiv (eC m_law_cell_at (aC (eV 0) (aC (eK (.int 0)) aN))) (eK (.int 20))) (eK (.int 8))) (eK (.int 1)))) (sSeq (sSet (gN 1) (e2 opAdd (eB 1) (eK (.int 3))))
  (sSet (gN 2) (e2 opAdd (eB 2) (eK (.int 4))))) (sIf (qV (e2 opEq (e2 opMod (e2 opDiv (eC m_law_cell_at (aC (eV 0) (aC (eK (.int 0)) aN))) (eK (.int 20))) (eK (.int 16))) (eK (.int 2)))) (sSeq (sSet (gN 1) (e2 opAdd (eK (.int 8)) (e2 opMul (eK (.int 3)) (eB 1))))
  (sSet (gN 2) (e2 opAdd (eK (.int 10)) (e2 opMul (eK (.int 3)) (eB 2))))) sNil)) rest))) [.sh (scri ns), .no, .no, .no, .no, .no, .no, .no, .no] = o) ∧ 1 ≤ n ∧ n ≤ 20 ∧ 1 ≤ many ∧ many ≤ 25 := by
    obtain ⟨a, ha, a1, a4⟩ : ∃ a : Nat, (1 : Int) + c % 4 = (a : Int) ∧ 1 ≤ a ∧ a ≤ 4 := ⟨(1 + c % 4).toNat, by omega, by omega, by omega⟩
    obtain ⟨b, hb, b1, b5⟩ : ∃ b : Nat, (1 : Int) + c / 4 % 5 = (b : Int) ∧ 1 ≤ b ∧ b ≤ 5 := ⟨(1 + c / 4 % 5).toNat, by omega, by omega, by omega⟩
    have s1 : e2 opAdd (eK (.int 1)) (e2 opMod (eC m_law_cell_at (aC (eV 0) (aC (eK (.int 0)) aN))) (eK (.int 4))) [.sh (scri ns), .no, .no, .no, .no, .no, .no, .no, .no] = .ok (.int (a : Int)) := by
      rw [← ha]; exact op2 rfl (op2 (hc0 _ _ _) rfl (mod_ok (by decide))) rfl
    have s2 : e2 opAdd (eK (.int 1)) (e2 opMod (e2 opDiv (eC m_law_cell_at (aC (eV 0) (aC (eK (.int 0)) aN))) (eK (.int 4))) (eK (.int 5))) [.sh (scri ns), .sh (.int (a : Int)), .no, .no, .no, .no, .no, .no, .no] = .ok (.int (b : Int)) := by
      rw [← hb]; exact op2 rfl (op2 (op2 (hc0 _ _ _) rfl (div_ok (by decide) (by decide))) rfl (mod_ok (by decide))) rfl
    have q1 : qV (e2 opEq (e2 opMod (e2 opDiv (eC m_law_cell_at (aC (eV 0) (aC (eK (.int 0)) aN))) (eK (.int 20))) (eK (.int 8))) (eK (.int 1))) [.sh (scri ns), .sh (.int (a : Int)), .sh (.int (b : Int)), .no, .no, .no, .no, .no, .no] = .ok (decide (c / 20 % 8 = 1)) := qv (op2 (op2 (op2 (hc0 _ _ _) rfl (div_ok (by decide) (by decide))) rfl (mod_ok (by decide))) rfl (eq_int _ _))
    have q2 : qV (e2 opEq (e2 opMod (e2 opDiv (eC m_law_cell_at (aC (eV 0) (aC (eK (.int 0)) aN))) (eK (.int 20))) (eK (.int 16))) (eK (.int 2))) [.sh (scri ns), .sh (.int (a : Int)), .sh (.int (b : Int)), .no, .no, .no, .no, .no, .no] = .ok (decide (c / 20 % 16 = 2)) := qv (op2 (op2 (op2 (hc0 _ _ _) rfl (div_ok (by decide) (by decide))) rfl (mod_ok (by decide))) rfl (eq_int _ _))
    by_cases p1 : c / 20 % 8 = 1
    · exact ⟨a + 3, b + 4, fun ho => sq_set s1 (sq_set s2 ((seq_next ((if_t (q1.trans (by rw [decide_eq_true p1]))).trans (sq_set (d := .int ((a + 3 : Nat) : Int)) (op2 rfl rfl (by rw [Int.natCast_add]; rfl)) (set_ok (d := .int ((b + 4 : Nat) : Int)) (op2 rfl rfl (by rw [Int.natCast_add]; rfl)))))).trans ho)), by omega, by omega, by omega, by omega⟩
    · by_cases p2 : c / 20 % 16 = 2
      · exact ⟨8 + 3 * a, 10 + 3 * b, fun ho => sq_set s1 (sq_set s2 ((seq_next ((if_f (q1.trans (by rw [decide_eq_false p1]))).trans ((if_t (q2.trans (by rw [decide_eq_true p2]))).trans (sq_set (d := .int ((8 + 3 * a : Nat) : Int)) (op2 rfl (op2 rfl rfl (mul_l (by decide) (by decide))) (by rw [Int.natCast_add, Int.natCast_mul]; rfl)) (set_ok (d := .int ((10 + 3 * b : Nat) : Int)) (op2 rfl (op2 rfl rfl (mul_l (by decide) (by decide))) (by rw [Int.natCast_add, Int.natCast_mul]; rfl))))))).trans ho)), by omega, by omega, by omega, by omega⟩
      · exact ⟨a, b, fun ho => sq_set s1 (sq_set s2 ((seq_next ((if_f (q1.trans (by rw [decide_eq_false p1]))).trans ((if_f (q2.trans (by rw [decide_eq_false p2]))).trans rfl))).trans ho)), by omega, by omega, by omega, by omega⟩
  -- how many are free
  obtain ⟨free, hfree, hf⟩ : ∃ free : Nat, e2 opDiv (e2 opMod (eC m_law_cell_at (aC (eV 0) (aC (eK (.int 3)) aN))) (e2 opAdd (eB 2) (eK (.int 1)))) (e2 opIx (eL (aC (eK (.int 1)) (aC (eK (.int 2)) aN))) (e2 opMod (eC m_law_cell_at (aC (eV 0) (aC (eK (.int 4)) aN))) (eK (.int 2)))) [.sh (scri ns), .sh (.int (n : Int)), .sh (.int (many : Int)), .no, .no, .no, .no, .no, .no] = .ok (.int (free : Int)) ∧ free ≤ many := by
    have k0 : 0 ≤ cell ns 3 % ((many : Int) + 1) := Int.emod_nonneg _ (by omega)
    have k9 : cell ns 3 % ((many : Int) + 1) < (many : Int) + 1 := Int.emod_lt_of_pos _ (by omega)
    have hmod : e2 opMod (eC m_law_cell_at (aC (eV 0) (aC (eK (.int 3)) aN))) (e2 opAdd (eB 2) (eK (.int 1))) [.sh (scri ns), .sh (.int (n : Int)), .sh (.int (many : Int)), .no, .no, .no, .no, .no, .no] = .ok (.int (cell ns 3 % ((many : Int) + 1))) := op2 (hc3 _ _ _) (op2 rfl rfl rfl) (mod_ok (by omega))
    generalize cell ns 3 % ((many : Int) + 1) = t at *
    have h2 : cell ns 4 % 2 = 0 ∨ cell ns 4 % 2 = 1 := by omega
    have hm2 : e2 opMod (eC m_law_cell_at (aC (eV 0) (aC (eK (.int 4)) aN))) (eK (.int 2)) [.sh (scri ns), .sh (.int (n : Int)), .sh (.int (many : Int)), .no, .no, .no, .no, .no, .no] = .ok (.int (cell ns 4 % 2)) := op2 (hc4 _ _ _) rfl (mod_ok (by decide))
    rcases h2 with h2 | h2
    · rw [h2] at hm2
      refine ⟨(t / 1).toNat, (op2 (y := .int 1) hmod (op2 (el (ac rfl (ac rfl an))) hm2 rfl) (div_ok (by decide) (by decide))).trans (congrArg (fun z => R.ok (PyData.int z)) (by omega)), by omega⟩
    · rw [h2] at hm2
      refine ⟨(t / 2).toNat, (op2 (y := .int 2) hmod (op2 (el (ac rfl (ac rfl an))) hm2 rfl) (div_ok (by decide) (by decide))).trans (congrArg (fun z => R.ok (PyData.int z)) (by omega)), by omega⟩
  obtain ⟨ls, hlines, ll, lp⟩ := m_lines (ns := ns) n2 m2
  obtain ⟨ws, hwant, wl, wb⟩ := m_wanted (ns := ns) (free := free) n1 n2 m2 ll lp
  have lin : Lin ls ws many free n := ⟨ll, n1, fun l hl => (lp l hl).1, wl, m1, hf⟩
  have lb : ∀ l ∈ ls, Bd (10 ^ 15) l := fun l hl x hx => Nat.le_trans ((lp l hl).2 x hx) (by decide)
  have lb30 : ∀ l ∈ ls, ∀ x ∈ l, x.natAbs ≤ 10 ^ 30 := fun l hl x hx => Nat.le_trans (lb l hl x hx) (by decide)
  have wb30 : ∀ x ∈ ws, x.natAbs ≤ 10 ^ 30 := fun x hx => Nat.le_trans (wb x hx) (by decide)
  obtain ⟨r, hr1, hr2⟩ := m_solved_ok lin (by omega) (by omega) lb30 wb30 (need_lin lin (by omega) (by omega))
  have hright := l_right lin (by omega) (by omega) lb wb hr2
  have cL : cpy 4 (.list (ls.map intL)) := cpy_list (by rw [List.length_map]; omega) fun x hx => by
    obtain ⟨l, hl, rfl⟩ := List.mem_map.mp hx
    exact cpy_ints (by rw [(lp l hl).1]; omega)
  have cH : cpy 5 (.list [.list (ls.map intL), intL ws]) := cpy_list (by simp) fun x hx => by
    simp only [List.mem_cons, List.not_mem_nil, or_false] at hx
    rcases hx with rfl | rfl
    · exact cL
    · exact cpy_ints (by omega)
  have kept := ne_refl cH (by decide) rfl
  have keq := eq_same cH (by decide) rfl
  obtain ⟨ys, hin, hys⟩ := in_r (r := r) (many := many) (L := n) (by omega) (by omega)
  refine fn_ret (hsz ?_)
  refine sq_set hfree (sq_set (cl3 rfl rfl rfl hlines) (sq_set (cl4' rfl rfl rfl rfl hwant) (sq_set (el (ac (cl1 rfl (m_copied (cpy_le cL (by decide)))) (ac (cl1 rfl rfl) an))) ?_)))
  refine ownC_ok (d := r.d many n) (ac (op2 (r := .ok (.list (ls.map intL))) rfl rfl rfl) (ac (op2 (r := .ok (intL ws)) rfl rfl rfl) (ac rfl an))) hr1 (by show 7 < 9; decide) deep_r ?_
  refine ocons_next (oif_f ((qor (qnot (qv (cl4' rfl rfl rfl rfl hright))) fun _ => qv (op2 rfl (el (ac rfl (ac rfl an))) kept)).trans rfl)) ?_
  refine ocons_next (oapp_ok hin rfl rfl hys) ?_
  refine (show sSeq _ _ _ = _ from sq_set (cl3 (op2 (r := .ok (.list (ls.map intL))) rfl rfl rfl) (op2 (r := .ok (intL ws)) rfl rfl rfl) rfl hr1) (ret_to (eand (cl4' rfl rfl rfl rfl hright) fun _ => op2 rfl (el (ac rfl (ac rfl an))) keq) rfl))
end PL

open PySem PySem.W PyProof.Rows
set_option maxHeartbeats 0 in
theorem PySem.Challenge.cw_loopgauge_k04_tables_answered_holds : PySem.Challenge.rw_loopgauge_k04_tables_answered.Holds := by
  w_on; o_law; k_head; (case hw => w_witness2)
  k_fill
  refine L2.walk_ofB (l := PySem.Challenge.rw_loopgauge_k04_tables_answered) (n := 63) (k := 14) (x := "_law_script") (CX := fun w => L2.CX PySem.Challenge.rw_loopgauge_k04_tables_answered.prog w) (sp := fun w => PL.spLaw _) rfl (by decide) rfl ⟨rfl, by decide, by decide⟩ (fun w h Y => PySem.W.kIn_of Y) ?F (fun _ _ a ns hl hb _ hS => ⟨a, ns, rfl, hS, hl, hb, fun _ => rfl⟩) (fun _ _ _ _ _ h => PL.cx_no h)
  case F =>
    intro w mg fa h KX G hmg
    refine' PL.all_mk KX G hmg ?a0 ?l0 ?c0 ?k0 ?a1 ?l1 ?c1 ?k1 ?a2 ?l2 ?c2 ?k2 ?a3 ?l3 ?c3 ?k3 ?a4 ?l4 ?c4 ?k4 ?a5 ?l5 ?c5 ?k5 ?a6 ?l6 ?c6 ?k6 ?a7 ?l7 ?c7 ?k7 ?a8 ?l8 ?c8 ?k8 ?a9 ?l9 ?c9 ?k9 ?a10 ?l10 ?c10 ?k10 ?a11 ?l11 ?c11 ?k11 ?a12 ?l12 ?c12 ?k12 ?a13 ?l13 ?c13 ?k13 ?a14 ?l14 ?c14 ?k14 ?a15 ?l15 ?c15 ?k15 ?a16 ?l16 ?c16 ?k16 ?a17 ?l17 ?c17 ?k17 ?a18 ?l18 ?c18 ?k18 ?z_all ?z_bool ?z_enumerate ?z_int ?z_isinstance ?z_len ?z_list ?z_min ?z_range ?z_str ?z_sum ?z_tuple ?z_zip ?q_MOST_LINES ?q_MOST_PLACES ?g_BadTable ?xi_BadTable ?kC_BadTable ?bC_BadTable ?tC_BadTable ?iC_BadTable ?vC_BadTable PL.law_true
    (case a0 => k_is)
    (case l0 => k_is)
    (case c0 => k_is)
    (case k0 => k_is)
    (case a1 => k_is)
    (case l1 => k_is)
    (case c1 => k_is)
    (case k1 => k_is)
    (case a2 => k_is)
    (case l2 => k_is)
    (case c2 => k_is)
    (case k2 => k_is)
    (case a3 => k_is)
    (case l3 => k_is)
    (case c3 => k_is)
    (case k3 => k_is)
    (case a4 => k_is)
    (case l4 => k_is)
    (case c4 => k_is)
    (case k4 => k_is)
    (case a5 => k_is)
    (case l5 => k_is)
    (case c5 => k_is)
    (case k5 => k_is)
    (case a6 => k_is)
    (case l6 => k_is)
    (case c6 => k_is)
    (case k6 => k_is)
    (case a7 => k_is)
    (case l7 => k_is)
    (case c7 => k_is)
    (case k7 => k_is)
    (case a8 => k_is)
    (case l8 => k_is)
    (case c8 => k_is)
    (case k8 => k_is)
    (case a9 => k_is)
    (case l9 => k_is)
    (case c9 => k_is)
    (case k9 => k_is)
    (case a10 => k_is)
    (case l10 => k_is)
    (case c10 => k_is)
    (case k10 => k_is)
    (case a11 => k_is)
    (case l11 => k_is)
    (case c11 => k_is)
    (case k11 => k_is)
    (case a12 => k_is)
    (case l12 => k_is)
    (case c12 => k_is)
    (case k12 => k_is)
    (case a13 => k_is)
    (case l13 => k_is)
    (case c13 => k_is)
    (case k13 => k_is)
    (case a14 => k_is)
    (case l14 => k_is)
    (case c14 => k_is)
    (case k14 => k_is)
    (case a15 => k_is)
    (case l15 => k_is)
    (case c15 => k_is)
    (case k15 => k_is)
    (case a16 => k_is)
    (case l16 => k_is)
    (case c16 => k_is)
    (case k16 => k_is)
    (case a17 => k_is)
    (case l17 => k_is)
    (case c17 => k_is)
    (case k17 => k_is)
    (case a18 => k_is)
    (case l18 => k_is)
    (case c18 => k_is)
    (case k18 => k_is)
    (case z_all => k_is)
    (case z_bool => k_is)
    (case z_enumerate => k_is)
    (case z_int => k_is)
    (case z_isinstance => k_is)
    (case z_len => k_is)
    (case z_list => k_is)
    (case z_min => k_is)
    (case z_range => k_is)
    (case z_str => k_is)
    (case z_sum => k_is)
    (case z_tuple => k_is)
    (case z_zip => k_is)
    (case q_MOST_LINES => k_is)
    (case q_MOST_PLACES => k_is)
    (case g_BadTable => k_is)
    (case xi_BadTable => k_exc)
    (case kC_BadTable => k_is)
    (case bC_BadTable => k_is)
    (case tC_BadTable => k_is)
    (case iC_BadTable => k_is)
    (case vC_BadTable => k_is)


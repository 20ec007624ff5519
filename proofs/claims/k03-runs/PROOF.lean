import PyProof.Rows.All
import Wide.All
import OpenK.AllK
import Wide.FinOn
import PySem.Challenge.RW_loopgauge_k03_runs
import PyProof.P3Statements
import HandS.ForMost
import HandS.ForExc
import HandS.Wide
import HandS.Conv
import HandS.Style
import HandS.IsInst
import HandS.ExcIs
import HandS.HotCalls
import HandS.TupAny
import HandS.ListEq
import HandS.DictEq
import HandS.DeepEq
import HandS.Text
import HandS.EndBits
set_option Elab.async false
set_option linter.all false
set_option maxRecDepth 100000
/-! What the program's defs compute, told over plain data: no machine in sight. -/
namespace PL
open PySem

abbrev D := PyData
/-- how a reckoning ends: a datum, a refusal by its class's name, or nothing that is told here -/
inductive R (A : Type) where
  | ok (a : A) | err (c : Str) | stk
namespace R
def bind {A B : Type} (r : R A) (f : A → R B) : R B := match r with | .ok a => f a | .err c => .err c | .stk => .stk
@[simp] theorem bind_ok {A B : Type} (a : A) (f : A → R B) : (R.ok a).bind f = f a := rfl
@[simp] theorem bind_err {A B : Type} (c : Str) (f : A → R B) : (R.err c : R A).bind f = .err c := rfl
@[simp] theorem bind_stk {A B : Type} (f : A → R B) : (R.stk : R A).bind f = .stk := rfl
/-- no refusal may come here -/
def calm {A : Type} : R A → R A | .err _ => .stk | r => r
@[simp] theorem calm_ok {A : Type} (a : A) : (R.ok a).calm = .ok a := rfl
@[simp] theorem calm_err {A : Type} (c : Str) : (R.err c : R A).calm = .stk := rfl
@[simp] theorem calm_stk {A : Type} : (R.stk : R A).calm = .stk := rfl
theorem calm_noerr {A : Type} {r : R A} {c : Str} : r.calm ≠ .err c := by cases r <;> simp
end R

/-- what a slot holds: nothing known, a datum, a list of this def's own -/
inductive SV where
  | no | sh (d : D) | ow (xs : List D)
abbrev Env := List SV
abbrev EF := Env → R D
abbrev LF := Env → R (List D)
abbrev TF := Env → R Bool
abbrev GF := D → Env → R Env
/-- a statement's end -/
inductive Out where
  | next (e : Env) | ret (d : D) | brk (e : Env) | cont (e : Env) | err (c : Str) | stk
abbrev SF := Env → Out
def R.out {A : Type} (r : R A) (f : A → Out) : Out := match r with | .ok a => f a | .err c => .err c | .stk => .stk
@[simp] theorem out_ok {A : Type} (a : A) (f : A → Out) : (R.ok a).out f = f a := rfl
@[simp] theorem out_err {A : Type} (c : Str) (f : A → Out) : (R.err c : R A).out f = .err c := rfl
@[simp] theorem out_stk {A : Type} (f : A → Out) : (R.stk : R A).out f = .stk := rfl

abbrev szL : Nat := 16777216
/-- the script that the law is handed: it is looked at alone -/
def scr (xs : List D) : D := .dict [(.none, .list xs)]
/-- an exception that an except suite holds, by its address -/
def adr (a : Nat) : D := .dict [(.bool true, .int (Int.ofNat a))]

/-! ### values -/
def asB : D → R Bool | .bool b => .ok b | _ => .stk
def asL : D → R (List D) | .list xs => .ok xs | _ => .stk
def asI : D → R Int | .int i => .ok i | _ => .stk
def asIs : List D → R (List Int)
  | [] => .ok []
  | .int i :: r => (asIs r).bind fun is => .ok (i :: is)
  | _ :: _ => .stk
def asBs : List D → R (List Bool)
  | [] => .ok []
  | .bool b :: r => (asBs r).bind fun bs => .ok (b :: bs)
  | _ :: _ => .stk
def asSs : List D → R (List Str)
  | [] => .ok []
  | .str b :: r => (asSs r).bind fun bs => .ok (b :: bs)
  | _ :: _ => .stk

mutual
/-- the same datum -/
def same : D → D → Bool
  | .none, .none => true
  | .bool a, .bool b => a == b
  | .int a, .int b => a == b
  | .str a, .str b => decide (a = b)
  | .list a, .list b => sameAll a b
  | .tuple a, .tuple b => sameAll a b
  | .dict [], .dict [] => true
  | _, _ => false
def sameAll : List D → List D → Bool
  | [], [] => true
  | a :: r, b :: q => same a b && sameAll r q
  | _, _ => false
end
mutual
/-- no dict within, no depth without end: == is told for it -/
def flatD : Nat → D → Bool
  | _, .none => true
  | _, .bool _ => true
  | _, .int _ => true
  | _, .str x => x.cps.all (· < 0x110000)
  | n, .list xs => match n with | 0 => false | k + 1 => flatAll k xs
  | n, .tuple xs => match n with | 0 => false | k + 1 => flatAll k xs
  | _, .dict _ => false
def flatAll : Nat → List D → Bool
  | _, [] => true
  | n, x :: r => flatD n x && flatAll n r
end
mutual
/-- of a depth of at most n, dicts empty -/
def lowD : Nat → D → Bool
  | _, .none => true
  | _, .bool _ => true
  | _, .int _ => true
  | _, .str _ => true
  | n, .list xs => match n with | 0 => false | k + 1 => lowAll k xs
  | n, .tuple xs => match n with | 0 => false | k + 1 => lowAll k xs
  | n, .dict kvs => match n with | 0 => false | _ + 1 => kvs.isEmpty
def lowAll : Nat → List D → Bool
  | _, [] => true
  | n, x :: r => lowD n x && lowAll n r
end
def isDic : D → Bool | .dict _ => true | _ => false
/-- a == b -/
def eqD (a b : D) : R Bool :=
  if same a b && lowD 20 a && !isDic a then .ok true else if flatD 20 a && flatD 20 b then .ok (PyData.eqv a b) else .stk

def mulB (a b : Int) : Bool := decide (-(2 ^ 64) < a ∧ a < 2 ^ 64) || decide (-(2 ^ 64) < b ∧ b < 2 ^ 64) || decide (a.natAbs.log2 + b.natAbs.log2 < 1000000)
def reps (xs : List D) (k : Int) : List D := (List.replicate k.toNat xs).flatten

def opAdd : D → D → R D
  | .int a, .int b => .ok (.int (a + b))
  | .list xs, .list ys => if xs.length + ys.length ≤ szL then .ok (.list (xs ++ ys)) else .stk
  | .tuple xs, .tuple ys => if xs.length + ys.length ≤ szL then .ok (.tuple (xs ++ ys)) else .stk
  | .str a, .str b => if a.length + b.length ≤ szL then .ok (.str (a ++ b)) else .stk
  | _, _ => .stk
def opSub : D → D → R D
  | .int a, .int b => .ok (.int (a - b))
  | _, _ => .stk
def opMul : D → D → R D
  | .int a, .int b => if mulB a b then .ok (.int (a * b)) else .stk
  | .list xs, .int k => if -(2 ^ 62) ≤ k ∧ k < 2 ^ 62 ∧ xs.length * k.toNat ≤ szL then .ok (.list (reps xs k)) else .stk
  | .str x, .int k => if k = 0 then .ok (.str Str.empty) else if k = 1 then .ok (.str x) else .stk
  | _, _ => .stk
def opDiv : D → D → R D
  | .int a, .int b => if 0 < b ∧ b.natAbs.log2 < 9000 then .ok (.int (a / b)) else .stk
  | _, _ => .stk
def opMod : D → D → R D
  | .int a, .int b => if 0 < b then .ok (.int (a % b)) else .stk
  | _, _ => .stk
def opPow : D → D → R D
  | .int a, .int b => if 0 ≤ b ∧ b ≤ 1000 ∧ a.natAbs < 2 ^ 64 then .ok (.int (a ^ b.toNat)) else .stk
  | _, _ => .stk
def opNeg : D → R D
  | .int a => .ok (.int (-a))
  | _ => .stk
def opLt : D → D → R D
  | .int a, .int b => .ok (.bool (decide (a < b)))
  | _, _ => .stk
def opLe : D → D → R D
  | .int a, .int b => .ok (.bool (decide (a ≤ b)))
  | _, _ => .stk
def opGt : D → D → R D
  | .int a, .int b => .ok (.bool (decide (b < a)))
  | _, _ => .stk
def opGe : D → D → R D
  | .int a, .int b => .ok (.bool (decide (b ≤ a)))
  | _, _ => .stk
def opEq (a b : D) : R D := (eqD a b).bind fun r => .ok (.bool r)
def opNe (a b : D) : R D := (eqD a b).bind fun r => .ok (.bool (!r))
def isNone : D → Bool | .none => true | _ => false
/-- a is None -/
def opIsN : D → R D := fun a => .ok (.bool (isNone a))
def opNotN : D → R D := fun a => .ok (.bool (!isNone a))
/-- a is b, of truths -/
def opIsB : D → D → R D
  | .bool a, .bool b => .ok (.bool (decide (a = b)))
  | _, _ => .stk
def opNotB : D → D → R D
  | .bool a, .bool b => .ok (.bool (!decide (a = b)))
  | _, _ => .stk

/-- a is None, a is b of truths -/
def opIs : D → D → R D := fun a b => match b with
  | .none => opIsN a
  | .bool k => (match a with | .bool j => .ok (.bool (decide (j = k))) | _ => .stk)
  | _ => .stk
def opIsNot : D → D → R D := fun a b => match b with
  | .none => opNotN a
  | .bool k => (match a with | .bool j => .ok (.bool (!decide (j = k))) | _ => .stk)
  | _ => .stk
/-- xs[i] -/
def ixN (n : Nat) (i : Int) : Option Nat := if 0 ≤ i then (if i < n then some i.toNat else none) else if -(n : Int) ≤ i then some (i + n).toNat else none
def atI {A : Type} (xs : List A) (i : Int) : Option A := (ixN xs.length i).bind fun j => xs[j]?
def toR {A : Type} : Option A → R A | some a => .ok a | none => .stk
def opIx : D → D → R D
  | .list xs, .int i => toR (atI xs i)
  | .tuple xs, .int i => toR (atI xs i)
  | .str z, .int i => if z.length ≤ szL then (toR (atI z.cps.toList i)).bind fun c => .ok (.str ⟨#[c]⟩) else .stk
  | .dict [(.none, .list xs)], .int i => toR (atI xs i)
  | _, _ => .stk
/-- xs[lo:hi] -/
def sIx (n d : Nat) : Option Int → Nat
  | none => d
  | some v => if v < 0 then (v + n).toNat else min v.toNat n
def cut {A : Type} (xs : List A) (lo hi : Option Int) : List A := (xs.drop (sIx xs.length 0 lo)).take (sIx xs.length xs.length hi - sIx xs.length 0 lo)
def opSl (a : D) (lo hi : Option Int) : R D := match a with
  | .list xs => .ok (.list (cut xs lo hi))
  | .tuple xs => .ok (.tuple (cut xs lo hi))
  | .str z => if z.length ≤ szL then .ok (.str ⟨(cut z.cps.toList lo hi).toArray⟩) else .stk
  | .dict [(.none, .list xs)] => .ok (.list (cut xs lo hi))
  | _ => .stk
/-- xs[::-1] -/
def opRev : D → R D
  | .list xs => .ok (.list xs.reverse)
  | _ => .stk

/-! ### expressions -/
def eV (i : Nat) : EF := fun e => match e[i]? with | some (.sh d) => .ok d | _ => .stk
/-- a name that is only looked at -/
def eB (i : Nat) : EF := fun e => match e[i]? with | some (.sh d) => .ok d | some (.ow xs) => .ok (.list xs) | _ => .stk
def eK (d : D) : EF := fun _ => .ok d
def e1 (op : D → R D) (f : EF) : EF := fun e => (f e).bind op
def e2 (op : D → D → R D) (f g : EF) : EF := fun e => (f e).bind fun a => (g e).bind fun b => op a b
def aN : LF := fun _ => .ok []
def aC (f : EF) (a : LF) : LF := fun e => (f e).bind fun d => (a e).bind fun ds => .ok (d :: ds)
def eL (a : LF) : EF := fun e => (a e).bind fun xs => .ok (.list xs)
def eT (a : LF) : EF := fun e => (a e).bind fun xs => .ok (.tuple xs)
/-- a call, of a def or a built-in -/
def eC (m : List D → R D) (a : LF) : EF := fun e => (a e).bind m
/-- a call that may look at lists of our own: what comes back holds none -/
def isSc : D → Bool | .list _ => false | .tuple _ => false | .dict _ => false | _ => true
def scal (r : R D) : R D := r.bind fun d => if isSc d then .ok d else .stk
def eCb (m : List D → R D) (a : LF) : EF := fun e => (a e).bind fun ds => scal (m ds)
def eSl (f : EF) (lo hi : Env → R (Option Int)) : EF := fun e => (f e).bind fun d => (lo e).bind fun l => (hi e).bind fun h => opSl d l h
def oN : Env → R (Option Int) := fun _ => .ok none
def oS (f : EF) : Env → R (Option Int) := fun e => (f e).bind fun d => (asI d).bind fun i => .ok (some i)
/-- a op b op' c -/
def eCh (op op' : D → D → R D) (f g h : EF) : EF := fun e => (f e).bind fun a => (g e).bind fun b => (op a b).bind fun r => (asB r).bind fun k => if k then (h e).bind fun c => op' b c else .ok (.bool false)
def eAnd (f g : EF) : EF := fun e => (f e).bind fun a => (asB a).bind fun b => if b then g e else .ok (.bool false)
def eOr (f g : EF) : EF := fun e => (f e).bind fun a => (asB a).bind fun b => if b then .ok (.bool true) else g e
def eNot (f : EF) : EF := fun e => (f e).bind fun a => (asB a).bind fun b => .ok (.bool !b)
def eIf (t : TF) (f g : EF) : EF := fun e => (t e).bind fun b => if b then f e else g e
def qV (f : EF) : TF := fun e => (f e).bind asB
def qAnd (t u : TF) : TF := fun e => (t e).bind fun b => if b then u e else .ok false
def qOr (t u : TF) : TF := fun e => (t e).bind fun b => if b then .ok true else u e
def qNot (t : TF) : TF := fun e => (t e).bind fun b => .ok !b
def qY : TF := fun _ => .ok true

/-! ### what is walked -/
def iL (f : EF) : LF := fun e => (f e).bind asL
def iT (f : EF) : LF := fun e => (f e).bind fun d => match d with | .tuple xs => .ok xs | _ => .stk
def iS (f : EF) : LF := fun e => (f e).bind fun d => match d with | .str z => .ok (z.cps.toList.map fun c => .str ⟨#[c]⟩) | _ => .stk
def rng (lo hi : Int) : List D := (List.range (hi - lo).toNat).map fun (k : Nat) => .int (lo + (k : Int))
def smI (i : Int) : Bool := decide (-(2 ^ 62) ≤ i ∧ i < 2 ^ 62)
def iR1 (f : EF) : LF := fun e => (f e).bind fun a => (asI a).bind fun n => if smI n then .ok (rng 0 n) else .stk
def iR2 (f g : EF) : LF := fun e => (f e).bind fun a => (g e).bind fun b => (asI a).bind fun m => (asI b).bind fun n => if smI m && smI n then .ok (rng m n) else .stk
def zipD : List D → List D → List D
  | a :: r, b :: q => .tuple [a, b] :: zipD r q
  | _, _ => []
def iZ (f g : EF) : LF := fun e => (f e).bind fun a => (g e).bind fun b => (asL a).bind fun xs => (asL b).bind fun ys => .ok (zipD xs ys)
def enD : Nat → List D → List D
  | _, [] => []
  | n, a :: r => .tuple [.int (n : Int), a] :: enD (n + 1) r
def iE (f : EF) : LF := fun e => (f e).bind fun a => (asL a).bind fun xs => .ok (enD 0 xs)

/-! ### stores -/
def gN (i : Nat) : GF := fun d e => .ok (e.set i (.sh d))
def gAll : List GF → List D → Env → R Env
  | [], [], e => .ok e
  | g :: gs, d :: ds, e => (g d e).bind fun e' => gAll gs ds e'
  | _, _, _ => .stk
def gT (gs : List GF) : GF := fun d e => match d with | .tuple ds => gAll gs ds e | _ => .stk

/-! ### comprehensions -/
def wip : List Nat → Env → Env
  | [], e => e
  | i :: r, e => (wip r e).set i .no
def cLoop (g : GF) (t : TF) (f : EF) (e : Env) : List D → R (List D)
  | [] => .ok []
  | x :: xs => ((g x e).calm).bind fun e1 => ((t e1).calm).bind fun b => if b then ((f e1).calm).bind fun d => (cLoop g t f e xs).bind fun ds => .ok (d :: ds) else cLoop g t f e xs
def cmp (it : LF) (vs : List Nat) (g : GF) (t : TF) (f : EF) : LF := fun e => (it e).bind fun xs => if xs.length ≤ szL then cLoop g t f (wip vs e) xs else .stk

/-! ### statements -/
def sNil : SF := fun e => .next e
def sSeq (a b : SF) : SF := fun e => match a e with | .next e' => b e' | r => r
def sSet (g : GF) (f : EF) : SF := fun e => (f e).out fun d => (g d e).out fun e' => .next e'
/-- what a def hands back that nobody else has: a list of our own, or what is no list -/
def svN : D → SV | .list xs => .ow xs | d => .sh d
def sSetN (i : Nat) (f : EF) : SF := fun e => (f e).out fun d => .next (e.set i (svN d))
/-- a list of our own comes to slot i -/
def sOwn (i : Nat) (f : LF) : SF := fun e => (f e).out fun xs => .next (e.set i (.ow xs))
/-- from here on the list at slot i is a datum -/
def frz (i : Nat) (e : Env) : Env := match e[i]? with | some (.ow xs) => e.set i (.sh (.list xs)) | _ => e
def sFrz (i : Nat) (s : SF) : SF := fun e => s (frz i e)
def sDo (f : EF) : SF := fun e => (f e).out fun _ => .next e
def sRet (f : EF) : SF := fun e => (f e).out .ret
def sRetN : SF := fun _ => .ret .none
def sIf (t : TF) (a b : SF) : SF := fun e => (t e).out fun k => if k then a e else b e
def sCont : SF := fun e => .cont e
def sBrk : SF := fun e => .brk e
def sRaise (c : Str) : SF := fun _ => .err c
def fLoop (g : GF) (b : SF) : List D → Env → Out
  | [], e => .next e
  | x :: xs, e => (g x e).out fun e1 => match b e1 with
    | .next e2 => fLoop g b xs e2
    | .cont e2 => fLoop g b xs e2
    | .brk e2 => .next e2
    | .ret d => .ret d
    | .err c => .err c
    | .stk => .stk
def sFor (it : LF) (g : GF) (b : SF) : SF := fun e => (it e).out fun xs => fLoop g b xs e
def wLoop (t : TF) (b : SF) : Nat → Env → Out
  | 0, _ => .stk
  | n + 1, e => (t e).out fun k => if k then (match b e with
    | .next e2 => wLoop t b n e2
    | .cont e2 => wLoop t b n e2
    | .brk e2 => .next e2
    | .ret d => .ret d
    | .err c => .err c
    | .stk => .stk) else .next e
def Out.isStk : Out → Bool | .stk => true | _ => false
open Classical in
noncomputable def sWhile (t : TF) (b : SF) : SF := fun e => if h : ∃ n, (wLoop t b n e).isStk = false then wLoop t b (Classical.choose h) e else .stk
/-- x.append(d), x.extend(ds), x[k] = d of our own list at slot i -/
def sApp (i : Nat) (f : EF) : SF := fun e => match e[i]? with
  | some (.ow xs) => (f e).out fun d => if xs.length < szL then .next (e.set i (.ow (xs ++ [d]))) else .stk
  | _ => .stk
def sExt (i : Nat) (f : EF) : SF := fun e => match e[i]? with
  | some (.ow xs) => (f e).out fun d => (asL d).out fun ys => if xs.length + ys.length ≤ szL then .next (e.set i (.ow (xs ++ ys))) else .stk
  | _ => .stk
def sPut (i : Nat) (k f : EF) : SF := fun e => match e[i]? with
  | some (.ow xs) => (f e).out fun d => (k e).out fun kd => (asI kd).out fun j => (toR (ixN xs.length j)).out fun n => .next (e.set i (.ow (xs.set n d)))
  | _ => .stk

/-- a def: so many slots, its body; its arguments come first -/
def fnR (n : Nat) (b : SF) : List D → R D := fun ds => match b (ds.map .sh ++ List.replicate (n - ds.length) .no) with
  | .next _ => .ok .none
  | .ret d => .ok d
  | .err c => .err c
  | _ => .stk

/-- try: body, except LoopError as error: return name_of(error) -/
def sTry (b : SF) (nm : Str → Option Str) : SF := fun e => match b e with
  | .err c => (match nm c with | some z => .ret (.str z) | none => .stk)
  | r => r
/-- isinstance of the exception at a -/
def isAdr (a : Nat) (b : Bool) : D → R D
  | .dict [(.bool true, .int n)] => if n = Int.ofNat a then .ok (.bool b) else .stk
  | _ => .stk

/-! ### built-ins -/
def bLen : List D → R D
  | [.list xs] => .ok (.int xs.length)
  | [.tuple xs] => .ok (.int xs.length)
  | [.str z] => if z.length ≤ szL then .ok (.int z.length) else .stk
  | [.dict [(.none, .list xs)]] => .ok (.int xs.length)
  | _ => .stk
inductive Ty where | int | bool | str | list | tuple
def isTy : Ty → D → Bool
  | .int, .int _ => true
  | .int, .bool _ => true
  | .bool, .bool _ => true
  | .str, .str _ => true
  | .list, .list _ => true
  | .tuple, .tuple _ => true
  | _, _ => false
def isScr : D → Bool | .dict (_ :: _) => true | _ => false
def bIsi (t : Ty) : List D → R D
  | [d] => if isScr d then .stk else .ok (.bool (isTy t d))
  | _ => .stk
def bInt : List D → R D
  | [.int i] => .ok (.int i)
  | [.bool b] => .ok (.int (if b then 1 else 0))
  | _ => .stk
def bAbs : List D → R D
  | [.int i] => .ok (.int (if i < 0 then -i else i))
  | _ => .stk
def bMax2 : List D → R D
  | [.int i, .int j] => .ok (.int (if j > i then j else i))
  | _ => .stk
def bMin2 : List D → R D
  | [.int i, .int j] => .ok (.int (if j < i then j else i))
  | _ => .stk
def maxL : List Int → Option Int
  | [] => none
  | x :: r => some (r.foldl (fun a b => if b > a then b else a) x)
def minL : List Int → Option Int
  | [] => none
  | x :: r => some (r.foldl (fun a b => if b < a then b else a) x)
def bMaxL : List D → R D
  | [.list xs] => (asIs xs).bind fun ns => (toR (maxL ns)).bind fun m => .ok (.int m)
  | _ => .stk
def bMinL : List D → R D
  | [.list xs] => (asIs xs).bind fun ns => (toR (minL ns)).bind fun m => .ok (.int m)
  | _ => .stk
def bSum : List D → R D
  | [.list xs] => (asIs xs).bind fun ns => .ok (.int ns.sum)
  | _ => .stk
def bAll : List D → R D
  | [.list xs] => (asBs xs).bind fun bs => .ok (.bool (bs.all id))
  | _ => .stk
def bList : List D → R D
  | [.list xs] => .ok (.list xs)
  | [.tuple xs] => .ok (.list xs)
  | _ => .stk
def bTup : List D → R D
  | [.list xs] => .ok (.tuple xs)
  | [.tuple xs] => .ok (.tuple xs)
  | _ => .stk
/-- str(n) -/
def bStr : List D → R D
  | [.int i] => if i.natAbs < 2 ^ 200 then .ok (.str (toString i)) else .stk
  | _ => .stk
/-- sep.join(texts) -/
def opJoin : D → D → R D
  | .str a, .list xs => (asSs xs).bind fun ys => if (ys.map (·.length)).sum + ys.length * a.length ≤ szL then .ok (.str (Str.join a ys)) else .stk
  | _, _ => .stk
def eJn (f g : EF) : EF := fun e => (f e).bind fun a => match a with
  | .str s => (g e).bind fun b => opJoin (.str s) b
  | _ => .stk
/-- a list of new lists -/
def cLoopT (g : GF) (l : LF) (e : Env) : List D → R (List (List D))
  | [] => .ok []
  | x :: xs => ((g x e).calm).bind fun e1 => ((l e1).calm).bind fun d => (cLoopT g l e xs).bind fun ds => .ok (d :: ds)
def cmpT (it : LF) (vs : List Nat) (g : GF) (l : LF) : Env → R (List (List D)) := fun e => (it e).bind fun xs => if xs.length ≤ szL then cLoopT g l (wip vs e) xs else .stk
def eTr (f : Env → R (List (List D))) : EF := fun e => (f e).bind fun xss => .ok (.list (xss.map .list))
/-- list(x), a new list -/
def lLst (f : EF) : LF := fun e => (f e).bind fun d => match d with | .list xs => .ok xs | _ => .stk
/-- a def that hands back such a list -/
def fnRT (n : Nat) (b : SF) : List D → R D := fun ds => match b (ds.map .sh ++ List.replicate (n - ds.length) .no) with
  | .ret d => .ok d
  | .err c => .err c
  | _ => .stk
/-- how a statement ends where slot i holds such a list -/
inductive OutT where
  | next (e : Env) (xss : List (List D)) | ret (d : D) | err (c : Str) | stk
abbrev STF := Nat → List (List D) → Env → OutT
abbrev STR := Nat → List (List D) → Env → Out
def tree (xss : List (List D)) : D := .list (xss.map .list)
def rCons (f : STF) (g : STR) : STR := fun p xss e => match f p xss e with | .next e' xss' => g p xss' e' | .ret d => .ret d | .err c => .err c | .stk => .stk
/-- from here on it is a datum -/
def rFrz (i : Nat) (g : SF) : STR := fun _ xss e => g (e.set i (.sh (tree xss)))
/-- any statement that leaves slot i alone -/
def tFrame (i : Nat) (f : SF) : STF := fun p xss e => match f e with
  | .next e' => (match e'[i]? with | some (.sh (.dict [(.bool true, .int n)])) => if n = Int.ofNat p then .next e' xss else .stk | _ => .stk)
  | .ret d => .ret d
  | .err c => .err c
  | _ => .stk
/-- if t: a, t sees the list as a datum -/
def tIf (i : Nat) (t : TF) (a : SF) : STF := fun _ xss e => match t (e.set i (.sh (tree xss))) with
  | .ok true => (match a e with | .ret d => .ret d | .err c => .err c | _ => .stk)
  | .ok false => .next e xss
  | .err c => .err c
  | .stk => .stk
/-- for x in the list: if t: a; x.append(f); nothing is known of slot j around -/
def tForL (j : Nat) (t : TF) (a : SF) (f : EF) (e : Env) : List (List D) → List (List D) → OutT
  | done, [] => .next e done
  | done, xs :: rest => match t (e.set j (.ow xs)) with
    | .ok true => (match a (e.set j (.ow xs)) with | .ret d => .ret d | .err c => .err c | _ => .stk)
    | .ok false => (match f (e.set j (.ow xs)) with
      | .ok d => if xs.length < szL then tForL j t a f e (done ++ [xs ++ [d]]) rest else .stk
      | .err c => .err c
      | .stk => .stk)
    | .err c => .err c
    | .stk => .stk
def tFor (j : Nat) (t : TF) (a : SF) (f : EF) : STF := fun _ xss e => match e[j]? with | some .no => tForL j t a f e [] xss | _ => .stk
def unL : List D → Option (List (List D))
  | [] => some []
  | .list xs :: r => if xs.all isSc then (unL r).map (xs :: ·) else none
  | _ => none
open Classical in
/-- slot i = such a list, then the rest -/
noncomputable def sTree (i : Nat) (m : List D → R D) (fs : LF) (g : STR) : SF := fun e => (fs e).out fun ds => (m ds).out fun d => match d with
  | .list ls => (match unL ls with
    | some xss => if h : i < e.length ∧ ∃ o, ∀ p, g p xss (e.set i (.sh (adr p))) = o then Classical.choose h.2 else .stk
    | none => .stk)
  | _ => .stk
/-- what isn't told -/
def sStk : SF := fun _ => .stk
/-- list(range(a, b)) -/
def bLR (f g : EF) : LF := fun e => (f e).bind fun a => (g e).bind fun b => (asI a).bind fun m => (asI b).bind fun n => if smI m && smI n && decide ((n - m).toNat ≤ szL) then .ok (rng m n) else .stk
/-- xs * n, a new list -/
def lMul (f g : EF) : LF := fun e => (e2 opMul f g e).bind asL
theorem isAdr_eV (a : Nat) (b : Bool) (x : SV) : e1 (isAdr a b) (eV 0) [.sh (adr a), x] = .ok (.bool b) := by
  show (if Int.ofNat a = Int.ofNat a then R.ok (PyData.bool b) else .stk) = _
  rw [if_pos rfl]
theorem str0 (s : Str) : opMul (.str s) (.int 0) = .ok (.str Str.empty) := rfl
theorem str1 (s : Str) : opMul (.str s) (.int 1) = .ok (.str s) := rfl
theorem add_str (s t : Str) (h : s.length + t.length ≤ szL) : opAdd (.str s) (.str t) = .ok (.str (s ++ t)) := if_pos h
theorem eB1 (x : SV) (d : D) : eB 1 [x, .sh d] = .ok d := rfl
theorem ix0 (a b : D) : opIx (.list [a, b]) (.int 0) = .ok a := rfl
end PL

namespace PL
open PySem PySem.Spec PyProof.Rows L2
abbrev St := L2.St

/-! ### data in the heap -/
mutual
/-- the value stands for the datum -/
inductive Rp (K : PySem.W.Frag) (H : Hp) : V → D → Prop
  | non : Rp K H .non .none
  | bl (b : Bool) : Rp K H (.bl b) (.bool b)
  | int (i : Int) : Rp K H (.int i) (.int i)
  | str (x : Str) : Rp K H (.str x) (.str x)
  | lst {a : Addr} {xs : List V} {ds : List D} : H a = some (.lst xs) → RpA K H xs ds → Rp K H (.ref a) (.list ds)
  | tup {a : Addr} {xs : List V} {ds : List D} : H a = some (.tup xs) → RpA K H xs ds → Rp K H (.ref a) (.tuple ds)
  | dic {a : Addr} : H a = some (.dK []) → Rp K H (.ref a) (.dict [])
  | scr {a : Addr} {xs : List V} {ds : List D} : SqL K H a xs → RpA K H xs ds → Rp K H (.ref a) (PL.scr ds)
  | adr (a : Addr) : Rp K H (.ref a) (PL.adr a)
inductive RpA (K : PySem.W.Frag) (H : Hp) : List V → List D → Prop
  | nil : RpA K H [] []
  | cons {v : V} {vs : List V} {d : D} {ds : List D} : Rp K H v d → RpA K H vs ds → RpA K H (v :: vs) (d :: ds)
end
section
variable {K : PySem.W.Frag} {H H' : Hp}
mutual
theorem Rp.mono (e : Same H H') : ∀ (d : D) (v : V), Rp K H v d → Rp K H' v d
  | .none, _, h => by cases h; exact .non
  | .bool _, _, h => by cases h; exact .bl _
  | .int _, _, h => by cases h; exact .int _
  | .str _, _, h => by cases h; exact .str _
  | .list ds, _, h => by cases h with | lst h1 h2 => exact .lst (e _ _ h1) (RpA.mono e ds _ h2)
  | .tuple ds, _, h => by cases h with | tup h1 h2 => exact .tup (e _ _ h1) (RpA.mono e ds _ h2)
  | .dict [], _, h => by cases h with | dic h1 => exact .dic (e _ _ h1)
  | .dict [(.none, .list ds)], _, h => by cases h with | scr h1 h2 => exact .scr (e.seq h1) (RpA.mono e ds _ h2)
  | .dict [(.bool true, .int n)], _, h => by cases h with | adr a => exact .adr a
theorem RpA.mono (e : Same H H') : ∀ (ds : List D) (vs : List V), RpA K H vs ds → RpA K H' vs ds
  | [], _, h => by cases h; exact .nil
  | d :: ds, _, h => by cases h with | cons h1 h2 => exact .cons (Rp.mono e d _ h1) (RpA.mono e ds _ h2)
end
theorem Rp.up {v : V} {d : D} (h : Rp K H v d) (e : Same H H') : Rp K H' v d := Rp.mono e d v h
theorem RpA.up {vs : List V} {ds : List D} (h : RpA K H vs ds) (e : Same H H') : RpA K H' vs ds := RpA.mono e ds vs h
theorem RpA.length {vs : List V} {ds : List D} (h : RpA K H vs ds) : vs.length = ds.length := by
  induction ds generalizing vs with
  | nil => cases h; rfl
  | cons d ds ih => cases h with | cons h1 h2 => simp [ih h2]
theorem RpA.append : ∀ {ds es : List D} {vs ws : List V}, RpA K H vs ds → RpA K H ws es → RpA K H (vs ++ ws) (ds ++ es)
  | [], _, _, _, h, g => by cases h; exact g
  | _ :: _, _, _, _, h, g => by cases h with | cons h1 h2 => exact .cons h1 (RpA.append h2 g)
theorem RpA.get : ∀ {ds : List D} {vs : List V} {i : Nat} {d : D}, RpA K H vs ds → ds[i]? = some d → ∃ v, vs[i]? = some v ∧ Rp K H v d
  | [], _, _, _, _, e => by simp at e
  | _ :: _, _, 0, _, h, e => by cases h with | cons h1 h2 => simp at e; subst e; exact ⟨_, rfl, h1⟩
  | _ :: _, _, i + 1, _, h, e => by cases h with | cons h1 h2 => exact RpA.get (i := i) h2 (by simpa using e)
theorem RpA.getV : ∀ {ds : List D} {vs : List V} {i : Nat} {v : V}, RpA K H vs ds → vs[i]? = some v → ∃ d, ds[i]? = some d ∧ Rp K H v d
  | [], _, _, _, h, e => by cases h; simp at e
  | _ :: _, _, 0, _, h, e => by cases h with | cons h1 h2 => simp at e; subst e; exact ⟨_, rfl, h1⟩
  | _ :: _, _, i + 1, _, h, e => by cases h with | cons h1 h2 => exact RpA.getV (i := i) h2 (by simpa using e)
theorem RpA.set : ∀ {ds : List D} {vs : List V} {i : Nat} {d : D} {v : V}, RpA K H vs ds → Rp K H v d → RpA K H (vs.set i v) (ds.set i d)
  | [], _, _, _, _, h, _ => by cases h; exact .nil
  | _ :: _, _, 0, _, _, h, g => by cases h with | cons h1 h2 => exact .cons g h2
  | _ :: _, _, i + 1, _, _, h, g => by cases h with | cons h1 h2 => exact .cons h1 (RpA.set h2 g)
theorem RpA.drop : ∀ {ds : List D} {vs : List V} (n : Nat), RpA K H vs ds → RpA K H (vs.drop n) (ds.drop n)
  | _, _, 0, h => h
  | [], _, _ + 1, h => by cases h; exact .nil
  | _ :: _, _, n + 1, h => by cases h with | cons h1 h2 => exact RpA.drop n h2
theorem RpA.take : ∀ {ds : List D} {vs : List V} (n : Nat), RpA K H vs ds → RpA K H (vs.take n) (ds.take n)
  | _, _, 0, _ => .nil
  | [], _, _ + 1, h => by cases h; exact .nil
  | _ :: _, _, n + 1, h => by cases h with | cons h1 h2 => exact .cons h1 (RpA.take n h2)
theorem RpA.reverse : ∀ {ds : List D} {vs : List V}, RpA K H vs ds → RpA K H vs.reverse ds.reverse
  | [], _, h => by cases h; exact .nil
  | _ :: _, _, h => by cases h with | cons h1 h2 => rw [List.reverse_cons, List.reverse_cons]; exact (RpA.reverse h2).append (.cons h1 .nil)
theorem RpA.reps {ds : List D} {vs : List V} (h : RpA K H vs ds) : ∀ k : Nat, RpA K H (List.replicate k vs).flatten (List.replicate k ds).flatten
  | 0 => .nil
  | k + 1 => by rw [List.replicate_succ, List.flatten_cons, List.replicate_succ, List.flatten_cons]; exact h.append (RpA.reps h k)
theorem Rp.scal {v : V} {d : D} (h : Rp K H v d) (s : isSc d = true) (H' : Hp) : Rp K H' v d := by
  cases h with
  | non => exact .non
  | bl b => exact .bl b
  | int i => exact .int i
  | str x => exact .str x
  | lst _ _ => exact absurd (show false = true from s) Bool.false_ne_true
  | tup _ _ => exact absurd (show false = true from s) Bool.false_ne_true
  | dic _ => exact absurd (show false = true from s) Bool.false_ne_true
  | scr _ _ => exact absurd (show false = true from s) Bool.false_ne_true
  | adr _ => exact absurd (show false = true from s) Bool.false_ne_true
end

/-! ### how heaps grow: H the whole, Hs the part that stays for good -/
structure Grow (H Hs H' Hs' : Hp) : Prop where
  all : Same H H'
  sh : Same Hs Hs'
  sub : Same Hs' H'
  own : ∀ p o, H p = some o → Hs p = none → Hs' p = none
section
variable {H Hs H1 Hs1 H2 Hs2 : Hp} {p : Addr} {o : HO}
theorem Grow.refl (s : Same Hs H) : Grow H Hs H Hs := ⟨Same.refl _, Same.refl _, s, fun _ _ _ n => n⟩
theorem Grow.trans (a : Grow H Hs H1 Hs1) (b : Grow H1 Hs1 H2 Hs2) : Grow H Hs H2 Hs2 :=
  ⟨a.all.trans b.all, a.sh.trans b.sh, b.sub, fun p o h n => b.own p o (a.all p o h) (a.own p o h n)⟩
theorem same_upd (n : H p = none) : Same H (upd H p o) := fun b x e => by rw [upd_ne (ne_of_none e n)]; exact e
theorem free_sub (s : Same Hs H) (n : H p = none) : Hs p = none := s.free n
theorem Grow.new (s : Same Hs H) (n : H p = none) : Grow H Hs (upd H p o) (upd Hs p o) := by
  refine ⟨same_upd n, same_upd (free_sub s n), fun b x e => ?_, fun b x e m => ?_⟩
  · by_cases hb : b = p
    · subst hb; rw [upd_same] at e ⊢; exact e
    · rw [upd_ne hb] at e ⊢; exact s _ _ e
  · rw [upd_ne (ne_of_none e n)]; exact m
/-- something new that we don't count -/
theorem Grow.gar (s : Same Hs H) (n : H p = none) : Grow H Hs (upd H p o) Hs :=
  ⟨same_upd n, Same.refl _, s.trans (same_upd n), fun _ _ _ m => m⟩
end

/-! ### a def's slots -/
structure SR (K : PySem.W.Frag) (e : Env) (σ : St) (H Hs : Hp) : Prop where
  sub : Same Hs H
  len : e.length = σ.length
  sh : ∀ (i : Nat) (d : D), e[i]? = some (SV.sh d) → ∃ v, σ[i]? = some (some v) ∧ Rp K Hs v d
  ow : ∀ (i : Nat) (xs : List D), e[i]? = some (SV.ow xs) → ∃ p vs, σ[i]? = some (some (V.ref p)) ∧ H p = some (.lst vs) ∧ Hs p = none ∧ RpA K Hs vs xs
  ne : ∀ (i j : Nat) (xs ys : List D) (p : Addr), e[i]? = some (SV.ow xs) → e[j]? = some (SV.ow ys) → σ[i]? = some (some (V.ref p)) → σ[j]? = some (some (V.ref p)) → i = j
section
variable {K : PySem.W.Frag} {e : Env} {σ : St} {H Hs H' Hs' : Hp}
theorem SR.grow (s : SR K e σ H Hs) (g : Grow H Hs H' Hs') : SR K e σ H' Hs' :=
  ⟨g.sub, s.len, fun i d h => let ⟨v, a, b⟩ := s.sh i d h; ⟨v, a, b.up g.sh⟩,
    fun i xs h => let ⟨p, vs, a, b, c, d⟩ := s.ow i xs h; ⟨p, vs, a, g.all _ _ b, g.own _ _ b c, d.up g.sh⟩, s.ne⟩
end

/-! ### what holds behind an expression -/
abbrev clsV (mg : Str → Option Value) (c : Str) : Value := (mg c).getD .none
/-- Rep: how what comes back stands for the answer -/
def Post {A B : Type} (X : Cx) (W : WX) (σ : St) (H Hs : Hp) (Rep : Hp → Hp → Hp → B → A → Prop) (r : R A) (Q : B → Hp → Prop) : Prop :=
  match r with
  | .ok a => ∀ b H' Hs', Grow H Hs H' Hs' → Rep H H' Hs' b a → Q b H'
  | .err c => ∀ H', Same H H' → W (clsV X.mg c) none σ H'
  | .stk => False
abbrev RepE (K : PySem.W.Frag) : Hp → Hp → Hp → V → D → Prop := fun _ _ Hs' v d => Rp K Hs' v d
/-- looked at: a datum, or a list of our own -/
def Bo (K : PySem.W.Frag) (H Hs : Hp) (v : V) (d : D) : Prop := Rp K Hs v d ∨ ∃ p vs xs, v = .ref p ∧ d = .list xs ∧ H p = some (.lst vs) ∧ RpA K Hs vs xs
abbrev RepB (K : PySem.W.Frag) : Hp → Hp → Hp → V → D → Prop := fun _ H' Hs' v d => Bo K H' Hs' v d
/-- a new list -/
abbrev RepF (K : PySem.W.Frag) : Hp → Hp → Hp → V → List D → Prop := fun H H' Hs' v xs => ∃ p vs, v = .ref p ∧ H p = none ∧ H' p = some (.lst vs) ∧ Hs' p = none ∧ RpA K Hs' vs xs
abbrev RepA (K : PySem.W.Frag) : Hp → Hp → Hp → List V → List D → Prop := fun _ _ Hs' vs ds => RpA K Hs' vs ds
/-- looked at, each of them -/
inductive BoA (K : PySem.W.Frag) (H Hs : Hp) : List V → List D → Prop
  | nil : BoA K H Hs [] []
  | cons {v : V} {vs : List V} {d : D} {ds : List D} : Bo K H Hs v d → BoA K H Hs vs ds → BoA K H Hs (v :: vs) (d :: ds)
abbrev RepBA (K : PySem.W.Frag) : Hp → Hp → Hp → List V → List D → Prop := fun _ H' Hs' vs ds => BoA K H' Hs' vs ds
abbrev RepT : Hp → Hp → Hp → Bool → Bool → Prop := fun _ _ _ b k => b = k
abbrev RepO : Hp → Hp → Hp → Option Int → Option Int → Prop := fun _ _ _ b k => b = k
section
variable {K : PySem.W.Frag} {H Hs H' Hs' : Hp} {v : V} {d : D}
theorem Bo.up (h : Bo K H Hs v d) (g : Grow H Hs H' Hs') : Bo K H' Hs' v d := by
  rcases h with h | ⟨p, vs, xs, a, b, c, e⟩
  · exact .inl (h.up g.sh)
  · exact .inr ⟨p, vs, xs, a, b, g.all _ _ c, e.up g.sh⟩
theorem Bo.rp (h : Bo K H Hs v d) (s : Same Hs H) : Rp K H v d := by
  rcases h with h | ⟨p, vs, xs, rfl, rfl, c, e⟩
  · exact h.up s
  · exact .lst c (e.up s)
theorem Bo.list {xs : List D} (h : Bo K H Hs v (.list xs)) (s : Same Hs H) : ∃ p vs, v = .ref p ∧ H p = some (.lst vs) ∧ RpA K Hs vs xs := by
  rcases h with h | ⟨p, vs, xs', rfl, e1, c, e⟩
  · cases h with | lst h1 h2 => exact ⟨_, _, rfl, s _ _ h1, h2⟩
  · cases e1; exact ⟨p, vs, rfl, c, e⟩
theorem Bo.tuple {xs : List D} (h : Bo K H Hs v (.tuple xs)) (s : Same Hs H) : ∃ p vs, v = .ref p ∧ H p = some (.tup vs) ∧ RpA K Hs vs xs := by
  rcases h with h | ⟨p, vs, xs', rfl, e1, c, e⟩
  · cases h with | tup h1 h2 => exact ⟨_, _, rfl, s _ _ h1, h2⟩
  · cases e1
theorem Bo.scr {xs : List D} (h : Bo K H Hs v (PL.scr xs)) (s : Same Hs H) : ∃ p vs, v = .ref p ∧ SqL K H p vs ∧ RpA K Hs vs xs := by
  rcases h with h | ⟨p, vs, xs', rfl, e1, c, e⟩
  · cases h with | scr h1 h2 => exact ⟨_, _, rfl, s.seq h1, h2⟩
  · cases e1
theorem Bo.dict (h : Bo K H Hs v (.dict [])) (s : Same Hs H) : ∃ p, v = .ref p ∧ H p = some (.dK []) := by
  rcases h with h | ⟨p, vs, xs', rfl, e1, c, e⟩
  · cases h with | dic h1 => exact ⟨_, rfl, s _ _ h1⟩
  · cases e1
theorem Bo.int {i : Int} (h : Bo K H Hs v (.int i)) : v = .int i := by
  rcases h with h | ⟨p, vs, xs', rfl, e1, c, e⟩
  · cases h; rfl
  · cases e1
theorem Bo.str {i : Str} (h : Bo K H Hs v (.str i)) : v = .str i := by
  rcases h with h | ⟨p, vs, xs', rfl, e1, c, e⟩
  · cases h; rfl
  · cases e1
theorem Bo.bool {i : Bool} (h : Bo K H Hs v (.bool i)) : v = .bl i := by
  rcases h with h | ⟨p, vs, xs', rfl, e1, c, e⟩
  · cases h; rfl
  · cases e1
theorem Bo.none (h : Bo K H Hs v .none) : v = .non := by
  rcases h with h | ⟨p, vs, xs', rfl, e1, c, e⟩
  · cases h; rfl
  · cases e1
theorem Rp.int' {i : Int} (h : Rp K H v (.int i)) : v = .int i := by cases h; rfl
theorem Rp.bool' {i : Bool} (h : Rp K H v (.bool i)) : v = .bl i := by cases h; rfl
theorem BoA.up {vs : List V} {ds : List D} (h : BoA K H Hs vs ds) (g : Grow H Hs H' Hs') : BoA K H' Hs' vs ds := by
  induction h with
  | nil => exact .nil
  | cons a _ ih => exact .cons (a.up g) ih
theorem BoA.rp {vs : List V} {ds : List D} (h : BoA K H Hs vs ds) (s : Same Hs H) : RpA K H vs ds := by
  induction h with
  | nil => exact .nil
  | cons a _ ih => exact .cons (a.rp s) ih
theorem RpA.bo : ∀ {ds : List D} {vs : List V}, RpA K Hs vs ds → BoA K H Hs vs ds
  | [], _, h => by cases h; exact .nil
  | _ :: _, _, h => by cases h with | cons h1 h2 => exact .cons (.inl h1) (RpA.bo h2)
end
section
variable {X : Cx} {W : WX} {σ : St} {H Hs H1 Hs1 : Hp}
theorem Post.grow {A B : Type} {Rep : Hp → Hp → Hp → B → A → Prop} {r : R A} {Q : B → Hp → Prop} (h : Post X W σ H Hs Rep r Q) (g : Grow H Hs H1 Hs1)
    (an : ∀ H' Hs' b a, Rep H1 H' Hs' b a → Rep H H' Hs' b a) : Post X W σ H1 Hs1 Rep r Q := by
  cases r with
  | ok a => exact fun b H' Hs' g' rp => h b H' Hs' (g.trans g') (an _ _ _ _ rp)
  | err c => exact fun H' s' => h H' (g.all.trans s')
  | stk => exact h
theorem Post.bind {A B C E : Type} {Rep1 : Hp → Hp → Hp → B → A → Prop} {Rep2 : Hp → Hp → Hp → E → C → Prop} {r : R A} {k : A → R C} {Q : E → Hp → Prop} (hp : Post X W σ H Hs Rep2 (r.bind k) Q)
    {T : B → Hp → Prop} (an : ∀ H1, Same H H1 → ∀ H' Hs' b a, Rep2 H1 H' Hs' b a → Rep2 H H' Hs' b a)
    (h : ∀ a b H1 Hs1, r = .ok a → Grow H Hs H1 Hs1 → Rep1 H H1 Hs1 b a → Post X W σ H1 Hs1 Rep2 (k a) Q → T b H1) : Post X W σ H Hs Rep1 r T := by
  cases r with
  | ok a => exact fun b H1 Hs1 g rp => h a b H1 Hs1 rfl g rp (Post.grow (A := C) hp g (an H1 g.all))
  | err c => exact hp
  | stk => exact hp
theorem anE {B A : Type} {G : Hp → Hp → B → A → Prop} : ∀ H1, Same H H1 → ∀ H' Hs' b a, (fun (_ : Hp) H' Hs' b a => G H' Hs' b a) H1 H' Hs' b a → (fun (_ : Hp) H' Hs' b a => G H' Hs' b a) H H' Hs' b a := fun _ _ _ _ _ _ h => h
end

/-! ### the judgements -/
structure PPE (X : Cx) (W : WX) (ex : Expr) (f : EF) : Prop where
  out : ∃ t : TE, PE X ex t ∧ ∀ e σ H Hs Q, SR X.K e σ H Hs → Post X W σ H Hs (RepE X.K) (f e) Q → t σ H Q
/-- looked at -/
structure PPB (X : Cx) (W : WX) (ex : Expr) (f : EF) : Prop where
  out : ∃ t : TE, PE X ex t ∧ ∀ e σ H Hs Q, SR X.K e σ H Hs → Post X W σ H Hs (RepB X.K) (f e) Q → t σ H Q
/-- a new list -/
structure PPF (X : Cx) (W : WX) (ex : Expr) (f : LF) : Prop where
  out : ∃ t : TE, PE X ex t ∧ ∀ e σ H Hs Q, SR X.K e σ H Hs → Post X W σ H Hs (RepF X.K) (f e) Q → t σ H Q
structure PPA (X : Cx) (W : WX) (es : List Expr) (f : LF) : Prop where
  out : ∃ t : TA, PA X es t ∧ ∀ e σ H Hs Q, SR X.K e σ H Hs → Post X W σ H Hs (RepA X.K) (f e) Q → t σ H Q
  len : ∀ e ds, f e = .ok ds → ds.length = es.length
structure PPBA (X : Cx) (W : WX) (es : List Expr) (f : LF) : Prop where
  out : ∃ t : TA, PA X es t ∧ ∀ e σ H Hs Q, SR X.K e σ H Hs → Post X W σ H Hs (RepBA X.K) (f e) Q → t σ H Q
structure PPT (X : Cx) (W : WX) (ex : Expr) (f : TF) : Prop where
  out : ∃ t : TT, PT X ex t ∧ ∀ e σ H Hs Q, SR X.K e σ H Hs → Post X W σ H Hs RepT (f e) Q → t σ H Q
structure PPW (X : Cx) (W : WX) (ex : Expr) (f : TF) : Prop where
  out : ∃ t : TT, PW X ex t ∧ ∀ e σ H Hs Q, SR X.K e σ H Hs → Post X W σ H Hs RepT (f e) Q → t σ H Q
structure PPO (X : Cx) (W : WX) (ex : Option Expr) (f : Env → R (Option Int)) : Prop where
  out : ∃ t : TO, PO X ex t ∧ ∀ e σ H Hs Q, SR X.K e σ H Hs → Post X W σ H Hs RepO (f e) Q → t σ H Q

section
variable {X : Cx} {W : WX} {a b c : Expr} {f g h : EF} {pos : Pos}
theorem PPE.bo (p : PPE X W a f) : PPB X W a f := by
  obtain ⟨t, pa, ha⟩ := p.out
  refine ⟨t, pa, fun e σ H Hs Q s hp => ha e σ H Hs Q s ?_⟩
  revert hp
  cases f e with
  | ok d => exact fun hp v H' Hs' g rp => hp v H' Hs' g (.inl rp)
  | err c => exact fun hp => hp
  | stk => exact fun hp => hp
theorem PPW.pt (p : PPW X W a q) : PPT X W a q := let ⟨t, pa, ha⟩ := p.out; ⟨t, pa.pt, ha⟩

/-! ### names and constants -/
theorem ppe_v (i : Nat) {x : Str} (hN : X.N[i]? = some x := by rfl) (hv : Vis X.env.scope x := by first | exact Or.inl rfl | exact Or.inr (Or.inl rfl) | exact Or.inr (Or.inr rfl)) (hd : (x == ("__debug__" : Str)) = false := by decide)
    (hcd : (x == ("__classdict__" : Str)) = false := by decide) : PPE X W (.Name x pos) (eV i) := by
  refine ⟨tVar i, pe_var hN hv hd hcd, fun e σ H Hs Q s hp => ?_⟩
  unfold eV at hp
  split at hp
  · rename_i d hd
    obtain ⟨v, h1, h2⟩ := s.sh i d hd
    exact ⟨v, h1, hp v H Hs (Grow.refl s.sub) h2⟩
  · exact hp.elim
theorem ppb_v (i : Nat) {x : Str} (hN : X.N[i]? = some x := by rfl) (hv : Vis X.env.scope x := by first | exact Or.inl rfl | exact Or.inr (Or.inl rfl) | exact Or.inr (Or.inr rfl)) (hd : (x == ("__debug__" : Str)) = false := by decide)
    (hcd : (x == ("__classdict__" : Str)) = false := by decide) : PPB X W (.Name x pos) (eB i) := by
  refine ⟨tVar i, pe_var hN hv hd hcd, fun e σ H Hs Q s hp => ?_⟩
  unfold eB at hp
  split at hp
  · rename_i d hd
    obtain ⟨v, h1, h2⟩ := s.sh i d hd
    exact ⟨v, h1, hp v H Hs (Grow.refl s.sub) (.inl h2)⟩
  · rename_i xs hd
    obtain ⟨p, vs, h1, h2, h3, h4⟩ := s.ow i xs hd
    exact ⟨_, h1, hp _ H Hs (Grow.refl s.sub) (.inr ⟨p, vs, xs, rfl, rfl, h2, h4⟩)⟩
  · exact hp.elim
theorem ppe_k {ex : Expr} {v : V} {d : D} (hp : PE X ex (tC v)) (hr : ∀ Hs, Rp X.K Hs v d) : PPE X W ex (eK d) :=
  ⟨tC v, hp, fun e σ H Hs Q s hp => hp v H Hs (Grow.refl s.sub) (hr Hs)⟩
theorem ppe_int {i : Int} {j} : PPE X W (.Constant (.int i) j pos) (eK (.int i)) := ppe_k pe_int fun _ => .int i
theorem ppe_bl {i : Bool} {j} : PPE X W (.Constant (.bool i) j pos) (eK (.bool i)) := ppe_k pe_bl fun _ => .bl i
theorem ppe_str {i : Str} {j} : PPE X W (.Constant (.str i) j pos) (eK (.str i)) := ppe_k pe_str fun _ => .str i
theorem ppe_non {j} : PPE X W (.Constant .none j pos) (eK .none) := ppe_k pe_non fun _ => .non
/-- a module's constant -/
theorem ppe_gi {x : Str} {i : Int} (hm : ∃ t, X.mg x = some (.int i t)) (hg : Gl X x := by rfl) (hd : (x == ("__debug__" : Str)) = false := by decide) : PPE X W (.Name x pos) (eK (.int i)) := by
  obtain ⟨t, hm⟩ := hm
  exact ppe_k (pe_glob hg hm (v := .int i) ⟨_, rfl⟩ hd) fun _ => .int i
theorem ppe_gs {x : Str} {i : Str} (hm : ∃ t, X.mg x = some (.str i t)) (hg : Gl X x := by rfl) (hd : (x == ("__debug__" : Str)) = false := by decide) : PPE X W (.Name x pos) (eK (.str i)) := by
  obtain ⟨t, hm⟩ := hm
  exact ppe_k (pe_glob hg hm (v := .str i) ⟨_, rfl⟩ hd) fun _ => .str i

/-! ### operators: their rules over data -/
/-- f, a two-place operation of the machine, does what op tells -/
def OpS (X : Cx) (f : Value → Value → Sem Value) (op : D → D → R D) : Prop :=
  ∃ r : R2, OpR X f r ∧ ∀ (W : WX) (σ : St) (H Hs : Hp) (x y : V) (d1 d2 : D) (Q : VK), Same Hs H → Bo X.K H Hs x d1 → Bo X.K H Hs y d2 → Post X W σ H Hs (RepE X.K) (op d1 d2) Q → r x y H Q
def UnS (X : Cx) (f : Value → Sem Value) (op : D → R D) : Prop :=
  ∃ r : V → Hp → VK → Prop, UnR X f r ∧ ∀ (W : WX) (σ : St) (H Hs : Hp) (x : V) (d : D) (Q : VK), Same Hs H → Bo X.K H Hs x d → Post X W σ H Hs (RepE X.K) (op d) Q → r x H Q
def CaS (X : Cx) (f : Value) (m : List D → R D) : Prop :=
  ∃ r : List V → Hp → VK → Prop, CallR X f r ∧ ∀ (W : WX) (σ : St) (H Hs : Hp) (xs : List V) (ds : List D) (Q : VK), Same Hs H → BoA X.K H Hs xs ds → Post X W σ H Hs (RepE X.K) (m ds) Q → r xs H Q

theorem ppe_op {op : Operator} {o : D → D → R D} (ho : OpS X (binaryOp op) o) (ha : PPB X W a f) (hb : PPB X W b g) : PPE X W (.BinOp a op b pos) (e2 o f g) := by
  obtain ⟨ta, pa, ha⟩ := ha.out
  obtain ⟨tb, pb, hb⟩ := hb.out
  obtain ⟨r, ho, hr⟩ := ho
  refine ⟨tOp r ta tb, pe_op ho pa pb, fun e σ H Hs Q s hp => ?_⟩
  refine ha e σ H Hs _ s (Post.bind hp anE fun d1 x H1 Hs1 _ g1 r1 hp1 => ?_)
  refine hb e σ H1 Hs1 _ (s.grow g1) (Post.bind hp1 anE fun d2 y H2 Hs2 _ g2 r2 hp2 => ?_)
  exact hr W σ H2 Hs2 x y d1 d2 Q g2.sub (r1.up g2) r2 hp2
theorem ppe_un {op : UnaryOp} {o : D → R D} (ho : UnS X (unaryOp op) o) (ha : PPB X W a f) : PPE X W (.UnaryOp op a pos) (e1 o f) := by
  obtain ⟨ta, pa, ha⟩ := ha.out
  obtain ⟨r, ho, hr⟩ := ho
  refine ⟨tUn r ta, pe_un ho pa, fun e σ H Hs Q s hp => ?_⟩
  refine ha e σ H Hs _ s (Post.bind hp anE fun d1 x H1 Hs1 _ g1 r1 hp1 => ?_)
  exact hr W σ H1 Hs1 x d1 Q g1.sub r1 hp1
/-- a comparison as a value; as a test -/
theorem ppe_cmp {op : CmpOp} {o : D → D → R D} (ho : OpS X (compareOp op) o) (ha : PPB X W a f) (hb : PPB X W b g) (hm : behindInMarks op b = false) : PPE X W (.Compare a [op] [b] pos) (e2 o f g) := by
  obtain ⟨ta, pa, ha⟩ := ha.out
  obtain ⟨tb, pb, hb⟩ := hb.out
  obtain ⟨r, ho, hr⟩ := ho
  refine ⟨tOp r ta tb, pe_cmpR ho pa pb hm, fun e σ H Hs Q s hp => ?_⟩
  refine ha e σ H Hs _ s (Post.bind hp anE fun d1 x H1 Hs1 _ g1 r1 hp1 => ?_)
  refine hb e σ H1 Hs1 _ (s.grow g1) (Post.bind hp1 anE fun d2 y H2 Hs2 _ g2 r2 hp2 => ?_)
  exact hr W σ H2 Hs2 x y d1 d2 Q g2.sub (r1.up g2) r2 hp2
theorem post_asB {σ : St} {H Hs : Hp} {Q : Bool → Hp → Prop} {d : D} {v : V} {H1 Hs1 : Hp} (g1 : Grow H Hs H1 Hs1) (s : Same Hs H) (hp : Post X W σ H Hs RepT (asB d) Q) (rv : Rp X.K Hs1 v d) : ∃ k, v = .bl k ∧ Q k H1 := by
  cases d with
  | bool k => exact ⟨k, rv.bool', hp k H1 Hs1 g1 rfl⟩
  | _ => exact (show False from hp).elim
theorem ppt_cmp {op : CmpOp} {o : D → D → R D} (ho : OpS X (compareOp op) o) (ha : PPB X W a f) (hb : PPB X W b g) (hm : behindInMarks op b = false) : PPT X W (.Compare a [op] [b] pos) (qV (e2 o f g)) := by
  obtain ⟨ta, pa, ha⟩ := ha.out
  obtain ⟨tb, pb, hb⟩ := hb.out
  obtain ⟨r, ho, hr⟩ := ho
  refine ⟨tTest (tOp r ta tb), pt_cmpR ho pa pb hm, fun e σ H Hs Q s hp => ?_⟩
  have hp' : Post X W σ H Hs (RepE X.K) (e2 o f g e) (fun x H' => ∃ k, x = V.bl k ∧ Q k H') :=
    Post.bind hp anE fun d x H1 Hs1 _ g1 r1 hp1 => post_asB (Grow.refl g1.sub) g1.sub hp1 r1
  refine ha e σ H Hs _ s (Post.bind hp' anE fun d1 x H1 Hs1 _ g1 r1 hp1 => ?_)
  refine hb e σ H1 Hs1 _ (s.grow g1) (Post.bind hp1 anE fun d2 y H2 Hs2 _ g2 r2 hp2 => ?_)
  exact hr W σ H2 Hs2 x y d1 d2 _ g2.sub (r1.up g2) r2 hp2
/-- any expression as a test whose value is a truth -/
theorem ppt_v (ha : PPE X W a f) (he : ∀ whole, isTrue a X.env whole = (do let v ← whole; standAt a.pos; holding [v] (truthy v)) := by intro _; rfl) : PPT X W a (qV f) := by
  obtain ⟨ta, pa, ha⟩ := ha.out
  refine ⟨tB ta, pt_val pa he, fun e σ H Hs Q s hp => ?_⟩
  exact ha e σ H Hs _ s (Post.bind hp anE fun d x H1 Hs1 _ g1 r1 hp1 => post_asB (Grow.refl g1.sub) g1.sub hp1 r1)
end
end PL

namespace PL
open PySem PySem.Spec PyProof.Rows L2

section
variable {X : Cx} {W : WX} {a b c : Expr} {f g h : EF} {pos : Pos} {t u : TF} {rest : List Expr}
/-! ### and, or, not, if-else, chains -/
theorem ppt_not (ha : PPT X W a t) : PPT X W (.UnaryOp .Not a pos) (qNot t) := by
  obtain ⟨ta, pa, ha⟩ := ha.out
  refine ⟨_, pt_not pa, fun e σ H Hs Q s hp => ?_⟩
  refine ha e σ H Hs _ s (Post.bind hp anE fun d x H1 Hs1 _ g1 r1 hp1 => ?_)
  subst r1
  exact hp1 _ H1 Hs1 (Grow.refl g1.sub) rfl
theorem ppw_and1 (ha : PPT X W a t) : PPW X W (.BoolOp .And [a] pos) t := let ⟨ta, pa, ha⟩ := ha.out; ⟨ta, pw_and1 pa, ha⟩
theorem ppw_or1 (ha : PPT X W a t) : PPW X W (.BoolOp .Or [a] pos) t := let ⟨ta, pa, ha⟩ := ha.out; ⟨ta, pw_or1 pa, ha⟩
theorem ppw_and (ha : PPT X W a t) (hb : PPW X W (.BoolOp .And (b :: rest) pos) u) : PPW X W (.BoolOp .And (a :: b :: rest) pos) (qAnd t u) := by
  obtain ⟨ta, pa, ha⟩ := ha.out
  obtain ⟨tb, pb, hb⟩ := hb.out
  refine ⟨_, pw_and pa pb, fun e σ H Hs Q s hp => ?_⟩
  refine ha e σ H Hs _ s (Post.bind hp anE fun d x H1 Hs1 _ g1 r1 hp1 => ?_)
  subst r1
  cases x with
  | true => exact hb e σ H1 Hs1 Q (s.grow g1) hp1
  | false => exact hp1 _ H1 Hs1 (Grow.refl g1.sub) rfl
theorem ppw_or (ha : PPT X W a t) (hb : PPW X W (.BoolOp .Or (b :: rest) pos) u) : PPW X W (.BoolOp .Or (a :: b :: rest) pos) (qOr t u) := by
  obtain ⟨ta, pa, ha⟩ := ha.out
  obtain ⟨tb, pb, hb⟩ := hb.out
  refine ⟨_, pw_or pa pb, fun e σ H Hs Q s hp => ?_⟩
  refine ha e σ H Hs _ s (Post.bind hp anE fun d x H1 Hs1 _ g1 r1 hp1 => ?_)
  subst r1
  cases x with
  | false => exact hb e σ H1 Hs1 Q (s.grow g1) hp1
  | true => exact hp1 _ H1 Hs1 (Grow.refl g1.sub) rfl
theorem ppe_not (ha : PPE X W a f) : PPE X W (.UnaryOp .Not a pos) (eNot f) := by
  obtain ⟨ta, pa, ha⟩ := ha.out
  refine ⟨_, pe_not pa, fun e σ H Hs Q s hp => ?_⟩
  refine ha e σ H Hs _ s (Post.bind hp anE fun d x H1 Hs1 _ g1 r1 hp1 => ?_)
  cases d with
  | bool k => exact ⟨k, r1.bool', hp1 _ H1 Hs1 (Grow.refl g1.sub) (.bl _)⟩
  | _ => exact (show False from hp1).elim
theorem ppe_one {op} (ha : PPE X W a f) : PPE X W (.BoolOp op [a] pos) f := let ⟨ta, pa, ha⟩ := ha.out; ⟨ta, pe_one pa, ha⟩
theorem ppe_and (ha : PPE X W a f) (hb : PPE X W (.BoolOp .And (b :: rest) pos) g) : PPE X W (.BoolOp .And (a :: b :: rest) pos) (eAnd f g) := by
  obtain ⟨ta, pa, ha⟩ := ha.out
  obtain ⟨tb, pb, hb⟩ := hb.out
  refine ⟨_, pe_and pa pb, fun e σ H Hs Q s hp => ?_⟩
  refine ha e σ H Hs _ s (Post.bind hp anE fun d x H1 Hs1 _ g1 r1 hp1 => ?_)
  cases d with
  | bool k =>
    refine ⟨k, r1.bool', ?_⟩
    cases k with
    | true => exact hb e σ H1 Hs1 Q (s.grow g1) hp1
    | false => exact hp1 _ H1 Hs1 (Grow.refl g1.sub) (.bl _)
  | _ => exact (show False from hp1).elim
theorem ppe_or (ha : PPE X W a f) (hb : PPE X W (.BoolOp .Or (b :: rest) pos) g) : PPE X W (.BoolOp .Or (a :: b :: rest) pos) (eOr f g) := by
  obtain ⟨ta, pa, ha⟩ := ha.out
  obtain ⟨tb, pb, hb⟩ := hb.out
  refine ⟨_, pe_or pa pb, fun e σ H Hs Q s hp => ?_⟩
  refine ha e σ H Hs _ s (Post.bind hp anE fun d x H1 Hs1 _ g1 r1 hp1 => ?_)
  cases d with
  | bool k =>
    refine ⟨k, r1.bool', ?_⟩
    cases k with
    | false => exact hb e σ H1 Hs1 Q (s.grow g1) hp1
    | true => exact hp1 _ H1 Hs1 (Grow.refl g1.sub) (.bl _)
  | _ => exact (show False from hp1).elim
theorem ppe_if (hc : PPT X W c t) (ha : PPE X W a f) (hb : PPE X W b g) : PPE X W (.IfExp c a b pos) (eIf t f g) := by
  obtain ⟨tc, pc, hc⟩ := hc.out
  obtain ⟨ta, pa, ha⟩ := ha.out
  obtain ⟨tb, pb, hb⟩ := hb.out
  refine ⟨_, pe_ifExp pc pa pb, fun e σ H Hs Q s hp => ?_⟩
  refine hc e σ H Hs _ s (Post.bind hp anE fun d x H1 Hs1 _ g1 r1 hp1 => ?_)
  subst r1
  cases x with
  | true => exact ha e σ H1 Hs1 Q (s.grow g1) hp1
  | false => exact hb e σ H1 Hs1 Q (s.grow g1) hp1
theorem chain_post {op op' : D → D → R D} {r r' : R2} {tc : TE} {σ : St} {H Hs : Hp} {e : Env} {Q : VK} {x y : V} {d1 d2 : D} (s : SR X.K e σ H Hs) (hx : Bo X.K H Hs x d1) (hy : Bo X.K H Hs y d2)
    (hr : ∀ (W : WX) (σ : St) (H Hs : Hp) (x y : V) (d1 d2 : D) (Q : VK), Same Hs H → Bo X.K H Hs x d1 → Bo X.K H Hs y d2 → Post X W σ H Hs (RepE X.K) (op d1 d2) Q → r x y H Q)
    (hr' : ∀ (W : WX) (σ : St) (H Hs : Hp) (x y : V) (d1 d2 : D) (Q : VK), Same Hs H → Bo X.K H Hs x d1 → Bo X.K H Hs y d2 → Post X W σ H Hs (RepE X.K) (op' d1 d2) Q → r' x y H Q)
    (hc : ∀ e σ H Hs Q, SR X.K e σ H Hs → Post X W σ H Hs (RepB X.K) (h e) Q → tc σ H Q)
    (hp : Post X W σ H Hs (RepE X.K) ((op d1 d2).bind fun r => (asB r).bind fun k => if k then (h e).bind fun c => op' d2 c else .ok (.bool false)) Q) :
    r x y H fun z H3 => ∃ k, z = .bl k ∧ (if k = true then tc σ H3 fun w' H4 => r' y w' H4 Q else Q (.bl false) H3) := by
  refine hr W σ H Hs x y d1 d2 _ s.sub hx hy (Post.bind hp anE fun d z H3 Hs3 _ g3 r3 hp3 => ?_)
  cases d with
  | bool k =>
    refine ⟨k, r3.bool', ?_⟩
    cases k with
    | true =>
      have hp4 : Post X W σ H3 Hs3 (RepE X.K) ((h e).bind fun c => op' d2 c) Q := hp3
      refine hc e σ H3 Hs3 _ (s.grow g3) (Post.bind hp4 anE fun d3 w H4 Hs4 _ g4 r4 hp4 => ?_)
      exact hr' W σ H4 Hs4 y w d2 d3 Q g4.sub ((hy.up g3).up g4) r4 hp4
    | false => exact hp3 _ H3 Hs3 (Grow.refl g3.sub) (.bl _)
  | _ => exact (show False from hp3).elim
theorem ppe_chain {op op' : CmpOp} {o o' : D → D → R D} (ho : OpS X (compareOp op) o) (ho' : OpS X (compareOp op') o') (ha : PPB X W a f) (hb : PPB X W b g) (hc : PPB X W c h)
    (hm : lastMarks [op, op'] [b, c] = false := by with_unfolding_all rfl) : PPE X W (.Compare a [op, op'] [b, c] pos) (eCh o o' f g h) := by
  obtain ⟨ta, pa, ha⟩ := ha.out
  obtain ⟨tb, pb, hb⟩ := hb.out
  obtain ⟨tc, pc, hc⟩ := hc.out
  obtain ⟨r, ho, hr⟩ := ho
  obtain ⟨r', ho', hr'⟩ := ho'
  refine ⟨tChain r r' ta tb tc, pe_chain ho ho' pa pb pc hm, fun e σ H Hs Q s hp => ?_⟩
  refine ha e σ H Hs _ s (Post.bind hp anE fun d1 x H1 Hs1 _ g1 r1 hp1 => ?_)
  refine hb e σ H1 Hs1 _ (s.grow g1) (Post.bind hp1 anE fun d2 y H2 Hs2 _ g2 r2 hp2 => ?_)
  exact chain_post (s.grow (g1.trans g2)) (r1.up g2) r2 hr hr' hc hp2
theorem ppt_chain {op op' : CmpOp} {o o' : D → D → R D} (ho : OpS X (compareOp op) o) (ho' : OpS X (compareOp op') o') (ha : PPB X W a f) (hb : PPB X W b g) (hc : PPB X W c h)
    (hm : lastMarks [op, op'] [b, c] = false := by with_unfolding_all rfl) : PPT X W (.Compare a [op, op'] [b, c] pos) (qV (eCh o o' f g h)) := by
  obtain ⟨ta, pa, ha⟩ := ha.out
  obtain ⟨tb, pb, hb⟩ := hb.out
  obtain ⟨tc, pc, hc⟩ := hc.out
  obtain ⟨r, ho, hr⟩ := ho
  obtain ⟨r', ho', hr'⟩ := ho'
  refine ⟨tTest (tChain r r' ta tb tc), pt_chain ho ho' pa pb pc hm, fun e σ H Hs Q s hp => ?_⟩
  have hp' : Post X W σ H Hs (RepE X.K) (eCh o o' f g h e) (fun x H' => ∃ k, x = V.bl k ∧ Q k H') :=
    Post.bind hp anE fun d x H1 Hs1 _ g1 r1 hp1 => post_asB (Grow.refl g1.sub) g1.sub hp1 r1
  refine ha e σ H Hs _ s (Post.bind hp' anE fun d1 x H1 Hs1 _ g1 r1 hp1 => ?_)
  refine hb e σ H1 Hs1 _ (s.grow g1) (Post.bind hp1 anE fun d2 y H2 Hs2 _ g2 r2 hp2 => ?_)
  exact chain_post (s.grow (g1.trans g2)) (r1.up g2) r2 hr hr' hc hp2
end

/-! ### the operators over data -/
section
variable {X : Cx}
theorem ops_of {F : Value → Value → Sem Value} {op : D → D → R D} (r : R2) (ho : OpR X F r)
    (h : ∀ (W : WX) (σ : St) (H Hs : Hp) (x y : V) (d1 d2 : D) (Q : VK), Same Hs H → Bo X.K H Hs x d1 → Bo X.K H Hs y d2 → Post X W σ H Hs (RepE X.K) (op d1 d2) Q → r x y H Q) : OpS X F op := ⟨r, ho, h⟩
theorem os_sub : OpS X (binaryOp .Sub) opSub := by
  refine ops_of _ op_sub fun W σ H Hs x y d1 d2 Q s hx hy hp => ?_
  cases d1 <;> cases d2 <;> first
    | exact (show False from hp).elim
    | (rename_i i j; exact ⟨i, j, hx.int, hy.int, hp _ H Hs (Grow.refl s) (.int _)⟩)
theorem cmul_of {i j : Int} (h : mulB i j = true) : CMul i j ∨ CMulW i j := by
  unfold mulB at h
  simp only [Bool.or_eq_true, decide_eq_true_eq] at h
  rcases h with (h | h) | h
  · exact .inl (.inl h)
  · exact .inl (.inr h)
  · exact .inr h
theorem HT_sIx (n d : Nat) (o : Option Int) : HT.sIx n d o = sIx n d o := by
  cases o with
  | none => rfl
  | some v =>
    unfold HT.sIx sIx
    first
      | rfl
      | (simp only []; split <;> simp <;> omega)
theorem cut_eq {A : Type} (xs : List A) (lo hi : Option Int) : cut xs lo hi = (xs.drop (HT.sIx xs.length 0 lo)).take (HT.sIx xs.length xs.length hi - HT.sIx xs.length 0 lo) := by
  unfold cut
  rw [HT_sIx, HT_sIx]

theorem os_add : OpS X (binaryOp .Add) opAdd := by
  refine ops_of _ (op_add.or (op_cat.or (op_catA.or op_add_str))) fun W σ H Hs x y d1 d2 Q s hx hy hp => ?_
  cases d1 <;> cases d2 <;> first
    | exact (show False from hp).elim
    | skip
  · rename_i i j
    exact .inl ⟨i, j, hx.int, hy.int, hp _ H Hs (Grow.refl s) (.int _)⟩
  · rename_i i j
    dsimp only [opAdd] at hp
    split at hp
    · rename_i hz
      exact .inr (.inr (.inr ⟨i, j, hx.str, hy.str, hz, hp _ H Hs (Grow.refl s) (.str _)⟩))
    · exact hp.elim
  · rename_i i j
    dsimp only [opAdd] at hp
    split at hp
    · rename_i hz
      obtain ⟨p, vs, rfl, h1, r1⟩ := hx.list s
      obtain ⟨q, ws, rfl, h2, r2⟩ := hy.list s
      refine .inr (.inl ⟨p, q, vs, ws, rfl, rfl, h1, h2, by rw [r1.length, r2.length]; exact hz, fun l hl => hp _ _ _ (Grow.new s hl) (.lst upd_same ((r1.append r2).up (Grow.new (o := .lst (vs ++ ws)) s hl).sh))⟩)
    · exact hp.elim
  · rename_i i j
    dsimp only [opAdd] at hp
    split at hp
    · rename_i hz
      obtain ⟨p, vs, rfl, h1, r1⟩ := hx.tuple s
      obtain ⟨q, ws, rfl, h2, r2⟩ := hy.tuple s
      refine .inr (.inr (.inl ⟨p, q, vs, ws, rfl, rfl, SqT.of h1, SqT.of h2, by rw [r1.length, r2.length]; exact hz, fun e => ?_, fun _ e => ?_, fun _ _ l hl => hp _ _ _ (Grow.new s hl) (.tup upd_same ((r1.append r2).up (Grow.new (o := .tup (vs ++ ws)) s hl).sh))⟩))
      · subst e
        cases r1
        rcases hy with hy | ⟨_, _, _, _, z, _⟩
        · exact hp _ H Hs (Grow.refl s) hy
        · cases z
      · subst e
        cases r2
        rcases hx with hx | ⟨_, _, _, _, z, _⟩
        · rw [List.append_nil] at hp
          exact hp _ H Hs (Grow.refl s) hx
        · cases z
    · exact hp.elim
theorem rep_str_ok : OpR X (binaryOp .Mult) (fun x y H Q => ∃ z k, x = .str z ∧ y = .int k ∧ ((k = 0 ∧ Q (.str Str.empty) H) ∨ (k = 1 ∧ Q (.str z) H))) := by
  intro pins s σ H x y v u Q I rx ry h
  obtain ⟨z, k, rfl, rfl, h⟩ := h
  obtain ⟨t, rfl⟩ := rx
  obtain ⟨t', rfl⟩ := ry
  rcases h with ⟨rfl, q⟩ | ⟨rfl, q⟩
  · exact PySem.P.mul_str_none (by decide) (by decide) ⟨.str _, H, I.tok _, ⟨_, rfl⟩, q⟩
  · refine PySem.P.mul_str (by decide) (fun _ e => ?_) (fun _ e => ?_) ?_
    · exact absurd e (by simp)
    · exact absurd e (by simp)
    · rw [if_neg (by decide), if_pos (by simp)]
      exact ⟨.str _, H, I, ⟨_, rfl⟩, q⟩
theorem os_mul : OpS X (binaryOp .Mult) opMul := by
  refine ops_of _ (op_mul.or (op_mulW.or (op_rep.or rep_str_ok))) fun W σ H Hs x y d1 d2 Q s hx hy hp => ?_
  cases d1 <;> cases d2 <;> first
    | exact (show False from hp).elim
    | skip
  · rename_i i j
    dsimp only [opMul] at hp
    split at hp
    · rename_i hz
      rcases cmul_of hz with h | h
      · exact .inl ⟨i, j, hx.int, hy.int, h, hp _ H Hs (Grow.refl s) (.int _)⟩
      · exact .inr (.inl ⟨i, j, hx.int, hy.int, h, hp _ H Hs (Grow.refl s) (.int _)⟩)
    · exact hp.elim
  · rename_i z k
    dsimp only [opMul] at hp
    split at hp
    · rename_i hz
      exact .inr (.inr (.inr ⟨z, k, hx.str, hy.int, .inl ⟨hz, hp _ H Hs (Grow.refl s) (.str _)⟩⟩))
    · split at hp
      · rename_i hz
        exact .inr (.inr (.inr ⟨z, k, hx.str, hy.int, .inr ⟨hz, hp _ H Hs (Grow.refl s) (.str _)⟩⟩))
      · exact hp.elim
  · rename_i i k
    dsimp only [opMul] at hp
    split at hp
    · rename_i hz
      obtain ⟨p, vs, rfl, h1, r1⟩ := hx.list s
      refine .inr (.inr (.inl ⟨p, k, vs, rfl, hy.int, h1, by omega, by omega, by rw [r1.length]; exact hz.2.2, fun l hl => hp _ _ _ (Grow.new s hl) (.lst upd_same ((r1.reps _).up (Grow.new (o := .lst (List.replicate k.toNat vs).flatten) s hl).sh))⟩))
    · exact hp.elim
theorem os_div : OpS X (binaryOp .FloorDiv) opDiv := by
  refine ops_of _ op_fdivW fun W σ H Hs x y d1 d2 Q s hx hy hp => ?_
  cases d1 <;> cases d2 <;> first
    | exact (show False from hp).elim
    | skip
  rename_i i j
  dsimp only [opDiv] at hp
  split at hp
  · rename_i hz
    exact ⟨i, j, hx.int, hy.int, hz, hp _ H Hs (Grow.refl s) (.int _)⟩
  · exact hp.elim
theorem os_mod : OpS X (binaryOp .Mod) opMod := by
  refine ops_of _ op_mod fun W σ H Hs x y d1 d2 Q s hx hy hp => ?_
  cases d1 <;> cases d2 <;> first
    | exact (show False from hp).elim
    | skip
  rename_i i j
  dsimp only [opMod] at hp
  split at hp
  · rename_i hz
    exact ⟨i, j, hx.int, hy.int, hz, hp _ H Hs (Grow.refl s) (.int _)⟩
  · exact hp.elim
theorem os_pow : OpS X (binaryOp .Pow) opPow := by
  refine ops_of _ op_pow fun W σ H Hs x y d1 d2 Q s hx hy hp => ?_
  cases d1 <;> cases d2 <;> first
    | exact (show False from hp).elim
    | skip
  rename_i i j
  dsimp only [opPow] at hp
  split at hp
  · rename_i hz
    exact ⟨i, j, hx.int, hy.int, ⟨hz.1, by omega, hz.2.2⟩, hp _ H Hs (Grow.refl s) (.int _)⟩
  · exact hp.elim
theorem us_neg : UnS X (unaryOp .USub) opNeg := by
  refine ⟨_, un_neg, fun W σ H Hs x d Q s hx hp => ?_⟩
  cases d <;> first
    | exact (show False from hp).elim
    | skip
  exact ⟨_, hx.int, hp _ H Hs (Grow.refl s) (.int _)⟩
theorem cmp_of {F : Value → Value → Sem Value} {g : Int → Int → Bool} {op : D → D → R D} (ho : OpR X F (rI0 fun i j => .bl (g i j))) (h1 : ∀ i j, op (.int i) (.int j) = .ok (.bool (g i j))) (h2 : ∀ d1 d2, op d1 d2 = .stk ∨ ∃ i j, d1 = .int i ∧ d2 = .int j) : OpS X F op := by
  refine ops_of _ ho fun W σ H Hs x y d1 d2 Q s hx hy hp => ?_
  rcases h2 d1 d2 with e | ⟨i, j, rfl, rfl⟩
  · rw [e] at hp; exact (show False from hp).elim
  · rw [h1] at hp
    exact ⟨i, j, hx.int, hy.int, hp _ H Hs (Grow.refl s) (.bl _)⟩
theorem os_lt : OpS X (compareOp .Lt) opLt := cmp_of op_lt (fun _ _ => rfl) fun d1 d2 => by cases d1 <;> cases d2 <;> first | exact .inl rfl | exact .inr ⟨_, _, rfl, rfl⟩
theorem os_le : OpS X (compareOp .LtE) opLe := cmp_of op_le (fun _ _ => rfl) fun d1 d2 => by cases d1 <;> cases d2 <;> first | exact .inl rfl | exact .inr ⟨_, _, rfl, rfl⟩
theorem os_gt : OpS X (compareOp .Gt) opGt := cmp_of op_gt (fun _ _ => rfl) fun d1 d2 => by cases d1 <;> cases d2 <;> first | exact .inl rfl | exact .inr ⟨_, _, rfl, rfl⟩
theorem os_ge : OpS X (compareOp .GtE) opGe := cmp_of op_ge (fun _ _ => rfl) fun d1 d2 => by cases d1 <;> cases d2 <;> first | exact .inl rfl | exact .inr ⟨_, _, rfl, rfl⟩
/-- x is None -/
theorem isNone_v {K : PySem.W.Frag} {H Hs : Hp} {x : V} {d : D} (h : Bo K H Hs x d) (s : Same Hs H) : decide (x = .non) = isNone d := by
  have h := h.rp s
  cases h <;> rfl
theorem os_is : OpS X (compareOp .Is) opIs := by
  refine ops_of _ (op_isN.or op_isBl) fun W σ H Hs x y d1 d2 Q s hx hy hp => ?_
  unfold opIs at hp
  split at hp
  · refine .inl ⟨hy.none, ?_⟩
    rw [isNone_v hx s]
    exact hp _ H Hs (Grow.refl s) (.bl _)
  · split at hp
    · exact .inr ⟨_, _, hx.bool, hy.bool, hp _ H Hs (Grow.refl s) (.bl _)⟩
    · exact (show False from hp).elim
  · exact (show False from hp).elim
theorem os_isnot : OpS X (compareOp .IsNot) opIsNot := by
  refine ops_of _ (op_notN.or op_notBl) fun W σ H Hs x y d1 d2 Q s hx hy hp => ?_
  unfold opIsNot at hp
  split at hp
  · refine .inl ⟨hy.none, ?_⟩
    rw [isNone_v hx s]
    exact hp _ H Hs (Grow.refl s) (.bl _)
  · split at hp
    · exact .inr ⟨_, _, hx.bool, hy.bool, hp _ H Hs (Grow.refl s) (.bl _)⟩
    · exact (show False from hp).elim
  · exact (show False from hp).elim
end
end PL

namespace PL
open PySem PySem.Spec PyProof.Rows L2

/-! ### == at any depth -/
section
variable {X : Cx} {pins : List (Addr × Obj)} {σ : St} {H : Hp} {s : Shared}
theorem dict_eqAt (I : Inv X pins σ H s) {A : Around} (hu : A.units < cLine) {a b : Addr} (ha : H a = some (.dK [])) (hb : H b = some (.dK [])) : SeqAt.EqAt A s (.ref a) (.ref b) true := by
  by_cases e : a = b
  · subst e
    exact SeqAt.EqAt.same _
  · refine SeqAt.EqAt.of_refs e fun prog w E Q q => ?_
    obtain ⟨_, ya, va, ra, da⟩ := (show ObjOk X.prog X.w H s.heap a (.dK []) from I.hok a _ ha)
    obtain ⟨_, yb, vb, rb, db⟩ := (show ObjOk X.prog X.w H s.heap b (.dK []) from I.hok b _ hb)
    cases ra
    cases rb
    have cv : ∀ {c : Addr}, s.heap.DictOf (mixKind X.prog X.w) c [] → s.heap.DictOf (mixKind prog w) c [] := fun {c} h => by
      obtain ⟨o, es, ep, h1, h2, h3, h4, h5, h6⟩ := h
      have e0 : es.toList = [] := by
        cases q : es.toList with
        | nil => rfl
        | cons x r =>
          rw [q] at h5
          first
            | cases h5
            | exact absurd (congrArg List.length h5) (by simp)
            | simp at h5
      have e1 : es = #[] := by
        cases es
        simp at e0
        rw [e0]
      subst e1
      refine ⟨o, #[], ep, h1, h2, h3, ?_, ?_, h6⟩
      · first
          | exact fun e he => absurd he (by simp)
          | simp [KeysOf]
      · first
          | exact .nil
          | simp [Pairs]
    refine PySem.W.rcP_dicts (knd := mixKind prog w) (r := true) ya yb (cv da) (cv db) hu (fun _ => .nil) E Q ?_
    exact q
theorem sameAll_len : ∀ {a b : List D}, sameAll a b = true → a.length = b.length
  | [], [], _ => rfl
  | [], _ :: _, h => by simp [sameAll] at h
  | _ :: _, [], h => by simp [sameAll] at h
  | _ :: r, _ :: q, h => by
    unfold sameAll at h
    rw [Bool.and_eq_true] at h
    rw [List.length_cons, List.length_cons, sameAll_len h.2]
theorem range_all_true (n : Nat) : ((List.range n).all fun _ => true) = true := List.all_eq_true.mpr fun _ _ => rfl
mutual
theorem eqAt_same (I : Inv X pins σ H s) : ∀ (d e : D) (n : Nat) (A : Around) (x y : V) (v u : Value), A.units + n < cLine → same d e = true → lowD n d = true → Rp X.K H x d → Rp X.K H y e → RelV x v → RelV y u → SeqAt.EqAt A s v u true
  | .none, e, _, A, x, y, v, u, _, hs, _, h1, h2, r1, r2 => by
    cases e <;> first | exact absurd (show false = true from hs) Bool.false_ne_true | skip
    cases h1; cases h2; cases r1; cases r2
    exact SeqAt.EqAt.same _
  | .bool a, e, _, A, x, y, v, u, _, hs, _, h1, h2, r1, r2 => by
    cases e <;> first | exact absurd (show false = true from hs) Bool.false_ne_true | skip
    rename_i b
    have hs' : (a == b) = true := hs
    cases h1; cases h2; cases r1; cases r2
    rw [← hs']
    exact SeqAt.EqAt.bool_bool a b
  | .int a, e, _, A, x, y, v, u, _, hs, _, h1, h2, r1, r2 => by
    cases e <;> first | exact absurd (show false = true from hs) Bool.false_ne_true | skip
    rename_i b
    have hs' : (a == b) = true := hs
    cases h1; cases h2
    obtain ⟨t, rfl⟩ := r1
    obtain ⟨t', rfl⟩ := r2
    rw [← hs']
    exact SeqAt.EqAt.int_int a t b t'
  | .str a, e, _, A, x, y, v, u, _, hs, _, h1, h2, r1, r2 => by
    cases e <;> first | exact absurd (show false = true from hs) Bool.false_ne_true | skip
    rename_i b
    have hs' : decide (a = b) = true := hs
    have e' := of_decide_eq_true hs'
    subst e'
    cases h1; cases h2
    obtain ⟨t, rfl⟩ := r1
    obtain ⟨t', rfl⟩ := r2
    have z := SeqAt.EqAt.str_str (A := A) (s := s) a t a t'
    rwa [beq_self_eq_true] at z
  | .list ds, e, 0, A, x, y, v, u, _, hs, hl, h1, h2, r1, r2 => absurd (show false = true from by simpa [lowD] using hl) Bool.false_ne_true
  | .list ds, e, n + 1, A, x, y, v, u, hu, hs, hl, h1, h2, r1, r2 => by
    cases e <;> first | exact absurd (show false = true from by simpa [same] using hs) Bool.false_ne_true | skip
    rename_i es
    cases h1 with
    | lst h1 g1 =>
      cases h2 with
      | lst h2 g2 =>
        rename_i a xs b ys
        cases r1
        cases r2
        by_cases e : a = b
        · subst e
          exact SeqAt.EqAt.same _
        · refine SeqAt.EqAt.of_refs e ?_
          obtain ⟨us, k1, p1, _⟩ := I.list (SqL.of h1)
          obtain ⟨ws, k2, p2, _⟩ := I.list (SqL.of h2)
          have hs' : sameAll ds es = true := by simpa [same] using hs
          have hsz : us.toArray.size = ws.toArray.size := by
            rw [List.size_toArray, List.size_toArray, ← k1.length, ← k2.length, g1.length, g2.length, sameAll_len hs']
          have z := SeqAt.RcAt.lists (A := A) (e := fun _ => true) p1.isList p2.isList hsz (by omega) (fun j h1 h2 => by
            have k := eqAt_sameAll I ds es n A.in1 xs ys us ws (by show A.units + 1 + n < cLine; omega) hs' (by simpa [lowD] using hl) g1 g2 k1 k2 j (by simpa using h1) (by simpa using h2)
            simpa using k)
          rwa [range_all_true] at z
  | .tuple ds, e, 0, A, x, y, v, u, _, hs, hl, h1, h2, r1, r2 => absurd (show false = true from by simpa [lowD] using hl) Bool.false_ne_true
  | .tuple ds, e, n + 1, A, x, y, v, u, hu, hs, hl, h1, h2, r1, r2 => by
    cases e <;> first | exact absurd (show false = true from by simpa [same] using hs) Bool.false_ne_true | skip
    rename_i es
    cases h1 with
    | tup h1 g1 =>
      cases h2 with
      | tup h2 g2 =>
        rename_i a xs b ys
        cases r1
        cases r2
        by_cases e : a = b
        · subst e
          exact SeqAt.EqAt.same _
        · refine SeqAt.EqAt.of_refs e ?_
          obtain ⟨us, k1, p1, _⟩ := I.tuple (SqT.of h1)
          obtain ⟨ws, k2, p2, _⟩ := I.tuple (SqT.of h2)
          have hs' : sameAll ds es = true := by simpa [same] using hs
          have hsz : us.toArray.size = ws.toArray.size := by
            rw [List.size_toArray, List.size_toArray, ← k1.length, ← k2.length, g1.length, g2.length, sameAll_len hs']
          have z := SeqAt.RcAt.tuples (A := A) (s := s) (e := fun _ => true) (show s.heap.IsTuple a us.toArray from p1) (show s.heap.IsTuple b ws.toArray from p2) (by omega) (fun j h1 h2 => by
            have k := eqAt_sameAll I ds es n A.in1 xs ys us ws (by show A.units + 1 + n < cLine; omega) hs' (by simpa [lowD] using hl) g1 g2 k1 k2 j (by simpa using h1) (by simpa using h2)
            simpa using k)
          rw [range_all_true, hsz] at z
          simpa using z
  | .dict kvs, e, 0, A, x, y, v, u, _, hs, hl, h1, h2, r1, r2 => absurd (show false = true from by simpa [lowD] using hl) Bool.false_ne_true
  | .dict [], e, n + 1, A, x, y, v, u, hu, hs, hl, h1, h2, r1, r2 => by
    cases e with
    | dict k2 =>
      cases k2 with
      | nil =>
        cases h1 with
        | dic h1 =>
          cases h2 with
          | dic h2 =>
            cases r1
            cases r2
            exact dict_eqAt I (by omega) h1 h2
      | cons _ _ => exact absurd (show false = true from by simpa [same] using hs) Bool.false_ne_true
    | _ => exact absurd (show false = true from by simpa [same] using hs) Bool.false_ne_true
  | .dict (_ :: _), e, n + 1, A, x, y, v, u, hu, hs, hl, h1, h2, r1, r2 => absurd (show false = true from by simpa [lowD] using hl) Bool.false_ne_true
theorem eqAt_sameAll (I : Inv X pins σ H s) : ∀ (ds es : List D) (n : Nat) (A : Around) (xs ys : List V) (us ws : List Value), A.units + n < cLine → sameAll ds es = true → lowAll n ds = true → RpA X.K H xs ds → RpA X.K H ys es → Vals xs us → Vals ys ws →
    ∀ j (h1 : j < us.length) (h2 : j < ws.length), SeqAt.EqAt A s us[j] ws[j] true
  | [], es, n, A, xs, ys, us, ws, _, _, _, g1, _, k1, _, j, h1, _ => by cases g1; cases k1; exact absurd h1 (Nat.not_lt_zero j)
  | d :: ds, [], n, A, xs, ys, us, ws, _, hs, _, _, _, _, _, j, _, _ => absurd (show false = true from by simpa [sameAll] using hs) Bool.false_ne_true
  | d :: ds, e :: es, n, A, xs, ys, us, ws, hu, hs, hl, g1, g2, k1, k2, j, h1, h2 => by
    unfold sameAll at hs
    unfold lowAll at hl
    rw [Bool.and_eq_true] at hs hl
    cases g1 with
    | cons a1 b1 =>
      cases g2 with
      | cons a2 b2 =>
        cases k1 with
        | cons p1 q1 =>
          cases k2 with
          | cons p2 q2 =>
            cases j with
            | zero => exact eqAt_same I d e n A _ _ _ _ hu hs.1 hl.1 a1 a2 p1 p2
            | succ j => exact eqAt_sameAll I ds es n A _ _ _ _ hu hs.2 hl.2 b1 b2 q1 q2 j (Nat.lt_of_succ_lt_succ h1) (Nat.lt_of_succ_lt_succ h2)
end
/-- at the top: no dict -/
theorem rcAt_same (I : Inv X pins σ H s) (d e : D) (n : Nat) (A : Around) (x y : V) (v u : Value) (hu : A.units + (n + 1) < cLine) (hs : same d e = true) (hl : lowD (n + 1) d = true) (hd : isDic d = false) (h1 : Rp X.K H x d) (h2 : Rp X.K H y e) (r1 : RelV x v) (r2 : RelV y u) :
    SeqAt.RcAt A s v u true ∧ SeqAt.RcNeAt A s v u false := by
  cases d with
  | none =>
    cases e <;> first | exact absurd (show false = true from hs) Bool.false_ne_true | skip
    cases h1; cases h2; cases r1; cases r2
    exact ⟨SeqAt.RcAt.none_none, SeqAt.RcNeAt.none_none⟩
  | bool a =>
    cases e <;> first | exact absurd (show false = true from hs) Bool.false_ne_true | skip
    rename_i b
    have hs' : (a == b) = true := hs
    cases h1; cases h2; cases r1; cases r2
    have z1 := SeqAt.RcAt.bool_bool (A := A) (s := s) a b
    have z2 := SeqAt.RcNeAt.bool_bool (A := A) (s := s) a b
    rw [hs'] at z1 z2
    exact ⟨z1, z2⟩
  | int a =>
    cases e <;> first | exact absurd (show false = true from hs) Bool.false_ne_true | skip
    rename_i b
    have hs' : (a == b) = true := hs
    cases h1; cases h2
    obtain ⟨t, rfl⟩ := r1
    obtain ⟨t', rfl⟩ := r2
    have z1 := SeqAt.RcAt.int_int (A := A) (s := s) a t b t'
    have z2 := SeqAt.RcNeAt.int_int (A := A) (s := s) a t b t'
    rw [hs'] at z1 z2
    exact ⟨z1, z2⟩
  | str a =>
    cases e <;> first | exact absurd (show false = true from hs) Bool.false_ne_true | skip
    rename_i b
    have hs' : decide (a = b) = true := hs
    have e' := of_decide_eq_true hs'
    subst e'
    cases h1; cases h2
    obtain ⟨t, rfl⟩ := r1
    obtain ⟨t', rfl⟩ := r2
    have z1 := SeqAt.RcAt.str_str (A := A) (s := s) a t a t'
    have z2 := SeqAt.RcNeAt.str_str (A := A) (s := s) a t a t'
    rw [beq_self_eq_true] at z1 z2
    exact ⟨z1, z2⟩
  | list ds =>
    cases e <;> first | exact absurd (show false = true from by simpa [same] using hs) Bool.false_ne_true | skip
    rename_i es
    cases h1 with
    | lst h1 g1 =>
      cases h2 with
      | lst h2 g2 =>
        rename_i a xs b ys
        cases r1
        cases r2
        obtain ⟨us, k1, p1, _⟩ := I.list (SqL.of h1)
        obtain ⟨ws, k2, p2, _⟩ := I.list (SqL.of h2)
        have hs' : sameAll ds es = true := by simpa [same] using hs
        have hsz : us.toArray.size = ws.toArray.size := by
          rw [List.size_toArray, List.size_toArray, ← k1.length, ← k2.length, g1.length, g2.length, sameAll_len hs']
        have el : ∀ j (h1 : j < us.toArray.size) (h2 : j < ws.toArray.size), SeqAt.EqAt A.in1 s us.toArray[j] ws.toArray[j] ((fun _ => true) j) := fun j h1 h2 => by
          have k := eqAt_sameAll I ds es n A.in1 xs ys us ws (by show A.units + 1 + n < cLine; omega) hs' (by simpa [lowD] using hl) g1 g2 k1 k2 j (by simpa using h1) (by simpa using h2)
          simpa using k
        have z1 := SeqAt.RcAt.lists (A := A) (e := fun _ => true) p1.isList p2.isList hsz (by omega) el
        have z2 := SeqAt.RcNeAt.lists (A := A) (e := fun _ => true) p1.isList p2.isList hsz (by omega) el
        rw [range_all_true] at z1 z2
        exact ⟨z1, z2⟩
  | tuple ds =>
    cases e <;> first | exact absurd (show false = true from by simpa [same] using hs) Bool.false_ne_true | skip
    rename_i es
    cases h1 with
    | tup h1 g1 =>
      cases h2 with
      | tup h2 g2 =>
        rename_i a xs b ys
        cases r1
        cases r2
        obtain ⟨us, k1, p1, _⟩ := I.tuple (SqT.of h1)
        obtain ⟨ws, k2, p2, _⟩ := I.tuple (SqT.of h2)
        have hs' : sameAll ds es = true := by simpa [same] using hs
        have hsz : us.toArray.size = ws.toArray.size := by
          rw [List.size_toArray, List.size_toArray, ← k1.length, ← k2.length, g1.length, g2.length, sameAll_len hs']
        have el : ∀ j (h1 : j < us.toArray.size) (h2 : j < ws.toArray.size), SeqAt.EqAt A.in1 s us.toArray[j] ws.toArray[j] ((fun _ => true) j) := fun j h1 h2 => by
          have k := eqAt_sameAll I ds es n A.in1 xs ys us ws (by show A.units + 1 + n < cLine; omega) hs' (by simpa [lowD] using hl) g1 g2 k1 k2 j (by simpa using h1) (by simpa using h2)
          simpa using k
        have z1 := SeqAt.RcAt.tuples (A := A) (s := s) (e := fun _ => true) (show s.heap.IsTuple a us.toArray from p1) (show s.heap.IsTuple b ws.toArray from p2) (by omega) el
        have z2 := SeqAt.RcNeAt.tuples (A := A) (s := s) (e := fun _ => true) (show s.heap.IsTuple a us.toArray from p1) (show s.heap.IsTuple b ws.toArray from p2) (by omega) el
        rw [range_all_true, hsz] at z1 z2
        exact ⟨by simpa using z1, by simpa using z2⟩
  | dict kvs => exact absurd (show true = false from hd) (by decide)
end

mutual
theorem dp_of {K : PySem.W.Frag} {H : Hp} : ∀ (n : Nat) (d : D) (v : V), flatD n d = true → Rp K H v d → Dp K H v d
  | _, .none, _, _, h => by cases h; exact .non
  | _, .bool b, _, _, h => by cases h; exact .bl b
  | _, .int b, _, _, h => by cases h; exact .int b
  | _, .str b, _, _, h => by cases h; exact .str b
  | 0, .list ds, _, f, _ => absurd (show false = true from by simpa [flatD] using f) Bool.false_ne_true
  | n + 1, .list ds, _, f, h => by cases h with | lst h1 h2 => exact .lst (SqL.of h1) (dpAll_of n ds _ (by simpa [flatD] using f) h2)
  | 0, .tuple ds, _, f, _ => absurd (show false = true from by simpa [flatD] using f) Bool.false_ne_true
  | n + 1, .tuple ds, _, f, h => by cases h with | tup h1 h2 => exact .tup (SqT.of h1) (dpAll_of n ds _ (by simpa [flatD] using f) h2)
  | _, .dict _, _, f, _ => absurd (show false = true from by simpa [flatD] using f) Bool.false_ne_true
theorem dpAll_of {K : PySem.W.Frag} {H : Hp} : ∀ (n : Nat) (ds : List D) (vs : List V), flatAll n ds = true → RpA K H vs ds → DpAll K H vs ds
  | _, [], _, _, h => by cases h; exact .nil
  | n, d :: ds, _, f, h => by
    unfold flatAll at f
    rw [Bool.and_eq_true] at f
    cases h with
    | cons h1 h2 => exact .cons (dp_of n d _ f.1 h1) (dpAll_of n ds _ f.2 h2)
end
mutual
theorem flat_shape : ∀ (n : Nat) (d : D), flatD n d = true → d.canLay0 = true ∧ d.depth ≤ n
  | _, .none, _ => ⟨by simp [PyData.canLay0], by simp [PyData.depth]⟩
  | _, .bool b, _ => ⟨by simp [PyData.canLay0], by simp [PyData.depth]⟩
  | _, .int b, _ => ⟨by simp [PyData.canLay0], by simp [PyData.depth]⟩
  | _, .str b, h => ⟨by unfold flatD at h; unfold PyData.canLay0 PyData.strOk; exact h, by simp [PyData.depth]⟩
  | 0, .list ds, f => absurd (show false = true from by simpa [flatD] using f) Bool.false_ne_true
  | n + 1, .list ds, f => by
    obtain ⟨a, b⟩ := flat_shapes n ds (by simpa [flatD] using f)
    exact ⟨by simpa [PyData.canLay0] using a, by simpa [PyData.depth] using b⟩
  | 0, .tuple ds, f => absurd (show false = true from by simpa [flatD] using f) Bool.false_ne_true
  | n + 1, .tuple ds, f => by
    obtain ⟨a, b⟩ := flat_shapes n ds (by simpa [flatD] using f)
    exact ⟨by simpa [PyData.canLay0] using a, by simpa [PyData.depth] using b⟩
  | _, .dict _, f => absurd (show false = true from by simpa [flatD] using f) Bool.false_ne_true
theorem flat_shapes : ∀ (n : Nat) (ds : List D), flatAll n ds = true → PyData.canLayAll0 ds = true ∧ PyData.depthAll ds ≤ n
  | _, [], _ => ⟨by simp [PyData.canLayAll0], by simp [PyData.depthAll]⟩
  | n, d :: ds, f => by
    unfold flatAll at f
    rw [Bool.and_eq_true] at f
    obtain ⟨a, b⟩ := flat_shape n d f.1
    obtain ⟨a2, b2⟩ := flat_shapes n ds f.2
    refine ⟨by simp [PyData.canLayAll0, a, a2], ?_⟩
    simp only [PyData.depthAll]
    omega
end
section
variable {X : Cx}
def rEqW (K : PySem.W.Frag) (neg : Bool) : R2 := fun x y H Q => ∃ d e b, Rp K H x d ∧ Rp K H y e ∧ eqD d e = .ok b ∧ Q (.bl (if neg then !b else b)) H
theorem shaped_of {n : Nat} {d : D} (h : flatD n d = true) (hn : n ≤ 64) : SeqAt.shaped d = true := by
  obtain ⟨a, b⟩ := flat_shape n d h
  unfold SeqAt.shaped
  rw [a, Bool.true_and, decide_eq_true (by omega)]
theorem op_eqW (hu : X.A.units + 64 < cLine) : OpR X (compareOp .Eq) (rEqW X.K false) := by
  intro pins s σ H x y v u Q I rx ry h
  obtain ⟨d, e, b, h1, h2, he, q⟩ := h
  unfold eqD at he
  split at he
  · rename_i hc
    simp only [Bool.and_eq_true, Bool.not_eq_true'] at hc
    cases he
    exact (rcAt_same I d e 19 X.A x y v u (by omega) hc.1.1 hc.1.2 hc.2 h1 h2 rx ry).1 _ _ _ _ ⟨.bl true, H, I, rfl, q⟩
  · split at he
    · rename_i hc
      simp only [Bool.and_eq_true] at hc
      cases he
      exact op_eqD hu pins s σ H x y v u Q I rx ry ⟨d, e, dp_of 20 d x hc.1 h1, dp_of 20 e y hc.2 h2, shaped_of hc.1 (by decide), shaped_of hc.2 (by decide), q⟩
    · cases he
theorem op_neW (hu : X.A.units + 64 < cLine) : OpR X (compareOp .NotEq) (rEqW X.K true) := by
  intro pins s σ H x y v u Q I rx ry h
  obtain ⟨d, e, b, h1, h2, he, q⟩ := h
  unfold eqD at he
  split at he
  · rename_i hc
    simp only [Bool.and_eq_true, Bool.not_eq_true'] at hc
    cases he
    exact (rcAt_same I d e 19 X.A x y v u (by omega) hc.1.1 hc.1.2 hc.2 h1 h2 rx ry).2 _ _ _ _ ⟨.bl false, H, I, rfl, q⟩
  · split at he
    · rename_i hc
      simp only [Bool.and_eq_true] at hc
      cases he
      exact op_neD hu pins s σ H x y v u Q I rx ry ⟨d, e, dp_of 20 d x hc.1 h1, dp_of 20 e y hc.2 h2, shaped_of hc.1 (by decide), shaped_of hc.2 (by decide), q⟩
    · cases he
theorem os_eq (hu : X.A.units + 64 < cLine) : OpS X (compareOp .Eq) opEq := by
  refine ops_of _ (op_eqW hu) fun W σ H Hs x y d1 d2 Q s hx hy hp => ?_
  unfold opEq at hp
  cases e : eqD d1 d2 with
  | ok b => rw [e] at hp; exact ⟨d1, d2, b, hx.rp s, hy.rp s, e, hp _ H Hs (Grow.refl s) (.bl _)⟩
  | err c => unfold eqD at e; split at e <;> first | cases e | (split at e <;> cases e)
  | stk => rw [e] at hp; exact (show False from hp).elim
theorem os_ne (hu : X.A.units + 64 < cLine) : OpS X (compareOp .NotEq) opNe := by
  refine ops_of _ (op_neW hu) fun W σ H Hs x y d1 d2 Q s hx hy hp => ?_
  unfold opNe at hp
  cases e : eqD d1 d2 with
  | ok b => rw [e] at hp; exact ⟨d1, d2, b, hx.rp s, hy.rp s, e, hp _ H Hs (Grow.refl s) (.bl _)⟩
  | err c => unfold eqD at e; split at e <;> first | cases e | (split at e <;> cases e)
  | stk => rw [e] at hp; exact (show False from hp).elim
end
end PL

namespace PL
open PySem PySem.Spec PyProof.Rows L2

section
variable {X : Cx} {W : WX} {a b c : Expr} {f g h : EF} {pos p2 : Pos} {es : List Expr} {fs gs : LF}
/-! ### xs[i], xs[lo:hi], xs[::-1] -/
theorem atI_rp {K : PySem.W.Frag} {H : Hp} {vs : List V} {ds : List D} {i : Int} {d : D} (r : RpA K H vs ds) (h : PL.atI ds i = some d) : ∃ v, L2.atI vs i = some v ∧ Rp K H v d := by
  unfold PL.atI at h
  unfold L2.atI
  cases e : PL.ixN ds.length i with
  | none => rw [e] at h; cases h
  | some j =>
    rw [e] at h
    obtain ⟨v, h1, h2⟩ := r.get (show ds[j]? = some d from h)
    refine ⟨v, ?_, h2⟩
    have e' : L2.ixN vs.length i = some j := by rw [r.length]; exact e
    rw [e']
    exact h1
theorem toR_ok {A : Type} {o : Option A} {σ : St} {H Hs : Hp} {B : Type} {Rep : Hp → Hp → Hp → B → A → Prop} {Q : B → Hp → Prop} (h : Post X W σ H Hs Rep (toR o) Q) : ∃ d, o = some d ∧ Post X W σ H Hs Rep (.ok d) Q := by
  cases o with
  | none => exact (show False from h).elim
  | some d => exact ⟨d, rfl, h⟩
theorem ix_post {σ : St} {H Hs : Hp} {x y : V} {d1 d2 : D} {Q : VK} (s : Same Hs H) (hx : Bo X.K H Hs x d1) (hy : Bo X.K H Hs y d2) (hp : Post X W σ H Hs (RepE X.K) (opIx d1 d2) Q) : rIx X.K x y H Q := by
  unfold opIx at hp
  split at hp
  · rename_i xs i
    obtain ⟨d, e, hp⟩ := toR_ok hp
    obtain ⟨p, vs, rfl, h1, r1⟩ := hx.list s
    obtain ⟨v, h2, h3⟩ := atI_rp r1 e
    exact .inl ⟨p, vs, i, v, rfl, hy.int, SqL.of h1, h2, hp v H Hs (Grow.refl s) h3⟩
  · rename_i xs i
    obtain ⟨d, e, hp⟩ := toR_ok hp
    obtain ⟨p, vs, rfl, h1, r1⟩ := hx.tuple s
    obtain ⟨v, h2, h3⟩ := atI_rp r1 e
    exact .inr (.inl ⟨p, vs, i, v, rfl, hy.int, SqT.of h1, h2, hp v H Hs (Grow.refl s) h3⟩)
  · rename_i z i
    split at hp
    · rename_i hz
      cases e : PL.atI z.cps.toList i with
      | none => rw [e] at hp; exact (show False from hp).elim
      | some c =>
        rw [e] at hp
        exact .inr (.inr ⟨z, i, c, hx.str, hy.int, hz, e, hp _ H Hs (Grow.refl s) (.str _)⟩)
    · exact (show False from hp).elim
  · rename_i xs i
    obtain ⟨d, e, hp⟩ := toR_ok hp
    obtain ⟨p, vs, rfl, h1, r1⟩ := Bo.scr (xs := xs) hx s
    obtain ⟨v, h2, h3⟩ := atI_rp r1 e
    exact .inl ⟨p, vs, i, v, rfl, hy.int, h1, h2, hp v H Hs (Grow.refl s) h3⟩
  · exact (show False from hp).elim
theorem ppe_ix (ha : PPB X W a f) (hb : PPE X W b g) (hs : PlainIx b) : PPE X W (.Subscript a b pos) (e2 opIx f g) := by
  obtain ⟨ta, pa, ha⟩ := ha.out
  obtain ⟨tb, pb, hb⟩ := hb.out
  refine ⟨_, pe_ix ix_seq pa pb hs, fun e σ H Hs Q s hp => ?_⟩
  refine ha e σ H Hs _ s (Post.bind hp anE fun d1 x H1 Hs1 _ g1 r1 hp1 => ?_)
  refine hb e σ H1 Hs1 _ (s.grow g1) (Post.bind hp1 anE fun d2 y H2 Hs2 _ g2 r2 hp2 => ?_)
  exact ix_post g2.sub (r1.up g2) (.inl r2) hp2
theorem ppo_none : PPO X W none oN := ⟨_, po_none, fun e σ H Hs Q s hp => hp _ H Hs (Grow.refl s.sub) rfl⟩
theorem ppo_some (ha : PPE X W a f) : PPO X W (some a) (oS f) := by
  obtain ⟨ta, pa, ha⟩ := ha.out
  refine ⟨_, po_some pa, fun e σ H Hs Q s hp => ?_⟩
  refine ha e σ H Hs _ s (Post.bind hp anE fun d1 x H1 Hs1 _ g1 r1 hp1 => ?_)
  cases d1 <;> first
    | exact (show False from hp1).elim
    | skip
  exact ⟨_, r1.int', hp1 _ H1 Hs1 (Grow.refl g1.sub) rfl⟩
theorem cut_rp {K : PySem.W.Frag} {H : Hp} {vs : List V} {ds : List D} {lo hi : Option Int} (r : RpA K H vs ds) : RpA K H (cutV vs lo hi) (cut ds lo hi) := by
  rw [cut_eq]
  unfold cutV
  rw [r.length]
  exact (r.drop _).take _
theorem sl_post {σ : St} {H Hs : Hp} {x : V} {d : D} {lo hi : Option Int} {Q : VK} (s : Same Hs H) (hx : Bo X.K H Hs x d) (hp : Post X W σ H Hs (RepE X.K) (opSl d lo hi) Q) :
    rSlL X.K x lo hi H Q ∨ rSlA X.K x lo hi H Q ∨ rSlS x lo hi H Q := by
  unfold opSl at hp
  split at hp
  · obtain ⟨p, vs, rfl, h1, r1⟩ := hx.list s
    exact .inl ⟨p, vs, rfl, SqL.of h1, fun l hl => hp _ _ _ (Grow.new s hl) (.lst upd_same ((cut_rp r1).up (Grow.new (o := .lst (cutV vs lo hi)) s hl).sh))⟩
  · rename_i xs
    obtain ⟨p, vs, rfl, h1, r1⟩ := hx.tuple s
    refine .inr (.inl ⟨p, vs, rfl, SqT.of h1, fun hw => ?_, fun _ l hl => hp _ _ _ (Grow.new s hl) (.tup upd_same ((cut_rp r1).up (Grow.new (o := .tup (cutV vs lo hi)) s hl).sh))⟩)
    have e : cut xs lo hi = xs := by
      rw [cut_eq, ← r1.length, hw.1, hw.2, List.drop_zero, Nat.sub_zero, r1.length, List.take_length]
    rw [e] at hp
    rcases hx with hx | ⟨_, _, _, _, z, _⟩
    · exact hp _ H Hs (Grow.refl s) hx
    · cases z
  · rename_i z
    split at hp
    · rename_i hz
      refine .inr (.inr ⟨z, hx.str, hz, ?_⟩)
      have e : cutS z lo hi = ⟨(cut z.cps.toList lo hi).toArray⟩ := by
        unfold cutS
        rw [cut_eq]
        rfl
      rw [e]
      exact hp _ H Hs (Grow.refl s) (.str _)
    · exact (show False from hp).elim
  · rename_i xs
    obtain ⟨p, vs, rfl, h1, r1⟩ := Bo.scr (xs := xs) hx s
    exact .inl ⟨p, vs, rfl, h1, fun l hl => hp _ _ _ (Grow.new s hl) (.lst upd_same ((cut_rp r1).up (Grow.new (o := .lst (cutV vs lo hi)) s hl).sh))⟩
  · exact (show False from hp).elim
theorem ppe_sl {lo hi : Option Expr} {l u : Env → R (Option Int)} (ha : PPB X W a f) (hl : PPO X W lo l) (hh : PPO X W hi u) : PPE X W (.Subscript a (.Slice lo hi none p2) pos) (eSl f l u) := by
  obtain ⟨ta, pa, ha⟩ := ha.out
  obtain ⟨tl, pl, hl⟩ := hl.out
  obtain ⟨th, ph, hh⟩ := hh.out
  refine ⟨_, pe_slice (sl_list.or (sl_tupA.or sl_str)) pa pl ph, fun e σ H Hs Q s hp => ?_⟩
  refine ha e σ H Hs _ s (Post.bind hp anE fun d1 x H1 Hs1 _ g1 r1 hp1 => ?_)
  refine hl e σ H1 Hs1 _ (s.grow g1) (Post.bind hp1 anE fun d2 y H2 Hs2 _ g2 r2 hp2 => ?_)
  subst r2
  refine hh e σ H2 Hs2 _ (s.grow (g1.trans g2)) (Post.bind hp2 anE fun d3 z H3 Hs3 _ g3 r3 hp3 => ?_)
  subst r3
  exact sl_post g3.sub ((r1.up g2).up g3) hp3
theorem ppe_rev {k : Nat} {p1 p3 p4 : Pos} (ha : PPB X W a f) : PPE X W (.Subscript a (.Slice none none (some (.UnaryOp .USub (.Constant (.int 1) k p1) p3)) p4) pos) (e1 opRev f) := by
  obtain ⟨ta, pa, ha⟩ := ha.out
  refine ⟨_, pe_revL pa, fun e σ H Hs Q s hp => ?_⟩
  refine ha e σ H Hs _ s (Post.bind hp anE fun d1 x H1 Hs1 _ g1 r1 hp1 => ?_)
  cases d1 <;> first
    | exact (show False from hp1).elim
    | skip
  obtain ⟨p, vs, rfl, h1, r1⟩ := r1.list g1.sub
  exact ⟨p, vs, rfl, SqL.of h1, fun l hl => hp1 _ _ _ (Grow.new g1.sub hl) (.lst upd_same (r1.reverse.up (Grow.new (o := .lst vs.reverse) g1.sub hl).sh))⟩

/-! ### arguments and displays -/
theorem ppa_nil : PPA X W [] aN := ⟨⟨_, pa_nil, fun e σ H Hs Q s hp => hp _ H Hs (Grow.refl s.sub) .nil⟩, fun e ds h => by cases h; rfl⟩
theorem ppa_cons (ha : PPE X W a f) (hr : PPA X W es fs) (hs : starEach (a :: es) X.env = (false, eval a X.env) :: starEach es X.env := by rfl) : PPA X W (a :: es) (aC f fs) := by
  obtain ⟨ta, pa, ha⟩ := ha.out
  obtain ⟨⟨tr, pr, hr⟩, hl⟩ := hr
  refine ⟨⟨_, pa_cons pa pr hs, fun e σ H Hs Q s hp => ?_⟩, fun e ds h => ?_⟩
  · refine ha e σ H Hs _ s (Post.bind hp anE fun d1 x H1 Hs1 _ g1 r1 hp1 => ?_)
    refine hr e σ H1 Hs1 _ (s.grow g1) (Post.bind hp1 anE fun d2 y H2 Hs2 _ g2 r2 hp2 => ?_)
    exact hp2 _ H2 Hs2 (Grow.refl g2.sub) (.cons (r1.up g2.sh) r2)
  · unfold aC at h
    cases e1 : f e with
    | ok d =>
      rw [e1] at h
      cases e2 : fs e with
      | ok ds' =>
        rw [R.bind_ok, e2] at h
        cases h
        rw [List.length_cons, List.length_cons, hl e ds' e2]
      | err c => rw [R.bind_ok, e2] at h; cases h
      | stk => rw [R.bind_ok, e2] at h; cases h
    | err c => rw [e1] at h; cases h
    | stk => rw [e1] at h; cases h
theorem ppba_nil : PPBA X W [] aN := ⟨_, pa_nil, fun e σ H Hs Q s hp => hp _ H Hs (Grow.refl s.sub) .nil⟩
theorem ppba_cons (ha : PPB X W a f) (hr : PPBA X W es fs) (hs : starEach (a :: es) X.env = (false, eval a X.env) :: starEach es X.env := by rfl) : PPBA X W (a :: es) (aC f fs) := by
  obtain ⟨ta, pa, ha⟩ := ha.out
  obtain ⟨tr, pr, hr⟩ := hr.out
  refine ⟨_, pa_cons pa pr hs, fun e σ H Hs Q s hp => ?_⟩
  refine ha e σ H Hs _ s (Post.bind hp anE fun d1 x H1 Hs1 _ g1 r1 hp1 => ?_)
  refine hr e σ H1 Hs1 _ (s.grow g1) (Post.bind hp1 anE fun d2 y H2 Hs2 _ g2 r2 hp2 => ?_)
  exact hp2 _ H2 Hs2 (Grow.refl g2.sub) (.cons (r1.up g2) r2)
theorem ppe_list (ha : PPA X W es fs) (hz : es.length ≤ sizeLine := by decide) : PPE X W (.List es pos) (eL fs) := by
  obtain ⟨⟨ta, pa, ha⟩, hl⟩ := ha
  refine ⟨_, pe_lst pa, fun e σ H Hs Q s hp => ?_⟩
  refine ha e σ H Hs _ s (Post.bind hp anE fun d1 x H1 Hs1 he g1 r1 hp1 => ?_)
  exact ⟨by rw [r1.length, hl _ _ he]; exact hz, fun l nl => hp1 _ _ _ (Grow.new g1.sub nl) (.lst upd_same (r1.up (Grow.new (o := .lst x) g1.sub nl).sh))⟩
theorem ppf_list (ha : PPA X W es fs) (hz : es.length ≤ sizeLine := by decide) : PPF X W (.List es pos) fs := by
  obtain ⟨⟨ta, pa, ha⟩, hl⟩ := ha
  refine ⟨_, pe_lst pa, fun e σ H Hs Q s hp => ?_⟩
  have hp' : Post X W σ H Hs (RepF X.K) ((fs e).bind .ok) Q := by
    cases e1 : fs e with
    | ok a => rw [e1] at hp; exact hp
    | err c => rw [e1] at hp; exact hp
    | stk => rw [e1] at hp; exact hp
  refine ha e σ H Hs _ s (Post.bind (Rep2 := RepF X.K) hp' (fun H1 s1 H' Hs' v xs ⟨p, vs, h1, h2, h3⟩ => ⟨p, vs, h1, s1.free h2, h3⟩) fun d1 x H1 Hs1 he g1 r1 hp1 => ?_)
  refine ⟨by rw [r1.length, hl _ _ he]; exact hz, fun l nl => hp1 _ _ _ (Grow.gar g1.sub nl) ⟨l, x, rfl, nl, upd_same, g1.sub.free nl, r1⟩⟩
theorem ppe_tup {x1} (ha : PPA X W es fs) (hz : es.length ≤ sizeLine := by decide) : PPE X W (.Tuple es x1 pos) (eT fs) := by
  obtain ⟨⟨ta, pa, ha⟩, hl⟩ := ha
  refine ⟨_, pe_tup pa, fun e σ H Hs Q s hp => ?_⟩
  refine ha e σ H Hs _ s (Post.bind hp anE fun d1 x H1 Hs1 he g1 r1 hp1 => ?_)
  exact ⟨by rw [r1.length, hl _ _ he]; exact hz, fun l nl => hp1 _ _ _ (Grow.new g1.sub nl) (.tup upd_same (r1.up (Grow.new (o := .tup x) g1.sub nl).sh))⟩
theorem ppe_dic : PPE X W (.Dict [] [] pos) (eK (.dict [])) :=
  ⟨_, pe_dnewK, fun e σ H Hs Q s hp d hd => hp _ _ _ (Grow.new s.sub hd) (.dic upd_same)⟩

/-! ### calls -/
variable {x : Str} {p : Pos} {id T : String} {m : List D → R D}
theorem ppe_callB (hc : CaS X (.builtin id) m) (hm : X.mg x = none) (hv : bootBuiltins x = some (.builtin id)) (ha : PPBA X W (a :: es) fs) (hg : Gl X x := by rfl) (hn : x ≠ "__name__" := by decide) (hdb : (x == ("__debug__" : Str)) = false := by decide)
    (he : starEach (a :: es) X.env = (false, eval a X.env) :: starEach es X.env := by rfl) (hpl : (backTo pos (starEach es X.env)).any (·.1) = false := by rfl) : PPE X W (.Call (.Name x p) (a :: es) [] pos) (eC m fs) := by
  obtain ⟨ta, pa, ha⟩ := ha.out
  obtain ⟨r, hc, hr⟩ := hc
  refine ⟨_, pe_callB hc hg hm hv pa hn hdb he hpl, fun e σ H Hs Q s hp => ?_⟩
  refine ha e σ H Hs _ s (Post.bind hp anE fun d1 x H1 Hs1 _ g1 r1 hp1 => ?_)
  exact hr W σ H1 Hs1 x d1 Q g1.sub r1 hp1
theorem ppe_callTy (hc : CaS X (.type T) m) (hm : X.mg x = none) (hv : bootBuiltins x = some (.type T)) (ha : PPBA X W (a :: es) fs) (hg : Gl X x := by rfl) (hn : x ≠ "__name__" := by decide) (hdb : (x == ("__debug__" : Str)) = false := by decide)
    (he : starEach (a :: es) X.env = (false, eval a X.env) :: starEach es X.env := by rfl) (hpl : (backTo pos (starEach es X.env)).any (·.1) = false := by rfl) : PPE X W (.Call (.Name x p) (a :: es) [] pos) (eC m fs) := by
  obtain ⟨ta, pa, ha⟩ := ha.out
  obtain ⟨r, hc, hr⟩ := hc
  refine ⟨_, pe_callTy hc hg hm hv pa hn hdb he hpl, fun e σ H Hs Q s hp => ?_⟩
  refine ha e σ H Hs _ s (Post.bind hp anE fun d1 x H1 Hs1 _ g1 r1 hp1 => ?_)
  exact hr W σ H1 Hs1 x d1 Q g1.sub r1 hp1
theorem boA1 {K : PySem.W.Frag} {H Hs : Hp} {xs : List V} {d : D} (h : BoA K H Hs xs [d]) : ∃ v, xs = [v] ∧ Bo K H Hs v d := by
  cases h with | cons h1 h2 => cases h2; exact ⟨_, rfl, h1⟩
theorem boA2 {K : PySem.W.Frag} {H Hs : Hp} {xs : List V} {d e : D} (h : BoA K H Hs xs [d, e]) : ∃ v w, xs = [v, w] ∧ Bo K H Hs v d ∧ Bo K H Hs w e := by
  cases h with | cons h1 h2 => cases h2 with | cons h3 h4 => cases h4; exact ⟨_, _, rfl, h1, h3⟩
theorem cs_len : CaS X (.builtin "len") bLen := by
  refine ⟨_, call_len, fun W σ H Hs xs ds Q s hx hp => ?_⟩
  unfold bLen at hp
  split at hp
  · obtain ⟨v, rfl, hv⟩ := boA1 hx
    obtain ⟨p, vs, rfl, h1, r1⟩ := hv.list s
    exact ⟨_, vs.length, rfl, .inl ⟨vs, SqL.of h1, rfl⟩, by rw [r1.length]; exact hp _ H Hs (Grow.refl s) (.int _)⟩
  · obtain ⟨v, rfl, hv⟩ := boA1 hx
    obtain ⟨p, vs, rfl, h1, r1⟩ := hv.tuple s
    exact ⟨_, vs.length, rfl, .inr ⟨vs, SqT.of h1, rfl⟩, by rw [r1.length]; exact hp _ H Hs (Grow.refl s) (.int _)⟩
  · rename_i z
    split at hp
    · rename_i hz
      obtain ⟨v, rfl, hv⟩ := boA1 hx
      have e := hv.str
      subst e
      exact ⟨_, z.length, rfl, ⟨hz, rfl⟩, hp _ H Hs (Grow.refl s) (.int _)⟩
    · exact (show False from hp).elim
  · rename_i ys
    obtain ⟨v, rfl, hv⟩ := boA1 hx
    obtain ⟨p, vs, rfl, h1, r1⟩ := Bo.scr (xs := ys) hv s
    exact ⟨_, vs.length, rfl, .inl ⟨vs, h1, rfl⟩, by rw [r1.length]; exact hp _ H Hs (Grow.refl s) (.int _)⟩
  · exact (show False from hp).elim
theorem cs_int : CaS X (.type "int") bInt := by
  refine ⟨_, call_int1, fun W σ H Hs xs ds Q s hx hp => ?_⟩
  unfold bInt at hp
  split at hp
  · obtain ⟨v, rfl, hv⟩ := boA1 hx
    exact .inl ⟨_, by rw [hv.int], hp _ H Hs (Grow.refl s) (.int _)⟩
  · obtain ⟨v, rfl, hv⟩ := boA1 hx
    exact .inr ⟨_, by rw [hv.bool], hp _ H Hs (Grow.refl s) (.int _)⟩
  · exact (show False from hp).elim
theorem cs_abs : CaS X (.builtin "abs") bAbs := by
  refine ⟨_, call_abs, fun W σ H Hs xs ds Q s hx hp => ?_⟩
  unfold bAbs at hp
  split at hp
  · obtain ⟨v, rfl, hv⟩ := boA1 hx
    exact ⟨_, by rw [hv.int], hp _ H Hs (Grow.refl s) (.int _)⟩
  · exact (show False from hp).elim
theorem cs_max2 (hc : X.calm = true) : CaS X (.builtin "max") bMax2 := by
  refine ⟨_, call_max2 hc, fun W σ H Hs xs ds Q s hx hp => ?_⟩
  unfold bMax2 at hp
  split at hp
  · obtain ⟨v, w, rfl, hv, hw⟩ := boA2 hx
    exact ⟨_, _, by rw [hv.int, hw.int], hp _ H Hs (Grow.refl s) (.int _)⟩
  · exact (show False from hp).elim
theorem cs_min2 (hc : X.calm = true) : CaS X (.builtin "min") bMin2 := by
  refine ⟨_, call_min2 hc, fun W σ H Hs xs ds Q s hx hp => ?_⟩
  unfold bMin2 at hp
  split at hp
  · obtain ⟨v, w, rfl, hv, hw⟩ := boA2 hx
    exact ⟨_, _, by rw [hv.int, hw.int], hp _ H Hs (Grow.refl s) (.int _)⟩
  · exact (show False from hp).elim
theorem asIs_eq : ∀ {ds : List D} {ns : List Int}, asIs ds = .ok ns → ds = ns.map .int
  | [], ns, h => by cases h; rfl
  | .int i :: r, ns, h => by
    unfold asIs at h
    cases e : asIs r with
    | ok is => rw [e] at h; cases h; rw [asIs_eq e]; rfl
    | err c => rw [e] at h; cases h
    | stk => rw [e] at h; cases h
  | .none :: _, _, h => nomatch h
  | .bool _ :: _, _, h => nomatch h
  | .str _ :: _, _, h => nomatch h
  | .list _ :: _, _, h => nomatch h
  | .tuple _ :: _, _, h => nomatch h
  | .dict _ :: _, _, h => nomatch h
theorem asBs_eq : ∀ {ds : List D} {ns : List Bool}, asBs ds = .ok ns → ds = ns.map .bool
  | [], ns, h => by cases h; rfl
  | .bool i :: r, ns, h => by
    unfold asBs at h
    cases e : asBs r with
    | ok is => rw [e] at h; cases h; rw [asBs_eq e]; rfl
    | err c => rw [e] at h; cases h
    | stk => rw [e] at h; cases h
  | .none :: _, _, h => nomatch h
  | .int _ :: _, _, h => nomatch h
  | .str _ :: _, _, h => nomatch h
  | .list _ :: _, _, h => nomatch h
  | .tuple _ :: _, _, h => nomatch h
  | .dict _ :: _, _, h => nomatch h
theorem rp_ints {K : PySem.W.Frag} {H : Hp} : ∀ {ns : List Int} {vs : List V}, RpA K H vs (ns.map .int) → vs = ns.map V.int
  | [], _, h => by cases h; rfl
  | _ :: _, _, h => by cases h with | cons h1 h2 => rw [h1.int', rp_ints h2]; rfl
theorem rp_bools {K : PySem.W.Frag} {H : Hp} : ∀ {ns : List Bool} {vs : List V}, RpA K H vs (ns.map .bool) → vs = ns.map V.bl
  | [], _, h => by cases h; rfl
  | _ :: _, _, h => by cases h with | cons h1 h2 => rw [h1.bool', rp_bools h2]; rfl
theorem ints_post {σ : St} {H Hs : Hp} {ds : List D} {A B : Type} {Rep : Hp → Hp → Hp → B → A → Prop} {Q : B → Hp → Prop} {k : List Int → R A} (hp : Post X W σ H Hs Rep ((asIs ds).bind k) Q) : ∃ ns, ds = ns.map .int ∧ Post X W σ H Hs Rep (k ns) Q := by
  have no : ∀ (l : List D) (c : Str), asIs l ≠ .err c := fun l => by
    induction l with
    | nil => intro c h; cases h
    | cons d r ih =>
      intro c h
      cases d <;> first | (cases h; done) | skip
      unfold asIs at h
      cases e : asIs r with
      | ok is => rw [e] at h; cases h
      | err c' => exact ih c' e
      | stk => rw [e] at h; cases h
  cases e : asIs ds with
  | ok ns => rw [e] at hp; exact ⟨ns, asIs_eq e, hp⟩
  | err c => exact absurd e (no ds c)
  | stk => rw [e] at hp; exact (show False from hp).elim
theorem bools_post {σ : St} {H Hs : Hp} {ds : List D} {A B : Type} {Rep : Hp → Hp → Hp → B → A → Prop} {Q : B → Hp → Prop} {k : List Bool → R A} (hp : Post X W σ H Hs Rep ((asBs ds).bind k) Q) : ∃ ns, ds = ns.map .bool ∧ Post X W σ H Hs Rep (k ns) Q := by
  have no : ∀ (l : List D) (c : Str), asBs l ≠ .err c := fun l => by
    induction l with
    | nil => intro c h; cases h
    | cons d r ih =>
      intro c h
      cases d <;> first | (cases h; done) | skip
      unfold asBs at h
      cases e : asBs r with
      | ok is => rw [e] at h; cases h
      | err c' => exact ih c' e
      | stk => rw [e] at h; cases h
  cases e : asBs ds with
  | ok ns => rw [e] at hp; exact ⟨ns, asBs_eq e, hp⟩
  | err c => exact absurd e (no ds c)
  | stk => rw [e] at hp; exact (show False from hp).elim
theorem cs_sum (hc : X.calm = true) : CaS X (.builtin "sum") bSum := by
  refine ⟨_, cr_sum hc, fun W σ H Hs xs ds Q s hx hp => ?_⟩
  unfold bSum at hp
  split at hp
  · obtain ⟨v, rfl, hv⟩ := boA1 hx
    obtain ⟨ns, rfl, hq⟩ := ints_post hp
    obtain ⟨p, vs, rfl, h1, r1⟩ := hv.list s
    have e := rp_ints r1
    subst e
    exact ⟨p, ns, rfl, SqL.of h1, hq _ H Hs (Grow.refl s) (.int _)⟩
  · exact (show False from hp).elim
theorem cs_all (hc : X.calm = true) : CaS X (.builtin "all") bAll := by
  refine ⟨_, cr_all hc, fun W σ H Hs xs ds Q s hx hp => ?_⟩
  unfold bAll at hp
  split at hp
  · obtain ⟨v, rfl, hv⟩ := boA1 hx
    obtain ⟨ns, rfl, hq⟩ := bools_post hp
    obtain ⟨p, vs, rfl, h1, r1⟩ := hv.list s
    have e := rp_bools r1
    subst e
    exact ⟨p, ns, rfl, SqL.of h1, hq _ H Hs (Grow.refl s) (.bl _)⟩
  · exact (show False from hp).elim
theorem foldl_max : ∀ (r : List Int) (x : Int), (r.foldl (fun a b => if b > a then b else a) x = x ∨ r.foldl (fun a b => if b > a then b else a) x ∈ r) ∧ x ≤ r.foldl (fun a b => if b > a then b else a) x ∧ ∀ y ∈ r, y ≤ r.foldl (fun a b => if b > a then b else a) x
  | [], x => ⟨.inl rfl, Int.le_refl _, fun y h => nomatch h⟩
  | z :: r, x => by
    obtain ⟨h1, h2, h3⟩ := foldl_max r (if z > x then z else x)
    rw [List.foldl_cons]
    by_cases hz : z > x
    · rw [if_pos hz] at h1 h2 h3 ⊢
      refine ⟨.inr ?_, by omega, fun y hy => ?_⟩
      · rcases h1 with h1 | h1
        · rw [h1]; exact List.mem_cons_self
        · exact List.mem_cons_of_mem _ h1
      · rcases List.mem_cons.mp hy with e | hy
        · rw [e]; exact h2
        · exact h3 y hy
    · rw [if_neg hz] at h1 h2 h3 ⊢
      refine ⟨?_, h2, fun y hy => ?_⟩
      · rcases h1 with h1 | h1
        · exact .inl h1
        · exact .inr (List.mem_cons_of_mem _ h1)
      · rcases List.mem_cons.mp hy with e | hy
        · rw [e]; omega
        · exact h3 y hy
theorem foldl_min : ∀ (r : List Int) (x : Int), (r.foldl (fun a b => if b < a then b else a) x = x ∨ r.foldl (fun a b => if b < a then b else a) x ∈ r) ∧ r.foldl (fun a b => if b < a then b else a) x ≤ x ∧ ∀ y ∈ r, r.foldl (fun a b => if b < a then b else a) x ≤ y
  | [], x => ⟨.inl rfl, Int.le_refl _, fun y h => nomatch h⟩
  | z :: r, x => by
    obtain ⟨h1, h2, h3⟩ := foldl_min r (if z < x then z else x)
    rw [List.foldl_cons]
    by_cases hz : z < x
    · rw [if_pos hz] at h1 h2 h3 ⊢
      refine ⟨.inr ?_, by omega, fun y hy => ?_⟩
      · rcases h1 with h1 | h1
        · rw [h1]; exact List.mem_cons_self
        · exact List.mem_cons_of_mem _ h1
      · rcases List.mem_cons.mp hy with e | hy
        · rw [e]; exact h2
        · exact h3 y hy
    · rw [if_neg hz] at h1 h2 h3 ⊢
      refine ⟨?_, h2, fun y hy => ?_⟩
      · rcases h1 with h1 | h1
        · exact .inl h1
        · exact .inr (List.mem_cons_of_mem _ h1)
      · rcases List.mem_cons.mp hy with e | hy
        · rw [e]; omega
        · exact h3 y hy
theorem maxL_ok {ns : List Int} {m : Int} (h : maxL ns = some m) : 0 < ns.length ∧ m ∈ ns ∧ ∀ y ∈ ns, y ≤ m := by
  cases ns with
  | nil => cases h
  | cons x r =>
    obtain ⟨h1, h2, h3⟩ := foldl_max r x
    have e : r.foldl (fun a b => if b > a then b else a) x = m := Option.some.inj h
    rw [e] at h1 h2 h3
    refine ⟨Nat.succ_pos _, ?_, fun y hy => ?_⟩
    · rcases h1 with h1 | h1
      · rw [h1]; exact List.mem_cons_self
      · exact List.mem_cons_of_mem _ h1
    · rcases List.mem_cons.mp hy with q | hy
      · rw [q]; exact h2
      · exact h3 y hy
theorem minL_ok {ns : List Int} {m : Int} (h : minL ns = some m) : 0 < ns.length ∧ m ∈ ns ∧ ∀ y ∈ ns, m ≤ y := by
  cases ns with
  | nil => cases h
  | cons x r =>
    obtain ⟨h1, h2, h3⟩ := foldl_min r x
    have e : r.foldl (fun a b => if b < a then b else a) x = m := Option.some.inj h
    rw [e] at h1 h2 h3
    refine ⟨Nat.succ_pos _, ?_, fun y hy => ?_⟩
    · rcases h1 with h1 | h1
      · rw [h1]; exact List.mem_cons_self
      · exact List.mem_cons_of_mem _ h1
    · rcases List.mem_cons.mp hy with q | hy
      · rw [q]; exact h2
      · exact h3 y hy
theorem cs_maxL (hc : X.calm = true) : CaS X (.builtin "max") bMaxL := by
  refine ⟨_, cr_max hc, fun W σ H Hs xs ds Q s hx hp => ?_⟩
  unfold bMaxL at hp
  split at hp
  · obtain ⟨v, rfl, hv⟩ := boA1 hx
    obtain ⟨ns, rfl, hq⟩ := ints_post hp
    cases e : maxL ns with
    | none => rw [e] at hq; exact (show False from hq).elim
    | some m =>
      rw [e] at hq
      obtain ⟨p, vs, rfl, h1, r1⟩ := hv.list s
      have e2 := rp_ints r1
      subst e2
      obtain ⟨k1, k2, k3⟩ := maxL_ok e
      refine ⟨p, ns, rfl, SqL.of h1, k1, fun z hz hle => ?_⟩
      have ez : z = m := Int.le_antisymm (k3 z hz) (hle m k2)
      subst ez
      exact hq _ H Hs (Grow.refl s) (.int _)
  · exact (show False from hp).elim
theorem cs_minL (hc : X.calm = true) : CaS X (.builtin "min") bMinL := by
  refine ⟨_, cr_min hc, fun W σ H Hs xs ds Q s hx hp => ?_⟩
  unfold bMinL at hp
  split at hp
  · obtain ⟨v, rfl, hv⟩ := boA1 hx
    obtain ⟨ns, rfl, hq⟩ := ints_post hp
    cases e : minL ns with
    | none => rw [e] at hq; exact (show False from hq).elim
    | some m =>
      rw [e] at hq
      obtain ⟨p, vs, rfl, h1, r1⟩ := hv.list s
      have e2 := rp_ints r1
      subst e2
      obtain ⟨k1, k2, k3⟩ := minL_ok e
      refine ⟨p, ns, rfl, SqL.of h1, k1, fun z hz hle => ?_⟩
      have ez : z = m := Int.le_antisymm (hle m k2) (k3 z hz)
      subst ez
      exact hq _ H Hs (Grow.refl s) (.int _)
  · exact (show False from hp).elim
theorem cs_list : CaS X (.type "list") bList := by
  refine ⟨_, call_list_of, fun W σ H Hs xs ds Q s hx hp => ?_⟩
  unfold bList at hp
  split at hp
  · obtain ⟨v, rfl, hv⟩ := boA1 hx
    obtain ⟨p, vs, rfl, h1, r1⟩ := hv.list s
    exact ⟨p, vs, rfl, .inl (SqL.of h1), fun l hl => hp _ _ _ (Grow.new s hl) (.lst upd_same (r1.up (Grow.new (o := .lst vs) s hl).sh))⟩
  · obtain ⟨v, rfl, hv⟩ := boA1 hx
    obtain ⟨p, vs, rfl, h1, r1⟩ := hv.tuple s
    exact ⟨p, vs, rfl, .inr (SqT.of h1), fun l hl => hp _ _ _ (Grow.new s hl) (.lst upd_same (r1.up (Grow.new (o := .lst vs) s hl).sh))⟩
  · exact (show False from hp).elim
theorem cs_tup : CaS X (.type "tuple") bTup := by
  refine ⟨_, call_tuple_of, fun W σ H Hs xs ds Q s hx hp => ?_⟩
  unfold bTup at hp
  split at hp
  · obtain ⟨v, rfl, hv⟩ := boA1 hx
    obtain ⟨p, vs, rfl, h1, r1⟩ := hv.list s
    exact ⟨p, vs, rfl, .inl ⟨SqL.of h1, fun l hl => hp _ _ _ (Grow.new s hl) (.tup upd_same (r1.up (Grow.new (o := .tup vs) s hl).sh))⟩⟩
  · obtain ⟨v, rfl, hv⟩ := boA1 hx
    obtain ⟨p, vs, rfl, h1, r1⟩ := hv.tuple s
    refine ⟨p, vs, rfl, .inr ⟨SqT.of h1, ?_⟩⟩
    rcases hv with hx | ⟨_, _, _, _, z, _⟩
    · exact hp _ H Hs (Grow.refl s) hx
    · cases z
  · exact (show False from hp).elim
end
end PL

namespace PL
open PySem PySem.Spec PyProof.Rows L2

section
variable {X : Cx} {W : WX} {a b c : Expr} {f g h : EF} {pos p2 : Pos} {es : List Expr} {fs gs : LF} {x : Str} {p : Pos}
/-! ### isinstance with a built-in class -/
def kindN : D → String
  | .none => "NoneType" | .bool _ => "bool" | .int _ => "int" | .str _ => "str" | .list _ => "list" | .tuple _ => "tuple" | .dict _ => "dict"
def tyN : Ty → String | .int => "int" | .bool => "bool" | .str => "str" | .list => "list" | .tuple => "tuple"
theorem kit_tab : ∀ n ∈ ["NoneType", "bool", "int", "str", "list", "tuple", "dict"], ∀ t ∈ [Ty.int, .bool, .str, .list, .tuple], kitB n (tyN t) = some (match n, t with
    | "int", .int => true | "bool", .int => true | "bool", .bool => true | "str", .str => true | "list", .list => true | "tuple", .tuple => true | _, _ => false) := by decide +kernel
theorem kit_D (d : D) (t : Ty) : kitB (kindN d) (tyN t) = some (isTy t d) := by
  have h := kit_tab (kindN d) (by cases d <;> simp [kindN]) t (by cases t <;> simp)
  rw [h]
  cases d <;> cases t <;> rfl
theorem tyX_D {K : PySem.W.Frag} {H : Hp} {v : V} {d : D} (h : Rp K H v d) (hs : isScr d = false) : TyX K H v (.type (kindN d)) := by
  cases h with
  | non => exact .base .non
  | bl b => exact .base (.bl b)
  | int i => exact .base (.int i)
  | str s => exact .base (.str s)
  | lst h1 _ => exact .base (.lst h1)
  | tup h1 _ => exact .base (.tup h1)
  | dic h1 => exact .base (.dK h1)
  | scr _ _ => exact absurd (show true = false from hs) (by decide)
  | adr _ => exact absurd (show true = false from hs) (by decide)
theorem ppe_isi (t : Ty) {T : Str} {pT : Pos} (ha : PPB X W a f) (hm : X.mg x = none) (hv : bootBuiltins x = some (.builtin "isinstance")) (hmT : X.mg T = none) (hvT : bootBuiltins T = some (.type (tyN t)))
    (hg : Gl X x := by rfl) (hgT : Gl X T := by rfl) (hn : x ≠ "__name__" := by decide) (hdb : (x == ("__debug__" : Str)) = false := by decide) (hnT : T ≠ "__name__" := by decide) (hdbT : (T == ("__debug__" : Str)) = false := by decide)
    (he : starEach [a, .Name T pT] X.env = (false, eval a X.env) :: starEach [.Name T pT] X.env := by rfl) (he2 : starEach [.Name T pT] X.env = (false, eval (.Name T pT) X.env) :: starEach [] X.env := by rfl)
    (hpl : (backTo pos (starEach [.Name T pT] X.env)).any (·.1) = false := by rfl) : PPE X W (.Call (.Name x p) [a, .Name T pT] [] pos) (eC (bIsi t) (aC f aN)) := by
  obtain ⟨ta, pa, ha⟩ := ha.out
  refine ⟨_, pe_callB call_isi hg hm hv (pa_cons pa (pa_cons (pe_bltn hgT hmT hvT (v := .ty (tyN t)) rfl hnT hdbT) pa_nil he2) he) hn hdb he hpl, fun e σ H Hs Q s hp => ?_⟩
  have hp' : Post X W σ H Hs (RepE X.K) ((f e).bind fun d => bIsi t [d]) Q := by
    unfold eC aC aN at hp
    cases e1 : f e with
    | ok d => rw [e1] at hp; exact hp
    | err c => rw [e1] at hp; exact hp
    | stk => rw [e1] at hp; exact hp
  refine ha e σ H Hs _ s (Post.bind hp' anE fun d1 v H1 Hs1 _ g1 r1 hp1 => ?_)
  unfold bIsi at hp1
  dsimp only at hp1
  split at hp1
  · exact (show False from hp1).elim
  · rename_i hns
    have hns' : isScr d1 = false := by simpa using hns
    exact ⟨v, .ty (tyN t), .type (kindN d1), .type (tyN t), isTy t d1, rfl, .ty _, tyX_D (r1.rp g1.sub) hns', kit_ty (kit_D d1 t), hp1 _ H1 Hs1 (Grow.refl g1.sub) (.bl _)⟩

/-! ### a def's promise -/
/-- called with values that stand for data ds it answers m ds; all that stood stands; what comes back is apart from what the caller keeps for itself -/
def pureSp (K : PySem.W.Frag) (mg : Str → Option Value) (n : Nat) (m : List D → R D) : Sp := fun vs H Q E => ∃ Hs ds, Same Hs H ∧ RpA K Hs vs ds ∧ ds.length = n ∧
  (match m ds with
    | .ok d => ∀ v H' Hs', Grow H Hs H' Hs' → Rp K Hs' v d → Q v H'
    | .err c => ∀ H', Same H H' → E (clsV mg c) none H'
    | .stk => False)
abbrev FnP (P : Program) (w : World) (K : PySem.W.Frag) (mg : Str → Option Value) (base : Heap) (k : Nat) (f : Addr) (fd : FuncData) (ps : List Str) (m : List D → R D) : Prop :=
  FnOk P w K mg base (L2.CX P w) k f fd ps (pureSp K mg ps.length m)
variable {k : Nat} {fa : Addr} {fd : FuncData} {ps : List Str} {m : List D → R D}
theorem aC_len {e : Env} {ds : List D} (ha : PPA X W es fs) (h : fs e = .ok ds) : ds.length = es.length := ha.len e ds h
theorem ppe_call (F : FnP X.prog X.w X.K X.mg X.base k fa fd ps m) (hr : Room k X.A) (hm : X.mg x = some (.ref fa)) (hk : PySem.W.keepIn X.K (.ref fa) = true) (hb : Binds X.K fd ps []) (tk : Takes X W) (ha : PPA X W (a :: es) fs)
    (hl : (a :: es).length = ps.length := by rfl) (hg : Gl X x := by rfl) (hdb : (x == ("__debug__" : Str)) = false := by decide)
    (he : starEach (a :: es) X.env = (false, eval a X.env) :: starEach es X.env := by rfl) (hpl : (backTo pos (starEach es X.env)).any (·.1) = false := by rfl) : PPE X W (.Call (.Name x p) (a :: es) [] pos) (eC m fs) := by
  have hA := ha
  obtain ⟨⟨ta, pa, ha⟩, _⟩ := ha
  refine ⟨_, pe_callS F hr hg hm hk hb (passAt tk) pa hdb he hpl, fun e σ H Hs Q s hp => ?_⟩
  refine ha e σ H Hs _ s (Post.bind hp anE fun d1 vs H1 Hs1 hd g1 r1 hp1 => ?_)
  refine ⟨Hs1, d1, g1.sub, r1, by rw [hA.len e d1 hd]; exact hl, ?_⟩
  cases e2 : m d1 with
  | ok d => rw [e2] at hp1; exact hp1
  | err c => rw [e2] at hp1; exact hp1
  | stk => rw [e2] at hp1; exact hp1
/-- lists of our own may be looked at by the def that is called, where a scalar comes back -/
theorem ppe_callL (F : FnP X.prog X.w X.K X.mg X.base k fa fd ps m) (hr : Room k X.A) (hm : X.mg x = some (.ref fa)) (hk : PySem.W.keepIn X.K (.ref fa) = true) (hb : Binds X.K fd ps []) (tk : Takes X W) (ha : PPBA X W (a :: es) fs) (hn : ∀ e ds, fs e = .ok ds → ds.length = ps.length)
    (hg : Gl X x := by rfl) (hdb : (x == ("__debug__" : Str)) = false := by decide)
    (he : starEach (a :: es) X.env = (false, eval a X.env) :: starEach es X.env := by rfl) (hpl : (backTo pos (starEach es X.env)).any (·.1) = false := by rfl) : PPE X W (.Call (.Name x p) (a :: es) [] pos) (eCb m fs) := by
  obtain ⟨ta, pa, ha⟩ := ha.out
  refine ⟨_, pe_callS F hr hg hm hk hb (passAt tk) pa hdb he hpl, fun e σ H Hs Q s hp => ?_⟩
  refine ha e σ H Hs _ s (Post.bind hp anE fun d1 vs H1 Hs1 hd g1 r1 hp1 => ?_)
  refine ⟨H1, d1, Same.refl _, r1.rp g1.sub, hn e d1 hd, ?_⟩
  unfold scal at hp1
  cases e2 : m d1 with
  | ok d =>
    rw [e2] at hp1
    dsimp only [R.bind] at hp1
    intro v H' Hs' g rv
    cases e3 : isSc d with
    | true =>
      rw [e3, if_pos rfl] at hp1
      exact hp1 v H' Hs1 ⟨g.all, Same.refl _, g1.sub.trans g.all, fun _ _ _ n => n⟩ (rv.scal e3 Hs1)
    | false =>
      rw [e3, if_neg (by decide)] at hp1
      exact (show False from hp1).elim
  | err c => rw [e2] at hp1; exact hp1
  | stk => rw [e2] at hp1; exact hp1

/-! ### what is walked -/
/-- at each turn the i-th of xs comes, as long as Ht (a part of the heap) stands -/
def ItOk (K : PySem.W.Frag) (J : It) (Ht Hs : Hp) (xs : List D) : Prop :=
  ∀ i H2 Hs2, Same Ht H2 → Same Hs Hs2 → Same Hs2 H2 → (∀ (hi : i < xs.length), J.go i H2 ∧ ∀ x H3, J.yld i H2 x H3 → ∃ Hs3, Grow H2 Hs2 H3 Hs3 ∧ Rp K Hs3 x xs[i]) ∧ (i = xs.length → J.stop i H2)
def PostI (X : Cx) (W : WX) (sh : Bool) (σ : St) (H Hs : Hp) (r : R (List D)) (Rr : It → Hp → Prop) : Prop :=
  match r with
  | .ok xs => ∀ J H1 Hs1, Grow H Hs H1 Hs1 → ItOk X.K J (if sh then Hs1 else H1) Hs1 xs → Rr J H1
  | .err c => ∀ H', Same H H' → W (clsV X.mg c) none σ H'
  | .stk => False
/-- sh: what is walked stays for good (for a loop whose body stores) -/
structure PPI (X : Cx) (W : WX) (sh : Bool) (tg it : Expr) (f : LF) : Prop where
  out : ∃ t : TI, PI X tg it t ∧ ∀ e σ H Hs Rr, SR X.K e σ H Hs → PostI X W sh σ H Hs (f e) Rr → t σ H Rr
variable {tg : Expr}
theorem postI_bind {A : Type} {B : Type} {sh : Bool} {σ : St} {H Hs : Hp} {Rep1 : Hp → Hp → Hp → B → A → Prop} {r : R A} {k : A → R (List D)} {Rr : It → Hp → Prop} (hp : PostI X W sh σ H Hs (r.bind k) Rr)
    {T : B → Hp → Prop} (h : ∀ a b H1 Hs1, r = .ok a → Grow H Hs H1 Hs1 → Rep1 H H1 Hs1 b a → PostI X W sh σ H1 Hs1 (k a) Rr → T b H1) : Post X W σ H Hs Rep1 r T := by
  cases r with
  | ok a =>
    intro b H1 Hs1 g rp
    refine h a b H1 Hs1 rfl g rp ?_
    have hp' : PostI X W sh σ H Hs (k a) Rr := hp
    cases e : k a with
    | ok xs => rw [e] at hp'; exact fun J H2 Hs2 g2 io => hp' J H2 Hs2 (g.trans g2) io
    | err c => rw [e] at hp'; exact fun H' s' => hp' H' (g.all.trans s')
    | stk => rw [e] at hp'; exact hp'
  | err c => exact hp
  | stk => exact hp
theorem list_same {K : PySem.W.Frag} {H : Hp} {a : Addr} {xs ys : List V} (h : H a = some (.lst xs)) (h' : SqL K H a ys) (hk : ∀ o its n, K.lookup a = some o → o.data = .seq its n → H a = none) : ys = xs := by
  rcases h' with (h' | ⟨o, h'⟩) | ⟨o, its, n, h1, _, _, h4, _⟩
  · rw [h] at h'; cases h'; rfl
  · rw [h] at h'; cases h'
  · have z := hk o its n h1 h4; rw [h] at z; cases z
theorem itl_ok {K : PySem.W.Frag} {p : Addr} {vs : List V} {xs : List D} {Ht Hs : Hp} (h : Ht p = some (.lst vs)) (r : RpA K Hs vs xs) : ItOk K (Itl K p) Ht Hs xs := by
  intro i H2 Hs2 s1 s2 s3
  have h2 : SqL K H2 p vs := SqL.of (s1 _ _ h)
  refine ⟨fun hi => ?_, fun e => ⟨vs, h2, by rw [r.length, e]; exact Nat.le_refl _⟩⟩
  obtain ⟨v, hv, rv⟩ := r.get (List.getElem?_eq_getElem hi)
  refine ⟨⟨vs, v, h2, hv⟩, fun x H3 y => ?_⟩
  obtain ⟨rfl, y⟩ := y
  have e := y vs h2
  rw [hv] at e
  cases e
  exact ⟨Hs2, Grow.refl s3, rv.up s2⟩
theorem ppi_list (ha : PPB X W a f) : PPI X W false tg a (iL f) := by
  obtain ⟨ta, pa, ha⟩ := ha.out
  refine ⟨_, pi_list pa, fun e σ H Hs Rr s hp => ?_⟩
  refine ha e σ H Hs _ s (postI_bind hp fun d v H1 Hs1 _ g1 r1 hp1 => ?_)
  cases d <;> first
    | exact (show False from hp1).elim
    | skip
  obtain ⟨p, vs, rfl, h1, r1⟩ := r1.list g1.sub
  exact ⟨p, rfl, ⟨vs, SqL.of h1⟩, hp1 _ H1 Hs1 (Grow.refl g1.sub) (itl_ok h1 r1)⟩
theorem ppi_listS (ha : PPE X W a f) : PPI X W true tg a (iL f) := by
  obtain ⟨ta, pa, ha⟩ := ha.out
  refine ⟨_, pi_list pa, fun e σ H Hs Rr s hp => ?_⟩
  refine ha e σ H Hs _ s (postI_bind hp fun d v H1 Hs1 _ g1 r1 hp1 => ?_)
  cases d <;> first
    | exact (show False from hp1).elim
    | skip
  cases r1 with
  | lst h1 r1 => exact ⟨_, rfl, ⟨_, SqL.of (g1.sub _ _ h1)⟩, hp1 _ H1 Hs1 (Grow.refl g1.sub) (itl_ok h1 r1)⟩
theorem itt_ok {K : PySem.W.Frag} {p : Addr} {vs : List V} {xs : List D} {Ht Hs : Hp} (h : Ht p = some (.tup vs)) (r : RpA K Hs vs xs) : ItOk K (Itt K p) Ht Hs xs := by
  intro i H2 Hs2 s1 s2 s3
  have h2 : SqT K H2 p vs := SqT.of (s1 _ _ h)
  refine ⟨fun hi => ?_, fun e => ⟨vs, h2, by rw [r.length, e]; exact Nat.le_refl _⟩⟩
  obtain ⟨v, hv, rv⟩ := r.get (List.getElem?_eq_getElem hi)
  refine ⟨⟨vs, v, h2, hv⟩, fun x H3 y => ?_⟩
  obtain ⟨rfl, y⟩ := y
  have e := y vs h2
  rw [hv] at e
  cases e
  exact ⟨Hs2, Grow.refl s3, rv.up s2⟩
theorem ppi_tup {sh : Bool} (ha : PPE X W a f) : PPI X W sh tg a (iT f) := by
  obtain ⟨ta, pa, ha⟩ := ha.out
  refine ⟨_, pi_tup pa, fun e σ H Hs Rr s hp => ?_⟩
  refine ha e σ H Hs _ s (postI_bind hp fun d v H1 Hs1 _ g1 r1 hp1 => ?_)
  cases d <;> first
    | exact (show False from hp1).elim
    | skip
  cases r1 with
  | tup h1 r1 =>
    refine ⟨_, rfl, ⟨_, SqT.of (g1.sub _ _ h1)⟩, hp1 _ H1 Hs1 (Grow.refl g1.sub) (itt_ok ?_ r1)⟩
    cases sh
    · exact g1.sub _ _ h1
    · exact h1
theorem ppi_str {sh : Bool} (ha : PPE X W a f) : PPI X W sh tg a (iS f) := by
  obtain ⟨ta, pa, ha⟩ := ha.out
  refine ⟨_, pi_str pa, fun e σ H Hs Rr s hp => ?_⟩
  refine ha e σ H Hs _ s (postI_bind hp fun d v H1 Hs1 _ g1 r1 hp1 => ?_)
  obtain ⟨z, rfl⟩ : ∃ z, d = .str z := by
    cases d <;> first
      | exact (show False from hp1).elim
      | exact ⟨_, rfl⟩
  cases r1
  refine ⟨z, rfl, hp1 _ H1 Hs1 (Grow.refl g1.sub) fun i H2 Hs2 s1 s2 s3 => ⟨fun hi => ?_, fun e => ?_⟩⟩
  · rw [List.length_map, Array.length_toList] at hi
    refine ⟨hi, fun x H3 y => ?_⟩
    obtain ⟨rfl, c, hc, rfl⟩ := y
    refine ⟨Hs2, Grow.refl s3, ?_⟩
    rw [List.getElem_map]
    have e : z.cps.toList[i]'(by rw [Array.length_toList]; exact hi) = c := by
      rw [Array.getElem_toList]
      rw [Array.getElem?_eq_getElem hi] at hc
      exact Option.some.inj hc
    rw [e]
    exact .str _
  · rw [e, List.length_map, Array.length_toList]
    exact Nat.le_refl _
theorem rng_len (lo hi : Int) : (rng lo hi).length = (hi - lo).toNat := by unfold rng; rw [List.length_map, List.length_range]
theorem itr_ok {K : PySem.W.Frag} {lo hi : Int} {Ht Hs : Hp} : ItOk K (Itr lo (hi - lo).toNat) Ht Hs (rng lo hi) := by
  intro i H2 Hs2 s1 s2 s3
  refine ⟨fun h => ?_, fun e => by rw [e, rng_len]; exact Nat.le_refl _⟩
  have h' := h
  rw [rng_len] at h'
  refine ⟨h', fun x H3 y => ?_⟩
  obtain ⟨rfl, rfl⟩ := y
  refine ⟨Hs2, Grow.refl s3, ?_⟩
  have e : (rng lo hi)[i] = .int (lo + (i : Int)) := by
    simp [rng]
  rw [e]
  exact .int _
theorem smI_ok {n : Int} (h : smI n = true) : -(2 ^ 62) ≤ n ∧ n < 2 ^ 62 := of_decide_eq_true h
theorem ppi_r1 {sh : Bool} (hm : X.mg "range" = none) (ha : PPE X W a f) (hg : Gl X "range" := by rfl) (hs : starEach [a] X.env = [(false, eval a X.env)] := by rfl) : PPI X W sh tg (.Call (.Name "range" p) [a] [] pos) (iR1 f) := by
  obtain ⟨ta, pa, ha⟩ := ha.out
  refine ⟨_, pi_range1 hg hm (pa_cons pa pa_nil hs) hs, fun e σ H Hs Rr s hp => ?_⟩
  refine ha e σ H Hs _ s (postI_bind hp fun d v H1 Hs1 _ g1 r1 hp1 => ?_)
  obtain ⟨n, rfl⟩ : ∃ z, d = .int z := by
    cases d <;> first
      | exact (show False from hp1).elim
      | exact ⟨_, rfl⟩
  cases r1
  have hp2 : PostI X W sh σ H1 Hs1 (if smI n then R.ok (rng 0 n) else .stk) Rr := hp1
  split at hp2
  · rename_i hn
    obtain ⟨h1, h2⟩ := smI_ok hn
    have z := itr_ok (K := X.K) (lo := 0) (hi := n) (Ht := if sh then Hs1 else H1) (Hs := Hs1)
    rw [Int.sub_zero] at z
    exact ⟨n, rfl, h1, h2, hp2 _ H1 Hs1 (Grow.refl g1.sub) z⟩
  · exact (show False from hp2).elim
theorem ppi_r2 {sh : Bool} (hm : X.mg "range" = none) (ha : PPE X W a f) (hb : PPE X W b g) (hg : Gl X "range" := by rfl) (hs : starEach [a, b] X.env = (false, eval a X.env) :: starEach [b] X.env := by rfl)
    (hs1 : starEach [a, b] X.env = [(false, eval a X.env), (false, eval b X.env)] := by rfl) (hs2 : starEach [b] X.env = [(false, eval b X.env)] := by rfl) : PPI X W sh tg (.Call (.Name "range" p) [a, b] [] pos) (iR2 f g) := by
  obtain ⟨ta, pa, ha⟩ := ha.out
  obtain ⟨tb, pb, hb⟩ := hb.out
  refine ⟨_, pi_range2 hg hm (pa_cons pa (pa_cons pb pa_nil hs2) hs) hs1 hs2, fun e σ H Hs Rr s hp => ?_⟩
  refine ha e σ H Hs _ s (postI_bind hp fun d v H1 Hs1 _ g1 r1 hp1 => ?_)
  refine hb e σ H1 Hs1 _ (s.grow g1) (postI_bind hp1 fun d2 v2 H2 Hs2 _ g2 r2 hp2 => ?_)
  obtain ⟨m, rfl⟩ : ∃ z, d = .int z := by
    cases d <;> first
      | exact (show False from hp2).elim
      | exact ⟨_, rfl⟩
  obtain ⟨n, rfl⟩ : ∃ z, d2 = .int z := by
    cases d2 <;> first
      | exact (show False from hp2).elim
      | exact ⟨_, rfl⟩
  cases r1
  cases r2
  have hp3 : PostI X W sh σ H2 Hs2 (if smI m && smI n then R.ok (rng m n) else .stk) Rr := hp2
  split at hp3
  · rename_i hn
    rw [Bool.and_eq_true] at hn
    obtain ⟨h1, h2⟩ := smI_ok hn.1
    obtain ⟨h3, h4⟩ := smI_ok hn.2
    exact ⟨m, n, rfl, ⟨h1, h2, h3, h4⟩, hp3 _ H2 Hs2 (Grow.refl g2.sub) itr_ok⟩
  · exact (show False from hp3).elim
theorem zipD_len : ∀ (xs ys : List D), (zipD xs ys).length = min xs.length ys.length
  | [], _ => by simp [zipD]
  | _ :: _, [] => by simp [zipD]
  | x :: xs, y :: ys => by
    unfold zipD
    rw [List.length_cons, zipD_len xs ys, List.length_cons, List.length_cons]
    omega
theorem zipD_get : ∀ (xs ys : List D) (i : Nat) (h : i < (zipD xs ys).length) (h1 : i < xs.length) (h2 : i < ys.length), (zipD xs ys)[i] = .tuple [xs[i], ys[i]]
  | [], _, _, _, h1, _ => absurd h1 (Nat.not_lt_zero _)
  | _ :: _, [], _, _, _, h2 => absurd h2 (Nat.not_lt_zero _)
  | x :: xs, y :: ys, 0, _, _, _ => rfl
  | x :: xs, y :: ys, i + 1, h, h1, h2 => zipD_get xs ys i (by unfold zipD at h; exact Nat.lt_of_succ_lt_succ h) (Nat.lt_of_succ_lt_succ h1) (Nat.lt_of_succ_lt_succ h2)
theorem itz_ok {K : PySem.W.Frag} {p q : Addr} {vs ws : List V} {xs ys : List D} {Ht Hs : Hp} (h1 : Ht p = some (.lst vs)) (r1 : RpA K Hs vs xs) (h2 : Ht q = some (.lst ws)) (r2 : RpA K Hs ws ys) : ItOk K (Itz K p q) Ht Hs (zipD xs ys) := by
  intro i H2 Hs2 s1 s2 s3
  have k1 : SqL K H2 p vs := SqL.of (s1 _ _ h1)
  have k2 : SqL K H2 q ws := SqL.of (s1 _ _ h2)
  refine ⟨fun hi => ?_, fun e => ⟨vs, ws, k1, k2, ?_⟩⟩
  · have hi' := hi
    rw [zipD_len] at hi'
    have i1 : i < xs.length := by omega
    have i2 : i < ys.length := by omega
    obtain ⟨v, hv, rv⟩ := r1.get (List.getElem?_eq_getElem i1)
    obtain ⟨w, hw, rw'⟩ := r2.get (List.getElem?_eq_getElem i2)
    refine ⟨⟨vs, ws, v, w, k1, k2, hv, hw⟩, fun x H3 y => ?_⟩
    obtain ⟨T, x1, x2, rfl, nT, rfl, f1, f2⟩ := y
    have e1 := f1 vs k1
    have e2 := f2 ws k2
    rw [hv] at e1
    rw [hw] at e2
    cases e1
    cases e2
    have gr := Grow.new (o := .tup [v, w]) s3 nT
    refine ⟨_, gr, ?_⟩
    rw [zipD_get xs ys i hi i1 i2]
    exact .tup upd_same (.cons (rv.up (s2.trans gr.sh)) (.cons (rw'.up (s2.trans gr.sh)) .nil))
  · rw [zipD_len] at e
    rw [r1.length, r2.length]
    omega
theorem ppi_zip {kk : Nat} {tpos : Pos} {elts : List Expr} (hm : X.mg "zip" = none) (ha : PPB X W a f) (hb : PPB X W b g) (hg : Gl X "zip" := by rfl) (hs : starEach [a, b] X.env = (false, eval a X.env) :: starEach [b] X.env := by rfl) (hs2 : starEach [b] X.env = (false, eval b X.env) :: starEach [] X.env := by rfl)
    (hpl : (backTo pos (starEach [b] X.env)).any (·.1) = false := by rfl) : PPI X W false (.Tuple elts kk tpos) (.Call (.Name "zip" p) [a, b] [] pos) (iZ f g) := by
  obtain ⟨ta, pa, ha⟩ := ha.out
  obtain ⟨tb, pb, hb⟩ := hb.out
  refine ⟨_, pi_zip hg hm (pa_cons pa (pa_cons pb pa_nil hs2) hs) hs hpl, fun e σ H Hs Rr s hp => ?_⟩
  refine ha e σ H Hs _ s (postI_bind hp fun d v H1 Hs1 _ g1 r1 hp1 => ?_)
  refine hb e σ H1 Hs1 _ (s.grow g1) (postI_bind hp1 fun d2 v2 H2 Hs2 _ g2 r2 hp2 => ?_)
  cases d <;> first
    | exact (show False from hp2).elim
    | skip
  cases d2 <;> first
    | exact (show False from hp2).elim
    | skip
  obtain ⟨p, vs, rfl, h1, r1⟩ := r1.list g1.sub
  obtain ⟨q, ws, rfl, h2, r2⟩ := r2.list g2.sub
  exact ⟨p, q, vs, ws, rfl, SqL.of (g2.all _ _ h1), SqL.of h2, hp2 _ H2 Hs2 (Grow.refl g2.sub) (itz_ok (g2.all _ _ h1) (r1.up g2.sh) h2 r2)⟩
theorem ppi_zipS {kk : Nat} {tpos : Pos} {elts : List Expr} (hm : X.mg "zip" = none) (ha : PPE X W a f) (hb : PPE X W b g) (hg : Gl X "zip" := by rfl) (hs : starEach [a, b] X.env = (false, eval a X.env) :: starEach [b] X.env := by rfl) (hs2 : starEach [b] X.env = (false, eval b X.env) :: starEach [] X.env := by rfl)
    (hpl : (backTo pos (starEach [b] X.env)).any (·.1) = false := by rfl) : PPI X W true (.Tuple elts kk tpos) (.Call (.Name "zip" p) [a, b] [] pos) (iZ f g) := by
  obtain ⟨ta, pa, ha⟩ := ha.out
  obtain ⟨tb, pb, hb⟩ := hb.out
  refine ⟨_, pi_zip hg hm (pa_cons pa (pa_cons pb pa_nil hs2) hs) hs hpl, fun e σ H Hs Rr s hp => ?_⟩
  refine ha e σ H Hs _ s (postI_bind hp fun d v H1 Hs1 _ g1 r1 hp1 => ?_)
  refine hb e σ H1 Hs1 _ (s.grow g1) (postI_bind hp1 fun d2 v2 H2 Hs2 _ g2 r2 hp2 => ?_)
  cases d <;> first
    | exact (show False from hp2).elim
    | skip
  cases d2 <;> first
    | exact (show False from hp2).elim
    | skip
  cases r1 with
  | lst h1 r1 =>
    cases r2 with
    | lst h2 r2 =>
      have h1' := g2.sh _ _ h1
      exact ⟨_, _, _, _, rfl, SqL.of (g2.sub _ _ h1'), SqL.of (g2.sub _ _ h2), hp2 _ H2 Hs2 (Grow.refl g2.sub) (itz_ok h1' (r1.up g2.sh) h2 r2)⟩
theorem enD_len : ∀ (n : Nat) (xs : List D), (enD n xs).length = xs.length
  | _, [] => rfl
  | n, x :: xs => by unfold enD; rw [List.length_cons, enD_len, List.length_cons]
theorem enD_get : ∀ (n : Nat) (xs : List D) (i : Nat) (h : i < (enD n xs).length) (h1 : i < xs.length), (enD n xs)[i] = .tuple [.int ((n + i : Nat) : Int), xs[i]]
  | _, [], _, _, h1 => absurd h1 (Nat.not_lt_zero _)
  | n, x :: xs, 0, _, _ => rfl
  | n, x :: xs, i + 1, h, h1 => by
    have z := enD_get (n + 1) xs i (by unfold enD at h; exact Nat.lt_of_succ_lt_succ h) (Nat.lt_of_succ_lt_succ h1)
    have e : n + (i + 1) = n + 1 + i := by omega
    rw [e]
    exact z
theorem ite_ok {K : PySem.W.Frag} {p : Addr} {vs : List V} {xs : List D} {Ht Hs : Hp} (h1 : Ht p = some (.lst vs)) (r1 : RpA K Hs vs xs) : ItOk K (Ite K p) Ht Hs (enD 0 xs) := by
  intro i H2 Hs2 s1 s2 s3
  have k1 : SqL K H2 p vs := SqL.of (s1 _ _ h1)
  refine ⟨fun hi => ?_, fun e => ⟨vs, k1, by rw [r1.length, e, enD_len]; exact Nat.le_refl _⟩⟩
  have i1 : i < xs.length := by rw [enD_len] at hi; exact hi
  obtain ⟨v, hv, rv⟩ := r1.get (List.getElem?_eq_getElem i1)
  refine ⟨⟨vs, v, k1, hv⟩, fun x H3 y => ?_⟩
  obtain ⟨T, x1, rfl, nT, rfl, f1⟩ := y
  have e1 := f1 vs k1
  rw [hv] at e1
  cases e1
  have gr := Grow.new (o := .tup [.int (i : Nat), v]) s3 nT
  refine ⟨_, gr, ?_⟩
  rw [enD_get 0 xs i hi i1, Nat.zero_add]
  exact .tup upd_same (.cons (.int _) (.cons (rv.up (s2.trans gr.sh)) .nil))
theorem ppi_en {kk : Nat} {tpos : Pos} {elts : List Expr} (hm : X.mg "enumerate" = none) (ha : PPB X W a f) (hg : Gl X "enumerate" := by rfl) (hs : starEach [a] X.env = [(false, eval a X.env)] := by rfl) :
    PPI X W false (.Tuple elts kk tpos) (.Call (.Name "enumerate" p) [a] [] pos) (iE f) := by
  obtain ⟨ta, pa, ha⟩ := ha.out
  refine ⟨_, pi_enum hg hm (pa_cons pa pa_nil hs) hs, fun e σ H Hs Rr s hp => ?_⟩
  refine ha e σ H Hs _ s (postI_bind hp fun d v H1 Hs1 _ g1 r1 hp1 => ?_)
  cases d <;> first
    | exact (show False from hp1).elim
    | skip
  obtain ⟨p, vs, rfl, h1, r1⟩ := r1.list g1.sub
  exact ⟨p, vs, rfl, SqL.of h1, hp1 _ H1 Hs1 (Grow.refl g1.sub) (ite_ok h1 r1)⟩
theorem ppi_enS {kk : Nat} {tpos : Pos} {elts : List Expr} (hm : X.mg "enumerate" = none) (ha : PPE X W a f) (hg : Gl X "enumerate" := by rfl) (hs : starEach [a] X.env = [(false, eval a X.env)] := by rfl) :
    PPI X W true (.Tuple elts kk tpos) (.Call (.Name "enumerate" p) [a] [] pos) (iE f) := by
  obtain ⟨ta, pa, ha⟩ := ha.out
  refine ⟨_, pi_enum hg hm (pa_cons pa pa_nil hs) hs, fun e σ H Hs Rr s hp => ?_⟩
  refine ha e σ H Hs _ s (postI_bind hp fun d v H1 Hs1 _ g1 r1 hp1 => ?_)
  cases d <;> first
    | exact (show False from hp1).elim
    | skip
  cases r1 with
  | lst h1 r1 => exact ⟨_, _, rfl, SqL.of (g1.sub _ _ h1), hp1 _ H1 Hs1 (Grow.refl g1.sub) (ite_ok h1 r1)⟩
end
end PL

namespace PL
open PySem PySem.Spec PyProof.Rows L2

/-! ### slots stored -/
section
variable {K : PySem.W.Frag} {e : Env} {σ : St} {H Hs : Hp}
theorem get_set {A : Type} {l : List A} {i j : Nat} {x : A} : (l.set i x)[j]? = if i = j then (if j < l.length then some x else none) else l[j]? := by
  by_cases h : i = j
  · subst h
    rw [if_pos rfl]
    by_cases hl : i < l.length
    · rw [if_pos hl, List.getElem?_set_self hl]
    · rw [if_neg hl, List.getElem?_eq_none (by simpa using hl)]
  · rw [if_neg h, List.getElem?_set_ne h]
theorem SR.set (s : SR K e σ H Hs) (i : Nat) {v : V} {d : D} (r : Rp K Hs v d) : SR K (e.set i (.sh d)) (σ.set i (some v)) H Hs := by
  refine ⟨s.sub, by rw [List.length_set, List.length_set]; exact s.len, fun j d' h => ?_, fun j xs h => ?_, fun j k xs ys p h1 h2 h3 h4 => ?_⟩
  · rw [get_set] at h ⊢
    by_cases q : i = j
    · rw [if_pos q] at h ⊢
      split at h
      · rename_i hl
        cases h
        rw [if_pos (by rw [← s.len]; exact hl)]
        exact ⟨v, rfl, r⟩
      · cases h
    · rw [if_neg q] at h ⊢
      exact s.sh j d' h
  · rw [get_set] at h ⊢
    by_cases q : i = j
    · rw [if_pos q] at h
      split at h <;> cases h
    · rw [if_neg q] at h ⊢
      exact s.ow j xs h
  · rw [get_set] at h1 h2 h3 h4
    by_cases q : i = j
    · rw [if_pos q] at h1
      split at h1 <;> cases h1
    · by_cases q' : i = k
      · rw [if_pos q'] at h2
        split at h2 <;> cases h2
      · rw [if_neg q] at h1 h3
        rw [if_neg q'] at h2 h4
        exact s.ne j k xs ys p h1 h2 h3 h4
theorem SR.drop (s : SR K e σ H Hs) (i : Nat) {v : Option V} : SR K (e.set i .no) (σ.set i v) H Hs := by
  refine ⟨s.sub, by rw [List.length_set, List.length_set]; exact s.len, fun j d' h => ?_, fun j xs h => ?_, fun j k xs ys p h1 h2 h3 h4 => ?_⟩
  · rw [get_set] at h ⊢
    by_cases q : i = j
    · rw [if_pos q] at h
      split at h <;> cases h
    · rw [if_neg q] at h ⊢
      exact s.sh j d' h
  · rw [get_set] at h ⊢
    by_cases q : i = j
    · rw [if_pos q] at h
      split at h <;> cases h
    · rw [if_neg q] at h ⊢
      exact s.ow j xs h
  · rw [get_set] at h1 h2 h3 h4
    by_cases q : i = j
    · rw [if_pos q] at h1
      split at h1 <;> cases h1
    · by_cases q' : i = k
      · rw [if_pos q'] at h2
        split at h2 <;> cases h2
      · rw [if_neg q] at h1 h3
        rw [if_neg q'] at h2 h4
        exact s.ne j k xs ys p h1 h2 h3 h4
/-- a list of our own comes to a slot -/
theorem SR.setOw (s : SR K e σ H Hs) (i : Nat) {p : Addr} {vs : List V} {xs : List D} (h1 : H p = some (.lst vs)) (h2 : Hs p = none) (h3 : RpA K Hs vs xs)
    (fr : ∀ (j : Nat) (ys : List D), e[j]? = some (.ow ys) → σ[j]? ≠ some (some (.ref p))) : SR K (e.set i (.ow xs)) (σ.set i (some (.ref p))) H Hs := by
  refine ⟨s.sub, by rw [List.length_set, List.length_set]; exact s.len, fun j d' h => ?_, fun j ys h => ?_, fun j k ys zs q g1 g2 g3 g4 => ?_⟩
  · rw [get_set] at h ⊢
    by_cases q : i = j
    · rw [if_pos q] at h
      split at h <;> cases h
    · rw [if_neg q] at h ⊢
      exact s.sh j d' h
  · rw [get_set] at h ⊢
    by_cases q : i = j
    · rw [if_pos q] at h ⊢
      split at h
      · rename_i hl
        cases h
        rw [if_pos (by rw [← s.len]; exact hl)]
        exact ⟨p, vs, rfl, h1, h2, h3⟩
      · cases h
    · rw [if_neg q] at h ⊢
      exact s.ow j ys h
  · rw [get_set] at g1 g2 g3 g4
    by_cases q1 : i = j
    · by_cases q2 : i = k
      · rw [← q1, ← q2]
      · rw [if_pos q1] at g3
        rw [if_neg q2] at g2 g4
        split at g3
        · cases g3
          exact absurd g4 (fr k zs g2)
        · cases g3
    · by_cases q2 : i = k
      · rw [if_pos q2] at g4
        rw [if_neg q1] at g1 g3
        split at g4
        · cases g4
          exact absurd g3 (fr j ys g1)
        · cases g4
      · rw [if_neg q1] at g1 g3
        rw [if_neg q2] at g2 g4
        exact s.ne j k ys zs q g1 g2 g3 g4
theorem SR.wip (s : SR K e σ H Hs) : ∀ vs : List Nat, SR K (wip vs e) (wipe σ vs) H Hs
  | [] => s
  | v :: vs => (SR.wip s vs).drop v
theorem wipe_in {σ : St} {i : Nat} : ∀ {vs : List Nat}, i ∈ vs → (wipe σ vs)[i]? = if i < σ.length then some none else none
  | [], h => nomatch h
  | v :: vs, h => by
    show ((wipe σ vs).set v none)[i]? = _
    rw [get_set, wipe_length]
    by_cases q : v = i
    · rw [if_pos q]
    · rw [if_neg q]
      exact wipe_in ((List.mem_cons.mp h).resolve_left fun z => q z.symm)
theorem wipe_wipe (σ : St) (vs : List Nat) : wipe (wipe σ vs) vs = wipe σ vs := by
  apply List.ext_getElem?
  intro j
  by_cases hj : j ∈ vs
  · rw [wipe_in hj, wipe_in hj, wipe_length]
  · rw [wipe_out hj]
theorem wipe_set {σ : St} {i : Nat} {v : Option V} {vs : List Nat} (h : i ∈ vs) : wipe (σ.set i v) vs = wipe σ vs := by
  apply List.ext_getElem?
  intro j
  by_cases hj : j ∈ vs
  · rw [wipe_in hj, wipe_in hj, List.length_set]
  · rw [wipe_out hj, wipe_out hj, get_set]
    rw [if_neg (fun z => hj (by rw [← z]; exact h))]
end

section
variable {X : Cx} {pos : Pos}
structure PPG (X : Cx) (tg : Expr) (sl : List Nat) (g : GF) : Prop where
  out : ∃ t : TG, PG X tg t ∧ ∀ (x : V) (d : D) (e : Env) (σ : St) (H Hs : Hp) (Q : St → Hp → Prop), SR X.K e σ H Hs → Rp X.K Hs x d →
    (match g d e with | .ok e' => ∀ σ', SR X.K e' σ' H Hs → (∀ vs, (∀ i ∈ sl, i ∈ vs) → wipe σ' vs = wipe σ vs) → (∀ (j : Nat) ys, e'[j]? = some (SV.ow ys) → e[j]? = some (SV.ow ys) ∧ σ'[j]? = σ[j]?) → Q σ' H | _ => False) → t x σ H Q
  ne : ∀ d e c, g d e ≠ .err c
structure PPGs (X : Cx) (ts : List Expr) (sl : List Nat) (gs : List GF) : Prop where
  out : ∃ t : TGs, PGs X ts t ∧ ∀ (xs : List V) (ds : List D) (e : Env) (σ : St) (H Hs : Hp) (Q : St → Hp → Prop), SR X.K e σ H Hs → RpA X.K Hs xs ds →
    (match gAll gs ds e with | .ok e' => ∀ σ', SR X.K e' σ' H Hs → (∀ vs, (∀ i ∈ sl, i ∈ vs) → wipe σ' vs = wipe σ vs) → (∀ (j : Nat) ys, e'[j]? = some (SV.ow ys) → e[j]? = some (SV.ow ys) ∧ σ'[j]? = σ[j]?) → Q σ' H | _ => False) → t xs σ H Q
  len : gs.length = ts.length
  ne : ∀ ds e c, gAll gs ds e ≠ .err c
theorem ppg_n (i : Nat) {x : Str} (hN : X.N.Nodup) (hx : Loc X.env.scope x := by first | exact Or.inl rfl | exact Or.inr rfl) (hi : X.N[i]? = some x := by rfl) (hf : X.fn x = true ∨ X.env.scope.names.lookup x = some .local := by first | exact .inl rfl | exact .inr rfl) : PPG X (.Name x pos) [i] (gN i) := by
  refine ⟨⟨_, pg_name hN hi hx hf, fun x d e σ H Hs Q s r h => ?_⟩, fun d e c h => nomatch h⟩
  refine h (σ.set i (some x)) (s.set i r) (fun vs hv => wipe_set (hv i (by simp))) fun j ys hj => ?_
  rw [get_set] at hj ⊢
  by_cases q : i = j
  · rw [if_pos q] at hj
    split at hj <;> cases hj
  · rw [if_neg q] at hj ⊢
    exact ⟨hj, rfl⟩
theorem ppgs_nil : PPGs X [] [] [] := by
  refine ⟨⟨_, pgs_nil, fun xs ds e σ H Hs Q s r h => ?_⟩, rfl, fun ds e c h => by cases ds <;> cases h⟩
  cases r with
  | nil => exact ⟨rfl, h σ s (fun _ _ => rfl) fun _ _ q => ⟨q, rfl⟩⟩
  | cons _ _ => exact h.elim
theorem ppgs_cons {tg : Expr} {ts : List Expr} {sl sl' : List Nat} {g : GF} {gs : List GF} (h1 : PPG X tg sl g) (h2 : PPGs X ts sl' gs) (hs : (assignEach (tg :: ts) X.env).map (·.2) = assign tg X.env :: (assignEach ts X.env).map (·.2) := by rfl) : PPGs X (tg :: ts) (sl ++ sl') (g :: gs) := by
  obtain ⟨⟨t1, p1, h1⟩, n1⟩ := h1
  obtain ⟨⟨t2, p2, h2⟩, hl, n2⟩ := h2
  refine ⟨⟨_, pgs_cons p1 p2 hs, fun xs ds e σ H Hs Q s r h => ?_⟩, by rw [List.length_cons, List.length_cons, hl], fun ds e c h => ?_⟩
  cases r with
  | nil => exact h.elim
  | cons r1 r2 =>
    rename_i v vs d ds
    have h' : (match (g d e).bind fun e' => gAll gs ds e' with | .ok e' => ∀ σ', SR X.K e' σ' H Hs → (∀ vs, (∀ i ∈ sl ++ sl', i ∈ vs) → wipe σ' vs = wipe σ vs) → (∀ (j : Nat) ys, e'[j]? = some (SV.ow ys) → e[j]? = some (SV.ow ys) ∧ σ'[j]? = σ[j]?) → Q σ' H | _ => False) := h
    refine ⟨v, vs, rfl, h1 v d e σ H Hs _ s r1 ?_⟩
    cases e1 : g d e with
    | ok e' =>
      rw [e1] at h'
      intro σ1 s1 w1 o1
      refine h2 vs ds e' σ1 H Hs Q s1 r2 ?_
      rw [R.bind_ok] at h'
      cases e2 : gAll gs ds e' with
      | ok e'' =>
        rw [e2] at h'
        exact fun σ2 s2 w2 o2 => h' σ2 s2 (fun vs hv => (w2 vs fun i hi => hv i (List.mem_append_right _ hi)).trans (w1 vs fun i hi => hv i (List.mem_append_left _ hi))) fun j ys hj => ⟨(o1 j ys (o2 j ys hj).1).1, (o2 j ys hj).2.trans (o1 j ys (o2 j ys hj).1).2⟩
      | err c => rw [e2] at h'; exact h'
      | stk => rw [e2] at h'; exact h'
    | err c => rw [e1] at h'; exact h'
    | stk => rw [e1] at h'; exact h'
  cases ds with
  | nil => cases h
  | cons d ds =>
    unfold gAll at h
    cases e1 : g d e with
    | ok e' => rw [e1] at h; exact n2 ds e' c h
    | err c' => exact n1 d e c' e1
    | stk => rw [e1] at h; cases h
theorem gAll_len : ∀ {gs : List GF} {ds : List D} {e e' : Env}, gAll gs ds e = .ok e' → ds.length = gs.length
  | [], [], _, _, _ => rfl
  | [], _ :: _, _, _, h => nomatch h
  | _ :: _, [], _, _, h => nomatch h
  | g :: gs, d :: ds, e, e', h => by
    unfold gAll at h
    cases e1 : g d e with
    | ok e2 => rw [e1] at h; rw [List.length_cons, List.length_cons, gAll_len h]
    | err c => rw [e1] at h; cases h
    | stk => rw [e1] at h; cases h
theorem ppg_t {es : List Expr} {k : Nat} {sl : List Nat} {gs : List GF} (hc : X.calm = true) (h : PPGs X es sl gs) (hn : (assignEach es X.env).length = es.length := by rfl) (hst : (assignEach es X.env).findIdx? (·.1) = none := by rfl) : PPG X (.Tuple es k pos) sl (gT gs) := by
  obtain ⟨⟨t, p, h⟩, hl, nn⟩ := h
  refine ⟨⟨_, pg_tup hc p hn hst, fun x d e σ H Hs Q s r hq => ?_⟩, fun d e c h => by cases d <;> first | (cases h; done) | exact nn _ e c h⟩
  cases d <;> first
    | exact (show False from hq).elim
    | skip
  rename_i ds
  cases r with
  | tup h1 r =>
    rename_i a vs
    have hq' : (match gAll gs ds e with | .ok e' => ∀ σ', SR X.K e' σ' H Hs → (∀ vs, (∀ i ∈ sl, i ∈ vs) → wipe σ' vs = wipe σ vs) → (∀ (j : Nat) ys, e'[j]? = some (SV.ow ys) → e[j]? = some (SV.ow ys) ∧ σ'[j]? = σ[j]?) → Q σ' H | _ => False) := hq
    refine ⟨a, vs, rfl, SqT.of (s.sub _ _ h1), ?_, h vs ds e σ H Hs Q s r hq'⟩
    cases e2 : gAll gs ds e with
    | ok e'' => rw [r.length, gAll_len e2, hl]
    | err c => rw [e2] at hq'; exact hq'.elim
    | stk => rw [e2] at hq'; exact hq'.elim
end

/-! ### comprehensions -/
section
variable {X : Cx} {W : WX} {elt tg iter : Expr} {ifs : List Expr} {scope : Scope} {own : List (Str × Nat)} {pos : Pos} {it : LF} {g : GF} {t : TF} {f : EF} {sl : List Nat}
abbrev noW : WX := fun _ _ _ _ => False
structure PPTs (X : Cx) (W : WX) (ifs : List Expr) (t : TF) : Prop where
  out : ∃ tt : TT, PTs X ifs tt ∧ ∀ e σ H Hs Q, SR X.K e σ H Hs → Post X W σ H Hs RepT (t e) Q → tt σ H Q
theorem ppts_nil : PPTs X W [] qY := ⟨_, pts_nil, fun e σ H Hs Q s hp => hp _ H Hs (Grow.refl s.sub) rfl⟩
theorem ppts_one {c : Expr} (h : PPT X W c t) : PPTs X W [c] t := let ⟨tt, p, h⟩ := h.out; ⟨tt, pts_one p, h⟩
theorem post_calm {A B : Type} {σ : St} {H Hs : Hp} {Rep : Hp → Hp → Hp → B → A → Prop} {r : R A} {Q : B → Hp → Prop} {a : A} (h : r.calm = .ok a) : r = .ok a := by
  cases r with
  | ok b => exact h
  | err c => cases h
  | stk => cases h
theorem ppf_comp (hN : X.N.Nodup) (hi : PPI X W false tg iter it) (ok : blkC X.N X.env.scope scope own = true)
    (hg : ∀ (s : Shared) (H : Hp) (C : Addr) (cl : List (Str × Addr)) (fp : List Addr), PPG (X.blk s H scope (compEnvC scope cl C X.env) fp) tg sl g)
    (ht : ∀ (s : Shared) (H : Hp) (C : Addr) (cl : List (Str × Addr)) (fp : List Addr), PPTs (X.blk s H scope (compEnvC scope cl C X.env) fp) noW ifs t)
    (he : ∀ (s : Shared) (H : Hp) (C : Addr) (cl : List (Str × Addr)) (fp : List Addr), PPE (X.blk s H scope (compEnvC scope cl C X.env) fp) noW elt f) (hsl : ∀ i ∈ sl, i ∈ own.map (·.2) := by decide)
    (hc : X.calm = true := by rfl) :
    ∃ tl, (∀ (hs : ∀ x, foldedSetIterable iter X.env x = pure x), PE X (.ListComp elt [⟨tg, iter, ifs, 0⟩] scope pos) tl) ∧
      (∀ {i : Nat} {y : Str} {py : Pos} {spos : Pos} (hs : ∀ x, foldedSetIterable iter X.env x = pure x) (hy : X.N[i]? = some y) (hyl : X.env.scope.names.lookup y = some .local)
        (hsw : swapsWith (.ListComp elt [⟨tg, iter, ifs, 0⟩] scope pos) (some (.Name y py)) spos.line X.env = pure true), PS X (.Assign [.Name y py] (.ListComp elt [⟨tg, iter, ifs, 0⟩] scope pos) spos) (tAsg tl (gName i))) ∧
      ∀ e σ H Hs Q, SR X.K e σ H Hs → Post X W σ H Hs (RepF X.K) (cmp it (own.map (·.2)) g t f e) Q → tl σ H Q := by
  obtain ⟨wi, pi, hi⟩ := hi.out
  have okB := blkOk_by ok
  have pg : ∀ (s : Shared) (H : Hp) (C : Addr) (cl : List (Str × Addr)) (fp : List Addr), PG (X.blk s H scope (compEnvC scope cl C X.env) fp) tg (fun v σ1 H1 Q1 => ∀ s H C cl fp, Classical.choose (hg s H C cl fp).out v σ1 H1 Q1) :=
    fun s H C cl fp => ⟨fun pins s1 σ1 H1 v u Q1 I r h => (Classical.choose_spec (hg s H C cl fp).out).1.run pins s1 σ1 H1 v u Q1 I r (h s H C cl fp)⟩
  have pt : ∀ (s : Shared) (H : Hp) (C : Addr) (cl : List (Str × Addr)) (fp : List Addr), PTs (X.blk s H scope (compEnvC scope cl C X.env) fp) ifs (fun σ1 H1 Q1 => ∀ s H C cl fp, Classical.choose (ht s H C cl fp).out σ1 H1 Q1) :=
    fun s H C cl fp => ⟨fun pins s1 σ1 H1 Q1 I h => (Classical.choose_spec (ht s H C cl fp).out).1.run pins s1 σ1 H1 Q1 I (h s H C cl fp)⟩
  have pe : ∀ (s : Shared) (H : Hp) (C : Addr) (cl : List (Str × Addr)) (fp : List Addr), PE (X.blk s H scope (compEnvC scope cl C X.env) fp) elt (fun σ1 H1 Q1 => ∀ s H C cl fp, Classical.choose (he s H C cl fp).out σ1 H1 Q1) :=
    fun s H C cl fp => ⟨fun pins s1 σ1 H1 Q1 I h => (Classical.choose_spec (he s H C cl fp).out).1.run pins s1 σ1 H1 Q1 I (h s H C cl fp)⟩
  refine ⟨_, fun hs => pe_lc hc hN pi okB pg pt pe hs, fun hs hy hyl hsw => ps_setLc hc hN hy hyl hsw pi okB pg pt pe hs, fun e σ H Hs Q s hp => ?_⟩
  -- the reading
  refine hi e σ H Hs _ s ?_
  unfold cmp at hp
  cases e1 : it e with
  | err c => rw [e1] at hp; exact hp
  | stk => rw [e1] at hp; exact hp
  | ok xs =>
    rw [e1, R.bind_ok] at hp
    split at hp
    · rename_i hz
      intro J H1 Hs1 g1 io D nD
      cases e2 : cLoop g t f (wip (own.map (·.2)) e) xs with
      | err c =>
        have no : ∀ (l : List PyData), cLoop g t f (wip (own.map (·.2)) e) l ≠ .err c := fun l => by
          induction l with
          | nil => exact fun h => nomatch h
          | cons x r ih =>
            unfold cLoop
            cases q1 : (g x (wip (own.map (·.2)) e)).calm with
            | err c' => exact absurd q1 R.calm_noerr
            | stk => exact fun h => nomatch h
            | ok a1 =>
              rw [R.bind_ok]
              cases q2 : (t a1).calm with
              | err c' => exact absurd q2 R.calm_noerr
              | stk => exact fun h => nomatch h
              | ok b =>
                rw [R.bind_ok]
                cases b with
                | false => exact ih
                | true =>
                  rw [if_pos rfl]
                  cases q3 : (f a1).calm with
                  | err c' => exact absurd q3 R.calm_noerr
                  | stk => exact fun h => nomatch h
                  | ok d =>
                    rw [R.bind_ok]
                    cases q4 : cLoop g t f (wip (own.map (·.2)) e) r with
                    | err c' => intro h; cases h; exact ih q4
                    | stk => exact fun h => nomatch h
                    | ok ds => exact fun h => nomatch h
        exact absurd e2 (no xs)
      | stk => rw [e2] at hp; exact (show False from hp).elim
      | ok tot =>
        rw [e2] at hp
        refine ⟨fun i m H2 => m = xs.length - i ∧ i ≤ xs.length ∧ ∃ Hs2 acc ads ods, Grow H1 Hs1 H2 Hs2 ∧ H2 D = some (.lst acc) ∧ Hs2 D = none ∧ RpA X.K Hs2 acc ads ∧ ads.length ≤ i ∧ cLoop g t f (wip (own.map (·.2)) e) (xs.drop i) = .ok ods ∧ tot = ads ++ ods,
          ⟨xs.length, rfl, Nat.zero_le _, Hs1, [], [], tot, Grow.gar g1.sub nD, upd_same, g1.sub.free nD, .nil, Nat.le_refl _, by rw [List.drop_zero]; exact e2, rfl⟩, fun i m H2 hW => ?_⟩
        obtain ⟨hm, hi', Hs2, acc, ads, ods, g2, hD, nD2, ra, hla, hc2, htot⟩ := hW
        obtain ⟨i1, i2⟩ := io i H2 Hs2 g2.all g2.sh g2.sub
        by_cases hlt : i < xs.length
        · right
          obtain ⟨go, yl⟩ := i1 hlt
          refine ⟨go, fun H3 => ∃ Hs3 acc ads ods, Grow H1 Hs1 H3 Hs3 ∧ H3 D = some (.lst acc) ∧ Hs3 D = none ∧ RpA X.K Hs3 acc ads ∧ ads.length ≤ i + 1 ∧ cLoop g t f (wip (own.map (·.2)) e) (xs.drop (i + 1)) = .ok ods ∧ tot = ads ++ ods,
            fun H3 h3 => ⟨xs.length - (i + 1), by omega, rfl, hlt, h3⟩, fun x H3 y => ?_⟩
          obtain ⟨Hs3, g3, rx⟩ := yl x H3 y
          rw [List.drop_eq_getElem_cons hlt] at hc2
          unfold cLoop at hc2
          have s3 : SR X.K (wip (own.map (·.2)) e) (wipe σ (own.map (·.2))) H3 Hs3 := ((s.grow g1).grow g2).grow g3 |>.wip _
          cases q1 : (g xs[i] (wip (own.map (·.2)) e)).calm with
          | err c => exact absurd q1 R.calm_noerr
          | stk => rw [q1] at hc2; cases hc2
          | ok ea =>
            rw [q1, R.bind_ok] at hc2
            have q1' : g xs[i] (wip (own.map (·.2)) e) = .ok ea := post_calm (B := Unit) (σ := σ) (H := H) (Hs := Hs) (Rep := fun _ _ _ _ _ => True) (Q := fun _ _ => True) q1
            intro zs zH zC zcl zfp
            refine (Classical.choose_spec (hg zs zH zC zcl zfp).out).2 x xs[i] _ _ H3 Hs3 _ s3 rx ?_
            rw [q1']
            intro σ4 s4 w4 _
            refine ⟨(w4 _ hsl).trans (wipe_wipe _ _), ?_⟩
            cases q2 : (t ea).calm with
            | err c => exact absurd q2 R.calm_noerr
            | stk => rw [q2] at hc2; cases hc2
            | ok b =>
              rw [q2, R.bind_ok] at hc2
              have q2' : t ea = .ok b := post_calm (B := Unit) (σ := σ) (H := H) (Hs := Hs) (Rep := fun _ _ _ _ _ => True) (Q := fun _ _ => True) q2
              intro zs zH zC zcl zfp
              refine (Classical.choose_spec (ht zs zH zC zcl zfp).out).2 ea σ4 H3 Hs3 _ s4 ?_
              rw [q2']
              intro b' H4 Hs4 g4 eb
              subst eb
              have hD4 : H4 D = some (.lst acc) := g4.all _ _ (g3.all _ _ hD)
              have nD3 : Hs3 D = none := g3.own _ _ hD nD2
              have nD4 : Hs4 D = none := g4.own _ _ (g3.all _ _ hD) nD3
              cases b' with
              | false =>
                rw [if_neg Bool.false_ne_true] at hc2 ⊢
                exact ⟨Hs4, acc, ads, ods, (g2.trans g3).trans g4, hD4, nD4, ra.up (g3.sh.trans g4.sh), Nat.le_succ_of_le hla, hc2, htot⟩
              | true =>
                rw [if_pos rfl] at hc2 ⊢
                cases q3 : (f ea).calm with
                | err c => exact absurd q3 R.calm_noerr
                | stk => rw [q3] at hc2; cases hc2
                | ok d =>
                  rw [q3, R.bind_ok] at hc2
                  have q3' : f ea = .ok d := post_calm (B := Unit) (σ := σ) (H := H) (Hs := Hs) (Rep := fun _ _ _ _ _ => True) (Q := fun _ _ => True) q3
                  intro zs zH zC zcl zfp
                  refine (Classical.choose_spec (he zs zH zC zcl zfp).out).2 ea σ4 H4 Hs4 _ (s4.grow g4) ?_
                  rw [q3']
                  intro y5 H5 Hs5 g5 ry
                  have hD5 : H5 D = some (.lst acc) := g5.all _ _ hD4
                  have nD5 : Hs5 D = none := g5.own _ _ hD4 nD4
                  refine ⟨acc, hD5, by rw [ra.length]; show ads.length < 16777216; have hz' : xs.length ≤ 16777216 := hz; omega, ?_⟩
                  cases q4 : cLoop g t f (wip (own.map (·.2)) e) (xs.drop (i + 1)) with
                  | err c => rw [q4] at hc2; cases hc2
                  | stk => rw [q4] at hc2; cases hc2
                  | ok ds =>
                    rw [q4] at hc2
                    cases hc2
                    have g25 := ((g2.trans g3).trans g4).trans g5
                    refine ⟨Hs5, acc ++ [y5], ads ++ [d], ds, ⟨fun p o hp => ?_, g25.sh, fun p o hp => ?_, g25.own⟩, upd_same, nD5, (ra.up ((g3.sh.trans g4.sh).trans g5.sh)).append (.cons ry .nil), by rw [List.length_append]; simpa using hla, rfl, by rw [htot, List.append_assoc]; rfl⟩
                    · rw [upd_ne (ne_of_none hp nD)]
                      exact g25.all _ _ hp
                    · rw [upd_ne (ne_of_none hp nD5)]
                      exact g25.sub _ _ hp
        · left
          have ei : i = xs.length := by omega
          refine ⟨i2 ei, ?_⟩
          rw [ei, List.drop_length] at hc2
          cases hc2
          rw [List.append_nil] at htot
          subst htot
          exact hp _ H2 Hs2 (g1.trans g2) ⟨D, acc, rfl, g1.all.free nD, hD, nD2, ra⟩
    · exact (show False from hp).elim
theorem PPF.of_comp {tl : TE} {ex : Expr} {l : LF} (h : PE X ex tl) (h2 : ∀ e σ H Hs Q, SR X.K e σ H Hs → Post X W σ H Hs (RepF X.K) (l e) Q → tl σ H Q) : PPF X W ex l := ⟨tl, h, h2⟩
/-- a new list as a datum -/
theorem PPF.e {ex : Expr} {l : LF} (h : PPF X W ex l) : PPE X W ex (eL l) := by
  obtain ⟨tl, p, h⟩ := h.out
  refine ⟨tl, p, fun e σ H Hs Q s hp => h e σ H Hs Q s ?_⟩
  unfold eL at hp
  cases e1 : l e with
  | err c => rw [e1] at hp; exact hp
  | stk => rw [e1] at hp; exact hp
  | ok xs =>
    rw [e1] at hp
    rintro v H' Hs' gr ⟨p, vs, rfl, n1, h1, n2, r⟩
    have s2 : Same (upd Hs' p (.lst vs)) H' := fun b o hb => by
      by_cases q : b = p
      · subst q; rw [upd_same] at hb; cases hb; exact h1
      · rw [upd_ne q] at hb; exact gr.sub _ _ hb
    refine hp _ H' (upd Hs' p (.lst vs)) ⟨gr.all, gr.sh.trans (same_upd n2), s2, fun b o hb nb => ?_⟩ (.lst upd_same (r.up (same_upd n2)))
    rw [upd_ne (ne_of_none hb n1)]
    exact gr.own b o hb nb
end
end PL

namespace PL
open PySem PySem.Spec PyProof.Rows L2

/-! ### statements -/
structure SB (K : PySem.W.Frag) (H0 Hb : Hp) (e : Env) (σ : St) (H Hs : Hp) : Prop where
  gr : Grow H0 Hb H Hs
  sr : SR K e σ H Hs
  new : ∀ (i : Nat) (xs : List D) (p : Addr), e[i]? = some (SV.ow xs) → σ[i]? = some (some (V.ref p)) → H0 p = none
abbrev RTT := Hp → Hp → Hp → V → D → Prop
def PostS (X : Cx) (W : WX) (RT : RTT) (H0 Hb : Hp) (o : Out) (Dn : Ends) : Prop :=
  match o with
  | .next e' => ∀ σ' H' Hs', SB X.K H0 Hb e' σ' H' Hs' → Dn.nx σ' H'
  | .ret d => ∀ v H' Hs', Grow H0 Hb H' Hs' → RT H0 H' Hs' v d → Dn.rt v H'
  | .brk e' => ∀ σ' H' Hs', SB X.K H0 Hb e' σ' H' Hs' → Dn.bk σ' H'
  | .cont e' => ∀ σ' H' Hs', SB X.K H0 Hb e' σ' H' Hs' → Dn.ct σ' H'
  | .err c => ∀ σ' H', Same H0 H' → Same Hb H' → W (clsV X.mg c) none σ' H'
  | .stk => False
structure PPS (X : Cx) (W : WX) (RT : RTT) (st : Stmt) (f : SF) : Prop where
  out : ∃ t : TS, PS X st t ∧ ∀ e σ H Hs H0 Hb Dn, SB X.K H0 Hb e σ H Hs → PostS X W RT H0 Hb (f e) Dn → t Dn σ H
structure PPSs (X : Cx) (W : WX) (RT : RTT) (st : List Stmt) (f : SF) : Prop where
  out : ∃ t : TS, PSs X st t ∧ ∀ e σ H Hs H0 Hb Dn, SB X.K H0 Hb e σ H Hs → PostS X W RT H0 Hb (f e) Dn → t Dn σ H
section
variable {K : PySem.W.Frag} {H0 Hb H Hs H1 Hs1 : Hp} {e : Env} {σ : St}
theorem SB.grow (s : SB K H0 Hb e σ H Hs) (g : Grow H Hs H1 Hs1) : SB K H0 Hb e σ H1 Hs1 := ⟨s.gr.trans g, s.sr.grow g, s.new⟩
theorem SB.set (s : SB K H0 Hb e σ H Hs) (i : Nat) {v : V} {d : D} (r : Rp K Hs v d) : SB K H0 Hb (e.set i (.sh d)) (σ.set i (some v)) H Hs := by
  refine ⟨s.gr, s.sr.set i r, fun j xs p h1 h2 => ?_⟩
  rw [get_set] at h1 h2
  by_cases q : i = j
  · rw [if_pos q] at h1
    split at h1 <;> cases h1
  · rw [if_neg q] at h1 h2
    exact s.new j xs p h1 h2
theorem SB.of {e' : Env} {σ' : St} (s : SB K H0 Hb e σ H Hs) (r : SR K e' σ' H Hs) (o : ∀ (j : Nat) ys, e'[j]? = some (SV.ow ys) → e[j]? = some (SV.ow ys) ∧ σ'[j]? = σ[j]?) : SB K H0 Hb e' σ' H Hs :=
  ⟨s.gr, r, fun i xs p h1 h2 => s.new i xs p (o i xs h1).1 ((o i xs h1).2.symm.trans h2)⟩
/-- the own list at slot i becomes another -/
theorem SB.mut (s : SB K H0 Hb e σ H Hs) {i : Nat} {xs xs' : List D} {p : Addr} {vs vs' : List V} (h1 : e[i]? = some (.ow xs)) (h2 : σ[i]? = some (some (.ref p))) (h3 : H p = some (.lst vs)) (h4 : Hs p = none) (r : RpA K Hs vs' xs') :
    SB K H0 Hb (e.set i (.ow xs')) σ (upd H p (.lst vs')) Hs := by
  have hi : i < e.length := (List.getElem?_eq_some_iff.mp h1).1
  have nw := s.new i xs p h1 h2
  refine ⟨⟨fun b o hb => ?_, s.gr.sh, fun b o hb => ?_, s.gr.own⟩, ⟨fun b o hb => ?_, by rw [List.length_set]; exact s.sr.len, fun j d hj => ?_, fun j ys hj => ?_, fun j k ys zs q g1 g2 g3 g4 => ?_⟩, fun j ys q g1 g2 => ?_⟩
  · rw [upd_ne (ne_of_none hb nw)]; exact s.gr.all _ _ hb
  · rw [upd_ne (ne_of_none hb h4)]; exact s.gr.sub _ _ hb
  · rw [upd_ne (ne_of_none hb h4)]; exact s.gr.sub _ _ hb
  · rw [get_set] at hj
    by_cases q : i = j
    · rw [if_pos q] at hj
      split at hj <;> cases hj
    · rw [if_neg q] at hj
      exact s.sr.sh j d hj
  · rw [get_set] at hj
    by_cases q : i = j
    · rw [if_pos q, if_pos (by rw [← q]; exact hi)] at hj
      cases hj
      exact ⟨p, vs', by rw [← q]; exact h2, upd_same, h4, r⟩
    · rw [if_neg q] at hj
      obtain ⟨p2, vs2, a1, a2, a3, a4⟩ := s.sr.ow j ys hj
      refine ⟨p2, vs2, a1, ?_, a3, a4⟩
      rw [upd_ne (fun z => q (s.sr.ne i j xs ys p h1 hj h2 (by rw [z] at a1; exact a1)))]
      exact a2
  · rw [get_set] at g1 g2
    have w : ∀ (j : Nat) ys, (if i = j then (if j < e.length then some (SV.ow xs') else none) else e[j]?) = some (SV.ow ys) → ∃ zs, e[j]? = some (SV.ow zs) := fun j ys hj => by
      by_cases q : i = j
      · rw [← q]; exact ⟨_, h1⟩
      · rw [if_neg q] at hj; exact ⟨_, hj⟩
    obtain ⟨a, ha⟩ := w j ys g1
    obtain ⟨b, hb⟩ := w k zs g2
    exact s.sr.ne j k a b q ha hb g3 g4
  · rw [get_set] at g1
    by_cases q' : i = j
    · rw [← q', h2] at g2
      cases g2
      exact nw
    · rw [if_neg q'] at g1
      exact s.new j ys q g1 g2
theorem SB.frz (s : SB K H0 Hb e σ H Hs) (i : Nat) : ∃ Hs', SB K H0 Hb (frz i e) σ H Hs' := by
  unfold PL.frz
  split
  · rename_i xs h1
    obtain ⟨p, vs, a1, a2, a3, a4⟩ := s.sr.ow i xs h1
    have hi : i < e.length := (List.getElem?_eq_some_iff.mp h1).1
    have sm : Same Hs (upd Hs p (.lst vs)) := same_upd a3
    have sb : Same (upd Hs p (.lst vs)) H := fun b o hb => by
      by_cases q : b = p
      · subst q; rw [upd_same] at hb; cases hb; exact a2
      · rw [upd_ne q] at hb; exact s.sr.sub _ _ hb
    refine ⟨upd Hs p (.lst vs), ⟨s.gr.all, s.gr.sh.trans sm, sb, fun b o hb nb => ?_⟩, ⟨sb, by rw [List.length_set]; exact s.sr.len, fun j d hj => ?_, fun j ys hj => ?_, fun j k ys zs q g1 g2 g3 g4 => ?_⟩, fun j ys q g1 g2 => ?_⟩
    · rw [upd_ne (ne_of_none hb (s.new i xs p h1 a1))]
      exact s.gr.own b o hb nb
    · rw [get_set] at hj
      by_cases q : i = j
      · rw [if_pos q, if_pos (by rw [← q]; exact hi)] at hj
        cases hj
        exact ⟨_, by rw [← q]; exact a1, .lst upd_same (a4.up sm)⟩
      · rw [if_neg q] at hj
        obtain ⟨v, b1, b2⟩ := s.sr.sh j d hj
        exact ⟨v, b1, b2.up sm⟩
    · rw [get_set] at hj
      by_cases q : i = j
      · rw [if_pos q] at hj
        split at hj <;> cases hj
      · rw [if_neg q] at hj
        obtain ⟨p2, vs2, b1, b2, b3, b4⟩ := s.sr.ow j ys hj
        refine ⟨p2, vs2, b1, b2, ?_, b4.up sm⟩
        rw [upd_ne (fun z => q (s.sr.ne i j xs ys p h1 hj a1 (by rw [z] at b1; exact b1)))]
        exact b3
    · rw [get_set] at g1 g2
      by_cases q1 : i = j
      · rw [if_pos q1] at g1
        split at g1 <;> cases g1
      · by_cases q2 : i = k
        · rw [if_pos q2] at g2
          split at g2 <;> cases g2
        · rw [if_neg q1] at g1
          rw [if_neg q2] at g2
          exact s.sr.ne j k ys zs q g1 g2 g3 g4
    · rw [get_set] at g1
      by_cases q1 : i = j
      · rw [if_pos q1] at g1
        split at g1 <;> cases g1
      · rw [if_neg q1] at g1
        exact s.new j ys q g1 g2
  · exact ⟨Hs, s⟩
end
section
variable {X : Cx} {W : WX} {RT : RTT} {H0 Hb : Hp} {pos : Pos}
theorem postS_bind {A B : Type} {σ : St} {H Hs : Hp} {e : Env} {Rep : Hp → Hp → Hp → B → A → Prop} {r : R A} {k : A → Out} {Dn : Ends} (s : SB X.K H0 Hb e σ H Hs) (hp : PostS X W RT H0 Hb (r.out k) Dn)
    {T : B → Hp → Prop} (h : ∀ a b H1 Hs1, r = .ok a → Grow H Hs H1 Hs1 → SB X.K H0 Hb e σ H1 Hs1 → Rep H H1 Hs1 b a → PostS X W RT H0 Hb (k a) Dn → T b H1) : Post X W σ H Hs Rep r T := by
  cases r with
  | ok a => exact fun b H1 Hs1 g rp => h a b H1 Hs1 rfl g (s.grow g) rp hp
  | err c => exact fun H' s' => hp σ H' (s.gr.all.trans s') ((s.gr.sh.trans s.gr.sub).trans s')
  | stk => exact hp
theorem ppss_nil : PPSs X W RT [] sNil := ⟨_, pss_nil, fun e σ H Hs H0 Hb Dn s hp => hp σ H Hs s⟩
theorem ppss_cons {st : Stmt} {rest : List Stmt} {f g : SF} (h1 : PPS X W RT st f) (h2 : PPSs X W RT rest g) : PPSs X W RT (st :: rest) (sSeq f g) := by
  obtain ⟨t1, p1, h1⟩ := h1.out
  obtain ⟨t2, p2, h2⟩ := h2.out
  refine ⟨_, pss_cons p1 p2, fun e σ H Hs H0 Hb Dn s hp => ?_⟩
  refine h1 e σ H Hs H0 Hb _ s ?_
  unfold sSeq at hp
  cases e1 : f e with
  | next e' => rw [e1] at hp; exact fun σ' H' Hs' s' => h2 e' σ' H' Hs' H0 Hb Dn s' hp
  | ret d => rw [e1] at hp; exact hp
  | brk d => rw [e1] at hp; exact hp
  | cont d => rw [e1] at hp; exact hp
  | err d => rw [e1] at hp; exact hp
  | stk => rw [e1] at hp; exact hp
theorem ppss_one {st : Stmt} {f : SF} (h : PPS X W RT st f) : PPSs X W RT [st] f := let ⟨t, p, h⟩ := h.out; ⟨t, pss_one p, h⟩
theorem pps_frz (i : Nat) {st : Stmt} {f : SF} (h : PPS X W RT st f) : PPS X W RT st (sFrz i f) := by
  obtain ⟨t, p, h⟩ := h.out
  refine ⟨t, p, fun e σ H Hs H0 Hb Dn s hp => ?_⟩
  obtain ⟨Hs', s'⟩ := s.frz i
  exact h _ σ H Hs' H0 Hb Dn s' hp
theorem pps_cont : PPS X W RT (.Continue pos) sCont := ⟨_, ps_continue, fun e σ H Hs H0 Hb Dn s hp => hp σ H Hs s⟩
theorem pps_brk : PPS X W RT (.Break pos) sBrk := ⟨_, ps_break, fun e σ H Hs H0 Hb Dn s hp => hp σ H Hs s⟩
variable {ex : Expr} {f : EF} {l : LF} {x : Str} {pos' : Pos}
theorem pps_set (i : Nat) (hN : X.N.Nodup) (ha : PPE X W ex f) (hx : Loc X.env.scope x := by first | exact Or.inl rfl | exact Or.inr rfl) (hi : X.N[i]? = some x := by rfl) (hs : swapsWith ex (some (.Name x pos')) pos.line X.env = pure false := by rfl)
    (hf : X.fn x = true ∨ X.env.scope.names.lookup x = some .local := by first | exact .inl rfl | exact .inr rfl) : PPS X W RT (.Assign [.Name x pos'] ex pos) (sSet (gN i) f) := by
  obtain ⟨ta, pa, ha⟩ := ha.out
  refine ⟨_, ps_set hN hi hx pa hs hf, fun e σ H Hs H0 Hb Dn s hp => ?_⟩
  refine ha e σ H Hs _ s.sr (postS_bind s hp fun d v H1 Hs1 _ g1 s1 r1 hp1 => ?_)
  exact hp1 _ H1 Hs1 (s1.set i r1)
theorem pps_setT {tg : Expr} {sl : List Nat} {g : GF} (hg : PPG X tg sl g) (ha : PPE X W ex f) (hs : swapsWithSole [tg] ex pos.line X.env = pure false := by rfl) (hw : swappedStores [tg] ex X.env = pure none := by rfl)
    (h1 : (assignEach [tg] X.env).map (·.2) = [assign tg X.env] := by rfl) : PPS X W RT (.Assign [tg] ex pos) (sSet g f) := by
  obtain ⟨ta, pa, ha⟩ := ha.out
  obtain ⟨⟨tg', pg, hg⟩, ng⟩ := hg
  refine ⟨_, ps_asg pa pg hs hw h1, fun e σ H Hs H0 Hb Dn s hp => ?_⟩
  refine ha e σ H Hs _ s.sr (postS_bind s hp fun d v H1 Hs1 _ g1 s1 r1 hp1 => ?_)
  refine hg v d e σ H1 Hs1 _ s1.sr r1 ?_
  cases e1 : g d e with
  | ok e' => rw [e1] at hp1; exact fun σ' r' w' o' => hp1 σ' H1 Hs1 (s1.of r' o')
  | err c => exact absurd e1 (ng d e c)
  | stk => rw [e1] at hp1; exact hp1
/-- name = a new list, that will be changed -/
theorem pps_own (i : Nat) (hN : X.N.Nodup) (ha : PPF X W ex l) (hx : Loc X.env.scope x := by first | exact Or.inl rfl | exact Or.inr rfl) (hi : X.N[i]? = some x := by rfl) (hs : swapsWith ex (some (.Name x pos')) pos.line X.env = pure false := by rfl)
    (hf : X.fn x = true ∨ X.env.scope.names.lookup x = some .local := by first | exact .inl rfl | exact .inr rfl) : PPS X W RT (.Assign [.Name x pos'] ex pos) (sOwn i l) := by
  obtain ⟨ta, pa, ha⟩ := ha.out
  refine ⟨_, ps_set hN hi hx pa hs hf, fun e σ H Hs H0 Hb Dn s hp => ?_⟩
  refine ha e σ H Hs _ s.sr (postS_bind s hp fun d v H1 Hs1 _ g1 s1 r1 hp1 => ?_)
  obtain ⟨p, vs, rfl, n1, h1, n2, r⟩ := r1
  have fr : ∀ (j : Nat) (ys : List D), e[j]? = some (.ow ys) → σ[j]? ≠ some (some (.ref p)) := fun j ys hj hq => by
    obtain ⟨p2, vs2, b1, b2, b3, b4⟩ := s.sr.ow j ys hj
    rw [hq] at b1
    cases b1
    rw [n1] at b2
    cases b2
  refine hp1 _ H1 Hs1 ⟨s1.gr, s1.sr.setOw i h1 n2 r fr, fun j xs q g1' g2' => ?_⟩
  rw [get_set] at g1' g2'
  by_cases z : i = j
  · rw [if_pos z] at g2'
    split at g2'
    · cases g2'
      exact s.gr.all.free n1
    · cases g2'
  · rw [if_neg z] at g1' g2'
    exact s.new j xs q g1' g2'
theorem pps_do (ha : PPE X W ex f) (hs : swapsWith ex none pos.line X.env = pure false := by rfl) : PPS X W RT (.Expr ex pos) (sDo f) := by
  obtain ⟨ta, pa, ha⟩ := ha.out
  refine ⟨_, ps_expr pa hs, fun e σ H Hs H0 Hb Dn s hp => ?_⟩
  exact ha e σ H Hs _ s.sr (postS_bind s hp fun d v H1 Hs1 _ g1 s1 r1 hp1 => hp1 σ H1 Hs1 s1)
theorem pps_ret (ha : PPE X W ex f) : PPS X W (RepE X.K) (.Return (some ex) pos) (sRet f) := by
  obtain ⟨ta, pa, ha⟩ := ha.out
  refine ⟨_, ps_ret pa, fun e σ H Hs H0 Hb Dn s hp => ?_⟩
  exact ha e σ H Hs _ s.sr (postS_bind s hp fun d v H1 Hs1 _ g1 s1 r1 hp1 => hp1 v H1 Hs1 s1.gr r1)
theorem pps_if {c : Expr} {t : TF} {a b : List Stmt} {fa fb : SF} (hc : PPT X W c t) (ha : PPSs X W RT a fa) (hb : PPSs X W RT b fb) : PPS X W RT (.If c a b pos) (sIf t fa fb) := by
  obtain ⟨tc, pc, hc⟩ := hc.out
  obtain ⟨ta, pa, ha⟩ := ha.out
  obtain ⟨tb, pb, hb⟩ := hb.out
  refine ⟨_, ps_if pc pa pb, fun e σ H Hs H0 Hb Dn s hp => ?_⟩
  refine hc e σ H Hs _ s.sr (postS_bind s hp fun d k H1 Hs1 _ g1 s1 r1 hp1 => ?_)
  subst r1
  cases k with
  | true => exact ha e σ H1 Hs1 H0 Hb Dn s1 hp1
  | false => exact hb e σ H1 Hs1 H0 Hb Dn s1 hp1
theorem SB.at (s : SB X.K H0 Hb e σ H Hs) {Hb' : Hp} (g : Grow H0 Hb H1 Hb') (s' : SB X.K H0 Hb' e' σ' H' Hs') : SB X.K H0 Hb e' σ' H' Hs' :=
  ⟨⟨s'.gr.all, g.sh.trans s'.gr.sh, s'.gr.sub, fun p o h n => s'.gr.own p o h (g.own p o h n)⟩, s'.sr, s'.new⟩
theorem pps_for {tg it : Expr} {body : List Stmt} {fi : LF} {g : GF} {fb : SF} {sl : List Nat} (hpo : PassesOwn (model X.prog X.w) X.A X.env X.xe) (hi : PPI X W true tg it fi) (hg : PPG X tg sl g) (hb : PPSs X W RT body fb)
    (hc : X.calm = true := by rfl) (hs : ∀ x, foldedSetIterable it X.env x = pure x := by intro _; rfl) : PPS X W RT (.For tg it body [] pos) (sFor fi g fb) := by
  obtain ⟨ti, pi, hi⟩ := hi.out
  obtain ⟨⟨tg', pg, hg⟩, ng⟩ := hg
  obtain ⟨tb, pb, hb⟩ := hb.out
  refine ⟨_, ps_for hpo hc pi pg pb hs, fun e σ H Hs H0 Hb Dn s hp => ?_⟩
  refine hi e σ H Hs _ s.sr ?_
  unfold sFor at hp
  cases e1 : fi e with
  | err c => rw [e1] at hp; exact fun H' s' => hp σ H' (s.gr.all.trans s') ((s.gr.sh.trans s.gr.sub).trans s')
  | stk => rw [e1] at hp; exact hp
  | ok xs =>
    rw [e1] at hp
    intro J H1 Hs1 g1 io
    have s1 := s.grow g1
    have gb : Grow H0 Hb H1 Hs1 := s1.gr
    refine ⟨fun i m σ2 H2 => m = xs.length - i ∧ i ≤ xs.length ∧ ∃ Hs2 e2, SB X.K H0 Hs1 e2 σ2 H2 Hs2 ∧ PostS X W RT H0 Hb (fLoop g fb (xs.drop i) e2) Dn,
      ⟨xs.length, rfl, Nat.zero_le _, Hs1, e, ⟨⟨gb.all, Same.refl _, gb.sub, fun _ _ _ n => n⟩, s1.sr, s1.new⟩, by rw [List.drop_zero]; exact hp⟩, fun i m σ2 H2 hW => ?_⟩
    obtain ⟨hm, hle, Hs2, e2, s2, hp2⟩ := hW
    obtain ⟨i1, i2⟩ := io i H2 Hs2 (s2.gr.sh.trans s2.gr.sub) s2.gr.sh s2.gr.sub
    by_cases hlt : i < xs.length
    · right
      obtain ⟨go, yl⟩ := i1 hlt
      refine ⟨go, fun σ3 H3 => ∃ Hs3 e3, SB X.K H0 Hs1 e3 σ3 H3 Hs3 ∧ PostS X W RT H0 Hb (fLoop g fb (xs.drop (i + 1)) e3) Dn, fun σ3 H3 h3 => ⟨xs.length - (i + 1), by omega, rfl, hlt, h3⟩, fun x H3 y => ?_⟩
      obtain ⟨Hs3, g3, rx⟩ := yl x H3 y
      have s3 := s2.grow g3
      rw [List.drop_eq_getElem_cons hlt] at hp2
      unfold fLoop at hp2
      refine hg x xs[i] e2 σ2 H3 Hs3 _ s3.sr rx ?_
      cases q1 : g xs[i] e2 with
      | err c => exact absurd q1 (ng _ _ c)
      | stk => rw [q1] at hp2; exact hp2
      | ok e3 =>
        rw [q1] at hp2
        intro σ3 r3 w3 o3
        have s4 : SB X.K H0 Hs1 e3 σ3 H3 Hs3 := s3.of r3 o3
        refine hb e3 σ3 H3 Hs3 H0 Hs1 _ s4 ?_
        have hp3 : PostS X W RT H0 Hb (match fb e3 with
          | .next e2 => fLoop g fb (xs.drop (i + 1)) e2
          | .cont e2 => fLoop g fb (xs.drop (i + 1)) e2
          | .brk e2 => .next e2
          | .ret d => .ret d
          | .err c => .err c
          | .stk => .stk) Dn := hp2
        cases q2 : fb e3 with
        | next e4 => rw [q2] at hp3; exact fun σ4 H4 Hs4 s5 => ⟨Hs4, e4, s5, hp3⟩
        | cont e4 => rw [q2] at hp3; exact fun σ4 H4 Hs4 s5 => ⟨Hs4, e4, s5, hp3⟩
        | brk e4 => rw [q2] at hp3; exact fun σ4 H4 Hs4 s5 => hp3 σ4 H4 Hs4 (s.at gb s5)
        | ret d => rw [q2] at hp3; exact fun v H4 Hs4 g4 rt => hp3 v H4 Hs4 ⟨g4.all, gb.sh.trans g4.sh, g4.sub, fun p o h n => g4.own p o h (gb.own p o h n)⟩ rt
        | err c => rw [q2] at hp3; exact fun σ' H' z1 z2 => hp3 σ' H' z1 (gb.sh.trans z2)
        | stk => rw [q2] at hp3; exact hp3
    · left
      have ei : i = xs.length := by omega
      refine ⟨i2 ei, ?_⟩
      rw [ei, List.drop_length] at hp2
      exact hp2 σ2 H2 Hs2 (s.at gb s2)
theorem pps_while {c : Expr} {t : TF} {body : List Stmt} {fb : SF} (hpo : PassesOwn (model X.prog X.w) X.A X.env X.xe) (hc : PPT X W c t) (hb : PPSs X W RT body fb) : PPS X W RT (.While c body [] pos) (sWhile t fb) := by
  obtain ⟨tc, pc, hc⟩ := hc.out
  obtain ⟨tb, pb, hb⟩ := hb.out
  refine ⟨_, ps_while hpo pc pb, fun e σ H Hs H0 Hb Dn s hp => ?_⟩
  unfold sWhile at hp
  split at hp
  · rename_i hex
    refine ⟨fun m σ2 H2 => ∃ Hs2 e2, SB X.K H0 Hb e2 σ2 H2 Hs2 ∧ PostS X W RT H0 Hb (wLoop t fb m e2) Dn, ⟨_, Hs, e, s, hp⟩, fun m σ2 H2 hW => ?_⟩
    obtain ⟨Hs2, e2, s2, hp2⟩ := hW
    cases m with
    | zero => exact (show False from hp2).elim
    | succ n =>
      refine hc e2 σ2 H2 Hs2 _ s2.sr (postS_bind s2 hp2 fun d k H3 Hs3 _ g3 s3 r3 hp3 => ?_)
      subst r3
      cases k with
      | false => exact hp3 σ2 H3 Hs3 s3
      | true =>
        rw [if_pos rfl]
        refine ⟨fun σ4 H4 => ∃ Hs4 e4, SB X.K H0 Hb e4 σ4 H4 Hs4 ∧ PostS X W RT H0 Hb (wLoop t fb n e4) Dn, fun σ4 H4 h4 => ⟨n, Nat.lt_succ_self n, h4⟩, hb e2 σ2 H3 Hs3 H0 Hb _ s3 ?_⟩
        have hp4 : PostS X W RT H0 Hb (match fb e2 with
          | .next e2 => wLoop t fb n e2
          | .cont e2 => wLoop t fb n e2
          | .brk e2 => .next e2
          | .ret d => .ret d
          | .err c => .err c
          | .stk => .stk) Dn := hp3
        cases q2 : fb e2 with
        | next e4 => rw [q2] at hp4; exact fun σ4 H4 Hs4 s5 => ⟨Hs4, e4, s5, hp4⟩
        | cont e4 => rw [q2] at hp4; exact fun σ4 H4 Hs4 s5 => ⟨Hs4, e4, s5, hp4⟩
        | brk e4 => rw [q2] at hp4; exact hp4
        | ret d => rw [q2] at hp4; exact hp4
        | err c => rw [q2] at hp4; exact hp4
        | stk => rw [q2] at hp4; exact hp4
  · exact (show False from hp).elim

/-- name = [..], the name a local that no comprehension asks -/
theorem pps_setC (i : Nat) {elt tg iter : Expr} {ifs : List Expr} {scope : Scope} {own : List (Str × Nat)} {cpos : Pos} {it : LF} {g : GF} {t : TF} {f : EF} {sl : List Nat} {x : Str} {py pos : Pos} (own' : List (Str × Nat) := own)
    (hN : X.N.Nodup) (hi : PPI X W false tg iter it) (ok : blkC X.N X.env.scope scope own = true)
    (hg : ∀ (s : Shared) (H : Hp) (C : Addr) (cl : List (Str × Addr)) (fp : List Addr), PPG (X.blk s H scope (compEnvC scope cl C X.env) fp) tg sl g)
    (ht : ∀ (s : Shared) (H : Hp) (C : Addr) (cl : List (Str × Addr)) (fp : List Addr), PPTs (X.blk s H scope (compEnvC scope cl C X.env) fp) noW ifs t)
    (he : ∀ (s : Shared) (H : Hp) (C : Addr) (cl : List (Str × Addr)) (fp : List Addr), PPE (X.blk s H scope (compEnvC scope cl C X.env) fp) noW elt f) (hsl : ∀ i ∈ sl, i ∈ own.map (·.2) := by decide)
    (hc : X.calm = true := by rfl) (hs : ∀ x, foldedSetIterable iter X.env x = pure x := by intro _; rfl) (hy : X.N[i]? = some x := by rfl) (hyl : X.env.scope.names.lookup x = some .local := by rfl)
    (hsw : swapsWith (.ListComp elt [⟨tg, iter, ifs, 0⟩] scope cpos) (some (.Name x py)) pos.line X.env = pure true := by exact sw_true rfl rfl rfl (by kernel_rfl)) :
    PPS X W RT (.Assign [.Name x py] (.ListComp elt [⟨tg, iter, ifs, 0⟩] scope cpos) pos) (sSet (gN i) (eL (cmp it (own.map (·.2)) g t f))) := by
  obtain ⟨tl, h1, h2, h3⟩ := ppf_comp (W := W) (pos := cpos) hN hi ok hg ht he hsl hc
  have F : ∀ e σ H Hs Q, SR X.K e σ H Hs → Post X W σ H Hs (RepE X.K) (eL (cmp it (own.map (·.2)) g t f) e) Q → tl σ H Q := by
    have z := (PPF.of_comp (W := W) (h1 hs) h3)
    intro e σ H Hs Q s hp
    refine h3 e σ H Hs Q s ?_
    unfold eL at hp
    cases e1 : cmp it (own.map (·.2)) g t f e with
    | err c => rw [e1] at hp; exact hp
    | stk => rw [e1] at hp; exact hp
    | ok xs =>
      rw [e1] at hp
      rintro v H' Hs' gr ⟨p, vs, rfl, n1, k1, n2, r⟩
      have s2 : Same (upd Hs' p (.lst vs)) H' := fun b o hb => by
        by_cases q : b = p
        · subst q; rw [upd_same] at hb; cases hb; exact k1
        · rw [upd_ne q] at hb; exact gr.sub _ _ hb
      refine hp _ H' (upd Hs' p (.lst vs)) ⟨gr.all, gr.sh.trans (same_upd n2), s2, fun b o hb nb => ?_⟩ (.lst upd_same (r.up (same_upd n2)))
      rw [upd_ne (ne_of_none hb n1)]
      exact gr.own b o hb nb
  refine ⟨_, h2 hs hy hyl hsw, fun e σ H Hs H0 Hb Dn s hp => ?_⟩
  refine F e σ H Hs _ s.sr (postS_bind s hp fun d v H1 Hs1 _ g1 s1 r1 hp1 => ?_)
  exact hp1 _ H1 Hs1 (s1.set i r1)
/-- a comprehension as a value -/
theorem ppe_comp {elt tg iter : Expr} {ifs : List Expr} {scope : Scope} {own : List (Str × Nat)} {cpos : Pos} {it : LF} {g : GF} {t : TF} {f : EF} {sl : List Nat}
    (hN : X.N.Nodup) (hi : PPI X W false tg iter it) (ok : blkC X.N X.env.scope scope own = true)
    (hg : ∀ (s : Shared) (H : Hp) (C : Addr) (cl : List (Str × Addr)) (fp : List Addr), PPG (X.blk s H scope (compEnvC scope cl C X.env) fp) tg sl g)
    (ht : ∀ (s : Shared) (H : Hp) (C : Addr) (cl : List (Str × Addr)) (fp : List Addr), PPTs (X.blk s H scope (compEnvC scope cl C X.env) fp) noW ifs t)
    (he : ∀ (s : Shared) (H : Hp) (C : Addr) (cl : List (Str × Addr)) (fp : List Addr), PPE (X.blk s H scope (compEnvC scope cl C X.env) fp) noW elt f) (hsl : ∀ i ∈ sl, i ∈ own.map (·.2) := by decide)
    (hc : X.calm = true := by rfl) (hs : ∀ x, foldedSetIterable iter X.env x = pure x := by intro _; rfl) :
    PPE X W (.ListComp elt [⟨tg, iter, ifs, 0⟩] scope cpos) (eL (cmp it (own.map (·.2)) g t f)) := by
  obtain ⟨tl, h1, h2, h3⟩ := ppf_comp (W := W) (pos := cpos) hN hi ok hg ht he hsl hc
  exact (PPF.of_comp (W := W) (h1 hs) h3).e
/-! ### append, extend, x[k] = d -/
theorem own_at {e : Env} {σ : St} {H Hs : Hp} {i : Nat} (s : SR X.K e σ H Hs) {xs : List D} (h : e[i]? = some (.ow xs)) : ∃ p vs, σ[i]? = some (some (V.ref p)) ∧ H p = some (.lst vs) ∧ Hs p = none ∧ RpA X.K Hs vs xs := s.ow i xs h
theorem pps_app (i : Nat) {a : Expr} {p2 p3 : Pos} (ha : PPE X W a f) (hN : X.N[i]? = some x := by rfl) (hv : Vis X.env.scope x := by first | exact Or.inl rfl | exact Or.inr (Or.inl rfl) | exact Or.inr (Or.inr rfl)) (hd : (x == ("__debug__" : Str)) = false := by decide) (hcd : (x == ("__classdict__" : Str)) = false := by decide)
    (hs : swapsWith (.Call (.Attribute (.Name x pos') "append" p2) [a] [] p3) none pos.line X.env = pure false := by rfl)
    (hbase : attributeBase (.Name x pos') "append" X.env (eval (.Name x pos') X.env) = eval (.Name x pos') X.env := by rfl)
    (hfew : ((backTo p3 (starEach [a] X.env)).all (fun x => !x.1) && (backToKw p3 (keywordEach [] X.env)).all (fun x => x.1.isSome)
      && decide ([a].length + ([] : List Keyword).length + (if ([] : List Keyword).isEmpty then 0 else 1) < 30)) = true := by rfl)
    (hline : (p2.endLine == p3.line) = true := by rfl) (hst : starEach [a] X.env = (false, eval a X.env) :: starEach [] X.env := by rfl) :
    PPS X W RT (.Expr (.Call (.Attribute (.Name x pos') "append" p2) [a] [] p3) pos) (sApp i f) := by
  obtain ⟨ta, pa, ha⟩ := ha.out
  refine ⟨_, ps_expr (pe_bm PySem.F.plainAttrs_list PySem.F.slot_list_append PySem.F.type_list_append mt_append (pe_var hN hv hd hcd) (pa_cons pa pa_nil hst) hbase hfew hline hst) hs, fun e σ H Hs H0 Hb Dn s hp => ?_⟩
  unfold sApp at hp
  split at hp
  · rename_i xs h1
    obtain ⟨p, vs, a1, a2, a3, a4⟩ := s.sr.ow i xs h1
    refine ⟨_, a1, .inl ⟨rfl, vs, SqL.of a2⟩, ha e σ H Hs _ s.sr (postS_bind s hp fun d v H1 Hs1 _ g1 s1 r1 hp1 => ?_)⟩
    have hp2 : PostS X W RT H0 Hb (if xs.length < szL then Out.next (e.set i (.ow (xs ++ [d]))) else .stk) Dn := hp1
    split at hp2
    · rename_i hz
      refine ⟨p, vs, v, rfl, rfl, g1.all _ _ a2, by rw [a4.length]; exact hz, hp2 σ _ Hs1 (s1.mut h1 a1 (g1.all _ _ a2) (g1.own _ _ a2 a3) ((a4.up g1.sh).append (.cons r1 .nil)))⟩
    · exact (show False from hp2).elim
  · exact (show False from hp).elim
theorem pps_ext (i : Nat) {a : Expr} {p2 p3 : Pos} (ha : PPB X W a f) (hN : X.N[i]? = some x := by rfl) (hv : Vis X.env.scope x := by first | exact Or.inl rfl | exact Or.inr (Or.inl rfl) | exact Or.inr (Or.inr rfl)) (hd : (x == ("__debug__" : Str)) = false := by decide) (hcd : (x == ("__classdict__" : Str)) = false := by decide)
    (hs : swapsWith (.Call (.Attribute (.Name x pos') "extend" p2) [a] [] p3) none pos.line X.env = pure false := by rfl)
    (hbase : attributeBase (.Name x pos') "extend" X.env (eval (.Name x pos') X.env) = eval (.Name x pos') X.env := by rfl)
    (hfew : ((backTo p3 (starEach [a] X.env)).all (fun x => !x.1) && (backToKw p3 (keywordEach [] X.env)).all (fun x => x.1.isSome)
      && decide ([a].length + ([] : List Keyword).length + (if ([] : List Keyword).isEmpty then 0 else 1) < 30)) = true := by rfl)
    (hline : (p2.endLine == p3.line) = true := by rfl) (hst : starEach [a] X.env = (false, eval a X.env) :: starEach [] X.env := by rfl) :
    PPS X W RT (.Expr (.Call (.Attribute (.Name x pos') "extend" p2) [a] [] p3) pos) (sExt i f) := by
  obtain ⟨ta, pa, ha⟩ := ha.out
  refine ⟨_, ps_expr (pe_bm PySem.F.plainAttrs_list PySem.F.slot_list_extend PySem.F.type_list_extend mt_extend (pe_var hN hv hd hcd) (pa_cons pa pa_nil hst) hbase hfew hline hst) hs, fun e σ H Hs H0 Hb Dn s hp => ?_⟩
  unfold sExt at hp
  split at hp
  · rename_i xs h1
    obtain ⟨p, vs, a1, a2, a3, a4⟩ := s.sr.ow i xs h1
    refine ⟨_, a1, .inl ⟨rfl, vs, SqL.of a2⟩, ha e σ H Hs _ s.sr (postS_bind s hp fun d v H1 Hs1 _ g1 s1 r1 hp1 => ?_)⟩
    obtain ⟨ys, rfl⟩ : ∃ ys, d = .list ys := by
      cases d <;> first
        | exact (show False from hp1).elim
        | exact ⟨_, rfl⟩
    obtain ⟨q, ws, rfl, b1, b2⟩ := r1.list g1.sub
    have hp2 : PostS X W RT H0 Hb (if xs.length + ys.length ≤ szL then Out.next (e.set i (.ow (xs ++ ys))) else .stk) Dn := hp1
    split at hp2
    · rename_i hz
      refine ⟨p, q, vs, ws, rfl, rfl, g1.all _ _ a2, b1, by rw [a4.length, b2.length]; exact hz, hp2 σ _ Hs1 (s1.mut h1 a1 (g1.all _ _ a2) (g1.own _ _ a2 a3) ((a4.up g1.sh).append b2))⟩
    · exact (show False from hp2).elim
  · exact (show False from hp).elim
theorem pps_put (i : Nat) {k : Expr} {g : EF} {p2 : Pos} (hk : PPE X W k g) (ha : PPE X W ex f) (hN : X.N[i]? = some x := by rfl) (hv : Vis X.env.scope x := by first | exact Or.inl rfl | exact Or.inr (Or.inl rfl) | exact Or.inr (Or.inr rfl)) (hd : (x == ("__debug__" : Str)) = false := by decide) (hcd : (x == ("__classdict__" : Str)) = false := by decide)
    (hs : swapsWithSole [.Subscript (.Name x pos') k p2] ex pos.line X.env = pure false := by rfl) (hw : swappedStores [.Subscript (.Name x pos') k p2] ex X.env = pure none := by rfl)
    (h1 : (assignEach [.Subscript (.Name x pos') k p2] X.env).map (·.2) = [assign (.Subscript (.Name x pos') k p2) X.env] := by rfl)
    (hs2 : ∀ v, assign (.Subscript (.Name x pos') k p2) X.env v = (do
      let ov ← holding [v] (eval (.Name x pos') X.env)
      let iv ← holding [v, ov] (eval k X.env)
      standAt p2
      holding [v, ov, iv] (setItem ov iv v)
      release [v, ov, iv] []) := by intro _; rfl) : PPS X W RT (.Assign [.Subscript (.Name x pos') k p2] ex pos) (sPut i g f) := by
  obtain ⟨ta, pa, ha⟩ := ha.out
  obtain ⟨tk, pk, hk⟩ := hk.out
  refine ⟨_, ps_asg pa (pg_sub (pe_var hN hv hd hcd) pk set_list hs2) hs hw h1, fun e σ H Hs H0 Hb Dn s hp => ?_⟩
  unfold sPut at hp
  split at hp
  · rename_i xs h1
    obtain ⟨p, vs, a1, a2, a3, a4⟩ := s.sr.ow i xs h1
    refine ha e σ H Hs _ s.sr (postS_bind s hp fun d v H1 Hs1 _ g1 s1 r1 hp1 => ?_)
    refine ⟨_, a1, hk e σ H1 Hs1 _ s1.sr (postS_bind s1 hp1 fun kd kv H2 Hs2 _ g2 s2 r2 hp2 => ?_)⟩
    obtain ⟨j, rfl⟩ : ∃ j, kd = .int j := by
      cases kd <;> first
        | exact (show False from hp2).elim
        | exact ⟨_, rfl⟩
    cases r2
    cases e3 : ixN xs.length j with
    | none =>
      have hp3 : PostS X W RT H0 Hb ((toR (ixN xs.length j)).out fun n => Out.next (e.set i (.ow (xs.set n d)))) Dn := hp2
      rw [e3] at hp3
      exact (show False from hp3).elim
    | some n =>
      have hp3 : PostS X W RT H0 Hb ((toR (ixN xs.length j)).out fun n => Out.next (e.set i (.ow (xs.set n d)))) Dn := hp2
      rw [e3] at hp3
      have g12 := g1.trans g2
      refine ⟨p, vs, j, n, rfl, rfl, g12.all _ _ a2, by rw [a4.length]; exact e3, hp3 σ _ Hs2 (s2.mut h1 a1 (g12.all _ _ a2) (g12.own _ _ a2 a3) ((a4.up g12.sh).set (r1.up g2.sh)))⟩
  · exact (show False from hp).elim
/-! ### raise -/
theorem pps_raise {c m : Str} {C : Addr} {j : Nat} {p p2 p3 : Pos} {bmB : List Value} {B newId initId : String} (tk : Takes X W) (F : ExcBaseFacts B newId initId bmB) (q : PySem.W.excIn X.K C bmB newId = true) (gC : X.mg c = some (.ref C)) (kC : PySem.W.keepIn X.K (.ref C) = true) (r : Raises X (.ref C))
    (hg : Gl X c := by rfl) (hdb : (c == ("__debug__" : Str)) = false := by decide) (hc : X.calm = true := by rfl) : PPS X W RT (.Raise (some (.Call (.Name c p) [.Constant (.str m) j p2] [] p3)) none pos) (sRaise c) := by
  refine ⟨_, ps_raise hc tk (pmk_own F q gC kC r hg hdb), fun e σ H Hs H0 Hb Dn s hp => ?_⟩
  have z := hp σ H s.gr.all (s.gr.sh.trans s.gr.sub)
  unfold clsV at z
  rw [gC] at z
  exact z
end
/-! ### a def -/
section
variable {P : Program} {w : World} {K : PySem.W.Frag} {mg : Str → Option Value} {base : Heap}
theorem replicate_no {n i : Nat} {d : D} : (List.replicate n SV.no)[i]? ≠ some (.sh d) := fun h => by
  rw [List.getElem?_replicate] at h
  split at h <;> cases h
theorem replicate_no' {n i : Nat} {d : List D} : (List.replicate n SV.no)[i]? ≠ some (.ow d) := fun h => by
  rw [List.getElem?_replicate] at h
  split at h <;> cases h
theorem fnP_of {x qual : Str} {st : Stmt} {f : Addr} {fd : FuncData} {N ps : List Str} {k : Nat} {b : SF} (F : Fun K x qual st f fd) (S : FnScope N ps (defScope st))
    (hbody : ∀ (cdv : Value) (A : Around) (outer : List PySem.Env) (s : Shared) (H : Hp) (E : XK), Room k (A.deeper (envOfC qual (defScope st) s.heap.objs.size f cdv)) →
      PPSs (cxOf (L2.CX P w) P w K mg base N qual (defScope st) f cdv A outer s H E) (fun cls d _ H => E cls d H) (RepE K) (defBody st) b) :
    FnP P w K mg base (k + 1) f fd ps (fnR N.length b) := by
  refine F.okX S (fun vs H Q E h => ?_) fun cdv A outer s H vs Q E hr h => ?_
  · obtain ⟨Hs, ds, _, r, hl, _⟩ := h
    rw [r.length]; exact hl
  · obtain ⟨Hs, ds, sm, r, hl, h⟩ := h
    obtain ⟨t, p, ht⟩ := (hbody cdv A outer s H E hr).out
    refine ⟨t, p, ht (ds.map SV.sh ++ List.replicate (N.length - ds.length) SV.no) (L2.start N vs) H Hs H Hs _ ⟨Grow.refl sm, ⟨sm, ?_, fun i d hi => ?_, fun i xs hi => ?_, fun i j xs ys q h1 h2 h3 h4 => ?_⟩, fun i xs q h1 h2 => ?_⟩ ?_⟩
    · unfold L2.start
      rw [List.length_append, List.length_append, List.length_map, List.length_map, List.length_replicate, List.length_replicate, r.length]
    · unfold L2.start
      by_cases hlt : i < ds.length
      · rw [List.getElem?_append_left (by rw [List.length_map]; exact hlt), List.getElem?_map, List.getElem?_eq_getElem hlt] at hi
        cases hi
        obtain ⟨v, h1, h2⟩ := r.get (List.getElem?_eq_getElem hlt)
        refine ⟨v, ?_, h2⟩
        rw [List.getElem?_append_left (by rw [List.length_map, r.length]; exact hlt), List.getElem?_map, h1]
        rfl
      · rw [List.getElem?_append_right (by rw [List.length_map]; omega)] at hi
        exact absurd hi replicate_no
    · by_cases hlt : i < ds.length
      · rw [List.getElem?_append_left (by rw [List.length_map]; exact hlt), List.getElem?_map, List.getElem?_eq_getElem hlt] at hi
        cases hi
      · rw [List.getElem?_append_right (by rw [List.length_map]; omega)] at hi
        exact absurd hi replicate_no'
    · by_cases hlt : i < ds.length
      · rw [List.getElem?_append_left (by rw [List.length_map]; exact hlt), List.getElem?_map, List.getElem?_eq_getElem hlt] at h1
        cases h1
      · rw [List.getElem?_append_right (by rw [List.length_map]; omega)] at h1
        exact absurd h1 replicate_no'
    · by_cases hlt : i < ds.length
      · rw [List.getElem?_append_left (by rw [List.length_map]; exact hlt), List.getElem?_map, List.getElem?_eq_getElem hlt] at h1
        cases h1
      · rw [List.getElem?_append_right (by rw [List.length_map]; omega)] at h1
        exact absurd h1 replicate_no'
    · unfold fnR at h
      cases e1 : b (ds.map SV.sh ++ List.replicate (N.length - ds.length) SV.no) with
      | next e' => rw [e1] at h; exact fun σ' H' Hs' s' => h .non H' Hs' s'.gr .non
      | ret d => rw [e1] at h; exact fun v H' Hs' g rt => h v H' Hs' g rt
      | brk e' => rw [e1] at h; exact (show False from h).elim
      | cont e' => rw [e1] at h; exact (show False from h).elim
      | err c => rw [e1] at h; exact fun σ' H' g _ => h H' g
      | stk => rw [e1] at h; exact h
end

/-! ### more new lists -/
section
variable {X : Cx} {W : WX} {a b : Expr} {f g : EF} {pos p p2 : Pos}
theorem ppf_mul (ha : PPB X W a f) (hb : PPB X W b g) : PPF X W (.BinOp a .Mult b pos) (lMul f g) := by
  obtain ⟨ta, pa, ha⟩ := ha.out
  obtain ⟨tb, pb, hb⟩ := hb.out
  refine ⟨tOp rRep ta tb, pe_op op_rep pa pb, fun e σ H Hs Q s hp => ?_⟩
  have an : ∀ H1, Same H H1 → ∀ H' Hs' v xs, RepF X.K H1 H' Hs' v xs → RepF X.K H H' Hs' v xs := fun H1 s1 H' Hs' v xs ⟨p, vs, h1, h2, h3⟩ => ⟨p, vs, h1, s1.free h2, h3⟩
  have hp0 : Post X W σ H Hs (RepF X.K) ((f e).bind fun d1 => (g e).bind fun d2 => (opMul d1 d2).bind asL) Q := by
    unfold lMul e2 at hp
    cases e1 : f e with
    | ok d1 =>
      rw [e1] at hp
      cases e2 : g e with
      | ok d2 => rw [R.bind_ok, e2] at hp; exact hp
      | err c => rw [R.bind_ok, e2] at hp; exact hp
      | stk => rw [R.bind_ok, e2] at hp; exact hp
    | err c => rw [e1] at hp; exact hp
    | stk => rw [e1] at hp; exact hp
  refine ha e σ H Hs _ s (Post.bind hp0 an fun d1 x H1 Hs1 he1 g1 r1 hp1 => ?_)
  have an1 : ∀ H2, Same H1 H2 → ∀ H' Hs' v xs, RepF X.K H2 H' Hs' v xs → RepF X.K H1 H' Hs' v xs := fun H1 s1 H' Hs' v xs ⟨p, vs, h1, h2, h3⟩ => ⟨p, vs, h1, s1.free h2, h3⟩
  refine hb e σ H1 Hs1 _ (s.grow g1) (Post.bind hp1 an1 fun d2 y H2 Hs2 he2 g2 r2 hp2 => ?_)
  cases d1 <;> cases d2 <;> first
    | exact (show False from hp2).elim
    | skip
  · dsimp only [opMul] at hp2
    split at hp2 <;> exact (show False from hp2).elim
  · dsimp only [opMul] at hp2
    split at hp2
    · exact (show False from hp2).elim
    · split at hp2 <;> exact (show False from hp2).elim
  · rename_i k
    dsimp only [opMul] at hp2
    split at hp2
    · rename_i hz
      obtain ⟨p, vs, rfl, h1, r1⟩ := (r1.up g2).list g2.sub
      refine ⟨p, k, vs, rfl, r2.int, h1, by omega, by omega, by rw [r1.length]; exact hz.2.2, fun l hl => hp2 _ _ _ (Grow.gar g2.sub hl) ⟨l, _, rfl, hl, upd_same, g2.sub.free hl, r1.reps _⟩⟩
    · exact (show False from hp2).elim
theorem rgV_rp {K : PySem.W.Frag} {H : Hp} : ∀ (l : List Nat) (m : Int), RpA K H (l.map fun i => V.int (m + (i : Nat))) (l.map fun (i : Nat) => PyData.int (m + (i : Int)))
  | [], _ => .nil
  | i :: l, m => .cons (.int _) (rgV_rp l m)
theorem ppf_lr (hm : X.mg "range" = none) (hml : X.mg "list" = none) (ha : PPE X W a f) (hb : PPE X W b g) (hc : X.calm = true := by rfl) (hg : Gl X "range" := by rfl) (hgl : Gl X "list" := by rfl)
    (na : starEach [a, b] X.env = (false, eval a X.env) :: starEach [b] X.env := by rfl) (nb : starEach [b] X.env = (false, eval b X.env) :: starEach [] X.env := by rfl) (hp : (backTo p2 (starEach [b] X.env)).any (·.1) = false := by rfl)
    (nl : starEach [.Call (.Name "range" p) [a, b] [] p2] X.env = (false, eval (.Call (.Name "range" p) [a, b] [] p2) X.env) :: starEach [] X.env := by rfl) {p3 : Pos} :
    PPF X W (.Call (.Name "list" p3) [.Call (.Name "range" p) [a, b] [] p2] [] pos) (bLR f g) := by
  obtain ⟨ta, pa, ha⟩ := ha.out
  obtain ⟨tb, pb, hb⟩ := hb.out
  refine ⟨_, pe_listRg hc hgl hml (prg_2 hg hm pa pb na nb hp) nl, fun e σ H Hs Q s hp => ?_⟩
  have an : ∀ H0 H1, Same H0 H1 → ∀ H' Hs' v xs, RepF X.K H1 H' Hs' v xs → RepF X.K H0 H' Hs' v xs := fun H0 H1 s1 H' Hs' v xs ⟨p, vs, h1, h2, h3⟩ => ⟨p, vs, h1, s1.free h2, h3⟩
  refine ha e σ H Hs _ s (Post.bind (Rep2 := RepF X.K) hp (an H) fun d1 x H1 Hs1 _ g1 r1 hp1 => ?_)
  refine hb e σ H1 Hs1 _ (s.grow g1) (Post.bind (Rep2 := RepF X.K) hp1 (an H1) fun d2 y H2 Hs2 _ g2 r2 hp2 => ?_)
  obtain ⟨m, rfl⟩ : ∃ z, d1 = .int z := by
    cases d1 <;> first
      | exact (show False from hp2).elim
      | exact ⟨_, rfl⟩
  obtain ⟨n, rfl⟩ : ∃ z, d2 = .int z := by
    cases d2 <;> first
      | exact (show False from hp2).elim
      | exact ⟨_, rfl⟩
  cases r1
  cases r2
  have hp3 : Post X W σ H2 Hs2 (RepF X.K) (if smI m && smI n && decide ((n - m).toNat ≤ szL) then R.ok (rng m n) else .stk) Q := hp2
  split at hp3
  · rename_i hn
    simp only [Bool.and_eq_true, decide_eq_true_eq] at hn
    obtain ⟨h1, h2⟩ := smI_ok hn.1.1
    obtain ⟨h3, h4⟩ := smI_ok hn.1.2
    refine ⟨m, n, rfl, rfl, ⟨h1, h2, h3, h4, hn.2⟩, fun q hq => hp3 _ _ _ (Grow.gar g2.sub hq) ⟨q, _, rfl, hq, upd_same, g2.sub.free hq, rgV_rp _ _⟩⟩
  · exact (show False from hp3).elim
end

/-! ### a def by its name -/
structure Cal (P : Program) (w : World) (K : PySem.W.Frag) (mg : Str → Option Value) (base : Heap) (x : Str) (ps : List Str) (k : Nat) (m : List D → R D) : Prop where
  ex : ∃ f fd, FnP P w K mg base k f fd ps m ∧ mg x = some (.ref f) ∧ PySem.W.keepIn K (.ref f) = true ∧ Binds K fd ps []
section
variable {X : Cx} {W : WX} {a : Expr} {es : List Expr} {fs : LF} {x : Str} {ps : List Str} {k j : Nat} {m : List D → R D} {p pos : Pos}
theorem ppe_cal (C : Cal X.prog X.w X.K X.mg X.base x ps k m) (hr : Room j X.A) (tk : Takes X W) (ha : PPA X W (a :: es) fs) (hj : k ≤ j := by decide)
    (hl : (a :: es).length = ps.length := by rfl) (hg : Gl X x := by rfl) (hdb : (x == ("__debug__" : Str)) = false := by decide)
    (he : starEach (a :: es) X.env = (false, eval a X.env) :: starEach es X.env := by rfl) (hpl : (backTo pos (starEach es X.env)).any (·.1) = false := by rfl) : PPE X W (.Call (.Name x p) (a :: es) [] pos) (eC m fs) := by
  obtain ⟨f, fd, F, hm, hk, hb⟩ := C.ex
  exact ppe_call F (hr.mono hj) hm hk hb tk ha hl hg hdb he hpl
theorem ppe_calL (C : Cal X.prog X.w X.K X.mg X.base x ps k m) (hr : Room j X.A) (tk : Takes X W) (ha : PPBA X W (a :: es) fs) (hn : ∀ e ds, fs e = .ok ds → ds.length = ps.length) (hj : k ≤ j := by decide)
    (hg : Gl X x := by rfl) (hdb : (x == ("__debug__" : Str)) = false := by decide)
    (he : starEach (a :: es) X.env = (false, eval a X.env) :: starEach es X.env := by rfl) (hpl : (backTo pos (starEach es X.env)).any (·.1) = false := by rfl) : PPE X W (.Call (.Name x p) (a :: es) [] pos) (eCb m fs) := by
  obtain ⟨f, fd, F, hm, hk, hb⟩ := C.ex
  exact ppe_callL F (hr.mono hj) hm hk hb tk ha hn hg hdb he hpl
end
end PL

namespace PL
open PySem PySem.Spec PyProof.Rows L2

/-! ### exceptions: the class asked of one that a suite holds -/
section
variable {X : Cx} {W : WX} {pos : Pos} {p : Pos}
theorem ppe_isE {q : Addr × Obj} {Dc : Addr} {b : Bool} {x c n : Str} {pn pc : Pos} {cv : V} {cu : Value} (i : Nat) (EC : ExcC X.K Dc) (hp : q ∈ X.pn) (hz : Zc (.ref Dc) none q.2) (hf : ∃ vs, q.2.data = .fields vs)
    (hm : X.mg x = none) (hv : bootBuiltins x = some (.builtin "isinstance")) (hC : PE X (.Name c pc) (tC cv)) (hcv : ∀ u, RelV cv u → u = cu) (hk : PySem.W.kitOne X.K (.ref Dc) cu = some b)
    (hN : X.N[i]? = some n := by rfl) (hvn : Vis X.env.scope n := by first | exact Or.inl rfl | exact Or.inr (Or.inl rfl) | exact Or.inr (Or.inr rfl))
    (hg : Gl X x := by rfl) (hn : x ≠ "__name__" := by decide) (hdb : (x == ("__debug__" : Str)) = false := by decide) (hd : (n == ("__debug__" : Str)) = false := by decide) (hcd : (n == ("__classdict__" : Str)) = false := by decide)
    (he : starEach [.Name n pn, .Name c pc] X.env = (false, eval (.Name n pn) X.env) :: starEach [.Name c pc] X.env := by rfl) (he2 : starEach [.Name c pc] X.env = (false, eval (.Name c pc) X.env) :: starEach [] X.env := by rfl)
    (hpl : (backTo pos (starEach [.Name c pc] X.env)).any (·.1) = false := by rfl) : PPE X W (.Call (.Name x p) [.Name n pn, .Name c pc] [] pos) (e1 (isAdr q.1 b) (eV i)) := by
  have call : CallR X (.builtin "isinstance") (fun xs H Q => ∃ (c : V) (cv : Value) (b : Bool), xs = [.ref q.1, c] ∧ (∀ u, RelV c u → u = cv) ∧ PySem.W.kitOne X.K (.ref Dc) cv = some b ∧ Q (.bl b) H) := by
    intro pins s σ H xs us Q I r h
    obtain ⟨c, cv, b, rfl, hcv, e, q1⟩ := h
    cases r with
    | cons rx rr =>
      cases rr with
      | cons rt rr =>
        cases rr
        cases rx
        have ec := hcv _ rt
        subst ec
        obtain ⟨hget, _⟩ := I.pin q (List.mem_append.mpr (.inl hp))
        obtain ⟨vs, hv⟩ := hf
        have J : PySem.W.InstAt s.heap q.1 q.2 Dc none := by
          obtain ⟨a, oc, od, oda, osl⟩ := q
          obtain ⟨h1, h2⟩ := hz
          dsimp only at h1 h2 hv
          subst h1 h2 hv
          exact ⟨hget, rfl, rfl, trivial⟩
        exact PySem.W.kia_one (PySem.W.handS_kitx_exc EC.hg EC.hk EC.hs EC.hd EC.ha EC.hn EC.ht EC.hm) I.kIn J e (fun z => nomatch z) fun tk => ⟨.bl b, H, I.kept (t' := tk) fun _ _ z => z, rfl, q1⟩
  obtain ⟨ta, pa, ha⟩ := (ppe_v (X := X) (W := W) i (pos := pn) hN hvn hd hcd).out
  refine ⟨_, pe_callB call hg hm hv (pa_cons pa (pa_cons hC pa_nil he2) he) hn hdb he hpl, fun e σ H Hs Q s hp => ?_⟩
  refine ha e σ H Hs _ s (Post.bind (Rep2 := RepE X.K) hp anE fun d1 v H1 Hs1 _ g1 r1 hp1 => ?_)
  unfold isAdr at hp1
  split at hp1
  · rename_i n
    split at hp1
    · rename_i hn
      subst hn
      cases r1 with
      | adr a => exact ⟨cv, cu, b, rfl, hcv, hk, hp1 _ H1 Hs1 (Grow.refl g1.sub) (.bl b)⟩
    · exact (show False from hp1).elim
  · exact (show False from hp1).elim

/-! ### a def that is called in an except suite with the exception, an object of class Dc -/
def FnX (P : Program) (w : World) (K : PySem.W.Frag) (mg : Str → Option Value) (base : Heap) (k : Nat) (f : Addr) (fd : FuncData) (ps : List Str) (Dc : Addr) (res : Str) : Prop :=
  ∀ (A : Around) (outer : List PySem.Env) (s : Shared) (H : Hp) (args : Args) (Q : VK) (p : Addr × Obj), L2H.RoomH k A → L2H.PinOk outer H s p → Zc (.ref Dc) none p.2 → (∃ vs, p.2.data = .fields vs) → Env0 P w K mg base A outer s H → BindsTo s fd args (ps.zip [.ref p.1]) →
    (∀ H', Same H H' → Q (.str res) H') → codeAny (model P w) A (.call (.ref f) args) (CR (L2.CX P w) outer P w H s Q fun _ _ _ => False) s
theorem fnX_of {P : Program} {w : World} {K : PySem.W.Frag} {mg : Str → Option Value} {base : Heap} {k : Nat} {x qual : Str} {st : Stmt} {f : Addr} {fd : FuncData} {N : List Str} {n : Str} {Dc : Addr} {res : Str} (F : Fun K x qual st f fd) (S : FnScope N [n] (defScope st))
    (hbody : ∀ (cdv : Value) (A : Around) (outer : List PySem.Env) (s : Shared) (H : Hp) (E : XK) (p : Addr × Obj), Zc (.ref Dc) none p.2 → (∃ vs, p.2.data = .fields vs) → ∃ b : SF, PPSs (L2H.cxH (L2.CX P w) P w K mg base N qual (defScope st) f cdv A outer s H E p) noW (RepE K) (defBody st) b ∧
      b (.sh (adr p.1) :: List.replicate (N.length - 1) .no) = .ret (.str res)) :
    FnX P w K mg base (k + 1) f fd [n] Dc res := by
  obtain ⟨⟨oc, od, kV, doc, pm, an, cdv, ct, osl, rfl, lk, hcd⟩, kf⟩ := F
  intro A outer s H args Q p hr hpin hz hf e0 hb hq
  have KX : K.In s.heap := e0.mod.kin.keeps fun b o e => (e0.bs b o e).1
  have lim : s.heap.NoLimit := e0.mod.nolimit.keeps fun b o e => (e0.bs b o e).1
  have hkind : ∀ y ∈ [n].zip [Value.ref p.1], (defScope st).names.lookup y.1 = some .local ∨ ((defScope st).names.lookup y.1 = some .cell ∧ ((cellsFrom (s.heap.objs.size + 1) (defScope st).names []).lookup y.1).isSome = true) := fun ⟨n', v⟩ hy => by
    rcases S.par n' (List.of_mem_zip hy).1 with q | q
    · exact .inl q
    · exact .inr ⟨q, PySem.W.cellsFrom_some _ _ _ (.inl q)⟩
  refine codeAny_call_function hr.depth (KX _ _ lk) rfl S.co S.gen rfl (PySem.W.codeRec_of KX hcd) (hb _ _ _ _ ?_)
  refine wpAny_newFunctionEnv_cells S.kind hkind fun env he s1 x => ?_
  subst he
  refine ⟨lim.keeps x.toInCall.keep, codeAny_func ?_⟩
  obtain ⟨b, ⟨t, ht, hR⟩, hres⟩ := hbody cdv A outer s H (fun _ _ _ => False) p hz hf
  have hlen : 1 ≤ N.length := by have := congrArg List.length S.pre; rw [List.length_take] at this; simp at this; omega
  have I : Inv (L2H.cxH (L2.CX P w) P w K mg base N qual (defScope st) f cdv A outer s H (fun _ _ _ => False) p) [] (L2.start N [.ref p.1]) H s1 := L2H.inv_startH S hpin e0 rfl (.cons rfl .nil) x
  have hT : t { nx := fun _ H' => Q .non H', rt := Q } (L2.start N [.ref p.1]) H := by
    refine hR (.sh (adr p.1) :: List.replicate (N.length - 1) .no) (L2.start N [.ref p.1]) H (fun _ => none) H (fun _ => none) _ ⟨Grow.refl (fun _ _ e => by cases e), ⟨(fun _ _ e => by cases e), ?_, fun i d hi => ?_, fun i xs hi => ?_, fun i j xs ys q h1 h2 h3 h4 => ?_⟩, fun i xs q h1 h2 => ?_⟩ ?_
    · unfold L2.start
      rw [List.length_append, List.length_map, List.length_replicate, List.length_cons, List.length_replicate]
      simp
      omega
    · cases i with
      | zero => cases hi; exact ⟨.ref p.1, rfl, .adr p.1⟩
      | succ i => rw [List.getElem?_cons_succ] at hi; exact absurd hi replicate_no
    · cases i with
      | zero => cases hi
      | succ i => rw [List.getElem?_cons_succ] at hi; exact absurd hi replicate_no'
    · cases i with
      | zero => cases h1
      | succ i => rw [List.getElem?_cons_succ] at h1; exact absurd h1 replicate_no'
    · cases i with
      | zero => cases h1
      | succ i => rw [List.getElem?_cons_succ] at h1; exact absurd h1 replicate_no'
    · rw [hres]
      intro v H' Hs' g rt
      cases rt
      exact hq H' g.all
  refine wpAny_mono (ht.run [] s1 (L2.start N [.ref p.1]) H _ I hT) (fun fl s' hs => ?_) fun e s' hs => hs
  have fin : ∀ {σ' : St} {H' : Hp} {v : V} {u : Value}, Inv (L2H.cxH (L2.CX P w) P w K mg base N qual (defScope st) f cdv A outer s H (fun _ _ _ => False) p) [] σ' H' s' → RelV v u → Q v H' → CE outer P w H s Q u s' :=
    fun {σ' H' v u} J rv q => ⟨v, H', J.os, J.bare, J.base, J.hok, rv, q⟩
  cases fl with
  | ret u =>
    obtain ⟨v, σ', H', J, rv, q⟩ := hs
    exact fin J rv q
  | next =>
    obtain ⟨σ', H', J, q⟩ := hs
    exact fin (v := V.non) (u := Value.none) J rfl q
  | brk =>
    obtain ⟨_, _, _, q⟩ := hs
    exact False.elim q
  | cont =>
    obtain ⟨_, _, _, q⟩ := hs
    exact False.elim q
end

/-! ### try: body, except LoopError as error: return name_of(error) -/
section
variable {X : Cx} {W : WX} {pos p : Pos}
/-- what the classes' names tell: raised class c, name_of's word -/
structure CalX (P : Program) (w : World) (K : PySem.W.Frag) (mg : Str → Option Value) (base : Heap) (x : Str) (k : Nat) (L : Addr) (nm : Str → Option Str) : Prop where
  ex : ∃ f fd n, mg x = some (.ref f) ∧ PySem.W.keepIn K (.ref f) = true ∧ Binds K fd [n] [] ∧ ∀ c z, nm c = some z → ∃ Dc, clsV mg c = .ref Dc ∧ PySem.W.exmOne K (.ref Dc) (.ref L) = some true ∧ FnX P w K mg base k f fd [n] Dc z
theorem pps_try {body : List Stmt} {b : SF} {nm : Str → Option Str} {x lx n : Str} {L : Addr} {k j : Nat} {py np pos' pr pc pf : Pos} (i : Nat) (C : CalX X.prog X.w X.K X.mg X.base x k L nm) (hr : Room j X.A) (gL : X.mg lx = some (.ref L))
    (hb : ∀ (W : WX) (pn : List (Addr × Obj)) (xe : Value → Shared → Prop), Takes (X.tr pn xe) W → PassesOwn (model X.prog X.w) X.A X.env xe → PPSs (X.tr pn xe) W (RepE X.K) body b)
    (hN : X.N.Nodup) (hj : k ≤ j := by decide) (hs : X.stack = X.env :: X.outer := by rfl) (hf : X.env.frame = some X.env.locals := by rfl) (hi : X.N[i]? = some n := by rfl) (hln : X.env.kindOf n = some .local := by rfl) (hgL : Gl X lx := by rfl) (hdL : (lx == ("__debug__" : Str)) = false := by decide)
    (hg : Gl X x := by rfl) (hdb : (x == ("__debug__" : Str)) = false := by decide) (hd : (n == ("__debug__" : Str)) = false := by decide) (hcd : (n == ("__classdict__" : Str)) = false := by decide) (hvn : Vis X.env.scope n := by exact Or.inl rfl)
    (he : starEach [.Name n py] X.env = (false, eval (.Name n py) X.env) :: starEach [] X.env := by rfl) (hpl : (backTo pf (starEach [] X.env)).any (·.1) = false := by rfl) :
    PPS X W (RepE X.K) (.Try body [.ExceptHandler (some (.Name lx np)) (some n) [.Return (some (.Call (.Name x pc) [.Name n py] [] pf)) pr] pos'] [] [] pos) (sTry b nm) := by
  obtain ⟨f, fd, nn, hm, hk, hbn, hC⟩ := C.ex
  let ts : Addr → Value → Option Addr → TS := fun a cls d => tRet (fun σ H Q => (i < σ.length → σ[i]? = some (some (.ref a))) ∧ ∃ Dc z, cls = .ref Dc ∧ d = none ∧ FnX X.prog X.w X.K X.mg X.base k f fd [nn] Dc z ∧ ∀ H', Same H H' → Q (.str z) H')
  refine ⟨_, ps_try_as (tb := fun W D σ H => ∀ pn xe (h1 : Takes (X.tr pn xe) W) (h2 : PassesOwn (model X.prog X.w) X.A X.env xe), Classical.choose (hb W pn xe h1 h2).out D σ H) (ts := ts) (Wout := fun _ _ _ _ => False) hs hf hN hi hln ⟨hgL, hdL, .inl gL⟩ takes0 (fun W pn xe tk po => ?_) (fun a oe cls d pn hz hf2 => ?_), fun e σ H Hs H0 Hb Dn s hp => ?_⟩
  · exact ⟨fun pins s σ H D I h => (Classical.choose_spec (hb W pn xe tk po).out).1.run pins s σ H D I (h pn xe tk po)⟩
  · refine pss_one (ps_ret ⟨fun pins s σ H Q I h => ?_⟩)
    obtain ⟨h1', Dc, z, rfl, rfl, FX, hq⟩ := h
    have h1 : σ[i]? = some (some (.ref a)) := h1' (by
      have hi' := (List.getElem?_eq_some_iff.mp hi).1
      have hl : σ.length = X.N.length := I.len
      omega)
    refine wpAny_Call_Name_kw (ld_glob I hg hm ?_ hdb)
    have ha : PA (X.suite a ((a, oe) :: pn)) [.Name n py] (tCons (tVar i) tNil) := pa_cons (pe_var hi hvn hd hcd) pa_nil he
    have hA : tCons (tVar i) tNil σ H (fun vs H1 => vs = [.ref a] ∧ H1 = H) := ⟨_, h1, rfl, rfl⟩
    refine PySem.W.callWith_K (h₀ := X.base) I.ok.mod.kin hk (thn (ha.run pf pins s σ H _ I hA) fun us s1 ⟨vs, H1, I1, r, q⟩ => ⟨I1.kIn, ?_⟩) he hpl
    obtain ⟨rfl, rfl⟩ := q
    have hl : us.length = 1 := by rw [← r.length]; rfl
    have bb := hbn s1 us I1.kIn (by rw [List.append_nil]; exact hl)
    rw [List.append_nil] at bb
    have P1 := I1.pin (a, oe) (List.mem_append_left _ List.mem_cons_self)
    have hpin : L2H.PinOk (X.suite a ((a, oe) :: pn)).stack H1 s1 (a, oe) := ⟨P1.1, P1.2.1, fun hm => (List.mem_cons.mp (I1.stkSub a hm)).elim P1.2.2.1 P1.2.2.2.1, P1.2.2.2.2⟩
    have eus : us = [.ref a] := by
      cases r with
      | cons rx rr => cases rr; cases rx; rfl
    subst eus
    have hrH : L2H.RoomH k (X.suite a ((a, oe) :: pn)).A := ⟨by have := (hr.mono hj).dp; exact this, by have := (hr.mono hj).un; exact this⟩
    refine wpAny_call (codeAny_mono (FX _ _ s1 H1 ⟨[.ref a], []⟩ Q (a, oe) hrH hpin hz hf2 I1.env0 bb hq) fun r s' hq => ?_)
    cases r with
    | error e => exact passAt (X := X.suite a ((a, oe) :: pn)) (W := fun _ _ _ _ => False) takes0 σ pins H1 s1 e s' I1 hq
    | ok fl =>
      cases fl with
      | ret u => exact I1.after hq
      | next => exact False.elim hq
      | brk => exact False.elim hq
      | cont => exact False.elim hq
  · intro pn xe h1 h2
    refine (Classical.choose_spec (hb _ pn xe h1 h2).out).2 e σ H Hs H0 Hb Dn s ?_
    unfold sTry at hp
    cases e1 : b e with
    | next e' => rw [e1] at hp; exact hp
    | ret d => rw [e1] at hp; exact hp
    | brk d => rw [e1] at hp; exact hp
    | cont d => rw [e1] at hp; exact hp
    | stk => rw [e1] at hp; exact hp
    | err c =>
      rw [e1] at hp
      dsimp only at hp
      cases e2 : nm c with
      | none => rw [e2] at hp; exact hp.elim
      | some z =>
        rw [e2] at hp
        obtain ⟨Dc, e3, e4, FX⟩ := hC c z e2
        intro σ' H' sm sb
        refine ⟨true, ?_, fun _ a na => ?_, fun q => nomatch q⟩
        · show PySem.W.exmOne X.K (clsV X.mg c) (.ref L) = some true
          rw [e3]; exact e4
        · refine ⟨fun hl => ?_, Dc, z, e3, rfl, FX, fun H'' sm' => hp _ H'' Hb ⟨sm.trans sm', Same.refl _, sb.trans sm', fun _ _ _ h => h⟩ (.str z)⟩
          · rw [List.length_set] at hl
            rw [List.getElem?_set_self hl]
end
end PL

namespace PL
open PySem PySem.Spec PyProof.Rows L2
theorem boot_isi : bootBuiltins "isinstance" = some (.builtin "isinstance") := by decide +kernel
theorem boot_abs : bootBuiltins "abs" = some (.builtin "abs") := by decide +kernel
theorem boot_sum : bootBuiltins "sum" = some (.builtin "sum") := by decide +kernel
theorem boot_all : bootBuiltins "all" = some (.builtin "all") := by decide +kernel
theorem boot_max : bootBuiltins "max" = some (.builtin "max") := by decide +kernel
theorem boot_min : bootBuiltins "min" = some (.builtin "min") := by decide +kernel
theorem boot_int : bootBuiltins "int" = some (.type "int") := by decide +kernel
theorem boot_bool : bootBuiltins "bool" = some (.type "bool") := by decide +kernel
theorem boot_str : bootBuiltins "str" = some (.type "str") := by decide +kernel
theorem boot_list : bootBuiltins "list" = some (.type "list") := by decide +kernel
theorem boot_tuple : bootBuiltins "tuple" = some (.type "tuple") := by decide +kernel
theorem boot_ValueError : bootBuiltins "ValueError" = some (.type "ValueError") := by decide +kernel
/-- what the text says of an own class of errors -/
structure ExcF (K : PySem.W.Frag) (mg : Str → Option Value) (c : Str) (C : Addr) : Prop where
  xi : PySem.W.excIn K C [.type "ValueError", .type "Exception", .type "BaseException", .type "object"] "ValueError.__new__" = true
  gC : mg c = some (.ref C)
  kC : PySem.W.keepIn K (.ref C) = true
  bC : PySem.W.subIn K (.ref C) (.type "BaseException") = some true
  tC : PySem.W.typeIn K (.ref C) = some (.type "type")
  iC : PySem.W.isClsIn K C = true
  vC : PySem.W.subIn K (.ref C) (.type "ValueError") = some true
theorem kit_self {K : PySem.W.Frag} {C : Addr} : PySem.W.kitOne K (.ref C) (.ref C) = some true := by
  unfold PySem.W.kitOne
  rw [if_pos (by simp)]
theorem kit_sub {K : PySem.W.Frag} {mg : Str → Option Value} {c : Str} {C : Addr} {Dc : Addr} {b : Bool} (F : ExcF K mg c C) (h : PySem.W.subIn K (.ref Dc) (.ref C) = some b) (n : (Value.ref Dc == Value.ref C) = false) : PySem.W.kitOne K (.ref Dc) (.ref C) = some b := by
  unfold PySem.W.kitOne
  rw [n, if_neg Bool.false_ne_true]
  unfold PySem.W.kitCls
  have h2' : (PySem.W.clsIn K C).isSome = true := F.iC
  have e2 : ((PySem.W.clsIn K C).isSome && PySem.W.typeIn K (.ref C) == some (.type "type")) = true := by rw [h2', F.tC] <;> rfl
  dsimp only
  rw [if_pos e2]
  exact h
theorem kit_val {K : PySem.W.Frag} {mg : Str → Option Value} {c : Str} {C : Addr} (F : ExcF K mg c C) : PySem.W.kitOne K (.ref C) (.type "ValueError") = some true := by
  unfold PySem.W.kitOne
  have n : (Value.ref C == Value.type "ValueError") = false := rfl
  rw [n, if_neg Bool.false_ne_true]
  unfold PySem.W.kitCls
  dsimp only
  rw [if_pos (by decide +kernel)]
  exact F.vC
theorem exm_sub {K : PySem.W.Frag} {mg : Str → Option Value} {c : Str} {C : Addr} {Dc : Addr} {b : Bool} (F : ExcF K mg c C) (h : PySem.W.subIn K (.ref Dc) (.ref C) = some b) : PySem.W.exmOne K (.ref Dc) (.ref C) = some b := by
  have e1 : (PySem.W.subIn K (.ref C) (.type "BaseException") == some true) = true := by rw [F.bC] <;> rfl
  have e2 : ((PySem.W.clsIn K C).isSome && PySem.W.typeIn K (.ref C) == some (.type "type")) = true := by
    have h2' : (PySem.W.clsIn K C).isSome = true := F.iC
    rw [h2', F.tC] <;> rfl
  show (if (PySem.W.subIn K (.ref C) (.type "BaseException") == some true) = true then (if ((PySem.W.clsIn K C).isSome && PySem.W.typeIn K (.ref C) == some (.type "type")) = true then PySem.W.subIn K (.ref Dc) (.ref C) else none) else none) = some b
  rw [if_pos e1, if_pos e2]
  exact h
theorem fnP_stk {P : Program} {w : World} {K : PySem.W.Frag} {mg : Str → Option Value} {base : Heap} {k : Nat} {f : Addr} {fd : FuncData} {ps : List Str} : FnP P w K mg base k f fd ps (fun _ => .stk) :=
  ⟨fun vs H Q E h => by obtain ⟨_, _, _, _, _, h⟩ := h; exact h.elim, fun A outer s H args us vs Q E _ _ _ _ h => by obtain ⟨_, _, _, _, _, h⟩ := h; exact h.elim⟩
theorem cx_no {P : Program} {w : World} {o : List PySem.Env} {H : Hp} {s : Shared} {e : Value} {s' : Shared} (h : L2.CX P w o H s (fun _ _ _ => False) e s') : False := by
  obtain ⟨_, _, _, _, _, _, _, _, _, _, _, _, h⟩ := h
  exact h
/-- the law's promise -/
def spLaw (K : PySem.W.Frag) : Sp := fun vs H Q _ => ∃ (a : Addr) (ns : List Int), vs = [.ref a] ∧ SqL K H a (ns.map V.int) ∧ ns.length ≤ 63 ∧ (∀ z ∈ ns, Builtin.Int.intBits z ≤ 1048576) ∧ ∀ H', Q (.bl true) H'
theorem ints_rp {K : PySem.W.Frag} {H : Hp} : ∀ ns : List Int, RpA K H (ns.map V.int) (ns.map PyData.int)
  | [] => .nil
  | i :: ns => .cons (.int i) (ints_rp ns)
theorem spLaw_of {K : PySem.W.Frag} {mg : Str → Option Value} {m : List D → R D} (h : ∀ ns : List Int, ns.length ≤ 63 → (∀ z ∈ ns, Builtin.Int.intBits z ≤ 1048576) → m [scr (ns.map .int)] = .ok (.bool true)) :
    ∀ vs H Q E, spLaw K vs H Q E → pureSp K mg 1 m vs H Q E := by
  rintro vs H Q E ⟨a, ns, rfl, hS, hl, hb, hq⟩
  refine ⟨H, [scr (ns.map .int)], Same.refl _, .cons (.scr hS (ints_rp ns)) .nil, rfl, ?_⟩
  rw [h ns hl hb]
  intro v H' Hs' _ r
  cases r
  exact hq H'
end PL

namespace PL
open PySem PySem.Spec PyProof.Rows L2
/-! ### a def that hands back a list that is nobody else's, or None and the like -/
abbrev RepN (K : PySem.W.Frag) : Hp → Hp → Hp → V → D → Prop := fun H H' Hs' v d => (isSc d = true ∧ Rp K Hs' v d) ∨ ∃ xs, d = .list xs ∧ RepF K H H' Hs' v xs
theorem RepN.at {K : PySem.W.Frag} {H H1 H' Hs' : Hp} {v : V} {d : D} (s : Same H H1) (r : RepN K H1 H' Hs' v d) : RepN K H H' Hs' v d := by
  rcases r with r | ⟨xs, e, p, vs, h0, h1, h2⟩
  · exact .inl r
  · exact .inr ⟨xs, e, p, vs, h0, s.free h1, h2⟩
structure PPN (X : Cx) (W : WX) (ex : Expr) (f : EF) : Prop where
  out : ∃ t : TE, PE X ex t ∧ ∀ e σ H Hs Q, SR X.K e σ H Hs → Post X W σ H Hs (RepN X.K) (f e) Q → t σ H Q
def pureSpN (K : PySem.W.Frag) (mg : Str → Option Value) (n : Nat) (m : List D → R D) : Sp := fun vs H Q E => ∃ Hs ds, Same Hs H ∧ RpA K Hs vs ds ∧ ds.length = n ∧
  (match m ds with
    | .ok d => ∀ v H' Hs', Grow H Hs H' Hs' → RepN K H H' Hs' v d → Q v H'
    | .err c => ∀ H', Same H H' → E (clsV mg c) none H'
    | .stk => False)
abbrev FnN (P : Program) (w : World) (K : PySem.W.Frag) (mg : Str → Option Value) (base : Heap) (k : Nat) (f : Addr) (fd : FuncData) (ps : List Str) (m : List D → R D) : Prop :=
  FnOk P w K mg base (L2.CX P w) k f fd ps (pureSpN K mg ps.length m)
structure CalN (P : Program) (w : World) (K : PySem.W.Frag) (mg : Str → Option Value) (base : Heap) (x : Str) (ps : List Str) (k : Nat) (m : List D → R D) : Prop where
  ex : ∃ f fd, FnN P w K mg base k f fd ps m ∧ mg x = some (.ref f) ∧ PySem.W.keepIn K (.ref f) = true ∧ Binds K fd ps []
theorem frzG {K : PySem.W.Frag} {H Hs H' Hs' : Hp} {v : V} {d : D} (g : Grow H Hs H' Hs') (r : RepN K H H' Hs' v d) : ∃ Hs2, Grow H Hs H' Hs2 ∧ Rp K Hs2 v d := by
  rcases r with ⟨_, r⟩ | ⟨xs, rfl, p, vs, rfl, n1, h1, n2, r⟩
  · exact ⟨Hs', g, r⟩
  · have s2 : Same (upd Hs' p (.lst vs)) H' := fun b o hb => by
      by_cases q : b = p
      · subst q; rw [upd_same] at hb; cases hb; exact h1
      · rw [upd_ne q] at hb; exact g.sub _ _ hb
    refine ⟨upd Hs' p (.lst vs), ⟨g.all, g.sh.trans (same_upd n2), s2, fun b o hb nb => ?_⟩, .lst upd_same (r.up (same_upd n2))⟩
    rw [upd_ne (ne_of_none hb n1)]
    exact g.own b o hb nb
theorem CalN.cal {P : Program} {w : World} {K : PySem.W.Frag} {mg : Str → Option Value} {base : Heap} {x : Str} {ps : List Str} {k : Nat} {m : List D → R D} (C : CalN P w K mg base x ps k m) : Cal P w K mg base x ps k m := by
  obtain ⟨f, fd, F, h⟩ := C.ex
  refine ⟨f, fd, F.imp fun vs H Q E q => ?_, h⟩
  obtain ⟨Hs, ds, q1, q2, q3, q4⟩ := q
  refine ⟨Hs, ds, q1, q2, q3, ?_⟩
  cases e : m ds with
  | ok d =>
    rw [e] at q4
    intro v H' Hs' g r
    obtain ⟨Hs2, g2, r2⟩ := frzG g r
    exact q4 v H' Hs2 g2 r2
  | err c => rw [e] at q4; exact q4
  | stk => rw [e] at q4; exact q4
section
variable {X : Cx} {W : WX} {ex : Expr} {f : EF} {l : LF} {x : Str} {pos pos' p : Pos}
theorem ppn_f (h : PPF X W ex l) : PPN X W ex (eL l) := by
  obtain ⟨t, p, h⟩ := h.out
  refine ⟨t, p, fun e σ H Hs Q s hp => h e σ H Hs Q s ?_⟩
  unfold eL at hp
  cases e1 : l e with
  | err c => rw [e1] at hp; exact hp
  | stk => rw [e1] at hp; exact hp
  | ok xs => rw [e1] at hp; exact fun v H' Hs' g r => hp v H' Hs' g (.inr ⟨xs, rfl, r⟩)
theorem ppn_non {j} : PPN X W (.Constant .none j pos) (eK .none) := ⟨_, pe_non, fun e σ H Hs Q s hp => hp .non H Hs (Grow.refl s.sub) (.inl ⟨rfl, .non⟩)⟩
theorem ppn_bl {i : Bool} {j} : PPN X W (.Constant (.bool i) j pos) (eK (.bool i)) := ⟨_, pe_bl, fun e σ H Hs Q s hp => hp (.bl i) H Hs (Grow.refl s.sub) (.inl ⟨rfl, .bl i⟩)⟩
theorem ppn_cal {a : Expr} {es : List Expr} {fs : LF} {ps : List Str} {k j : Nat} {m : List D → R D} (C : CalN X.prog X.w X.K X.mg X.base x ps k m) (hr : Room j X.A) (tk : Takes X W) (ha : PPA X W (a :: es) fs) (hj : k ≤ j := by decide)
    (hl : (a :: es).length = ps.length := by rfl) (hg : Gl X x := by rfl) (hdb : (x == ("__debug__" : Str)) = false := by decide)
    (he : starEach (a :: es) X.env = (false, eval a X.env) :: starEach es X.env := by rfl) (hpl : (backTo pos (starEach es X.env)).any (·.1) = false := by rfl) : PPN X W (.Call (.Name x p) (a :: es) [] pos) (eC m fs) := by
  obtain ⟨f, fd, F, hm, hk, hb⟩ := C.ex
  have hA := ha
  obtain ⟨⟨ta, pa, ha⟩, _⟩ := ha
  refine ⟨_, pe_callS F (hr.mono hj) hg hm hk hb (passAt tk) pa hdb he hpl, fun e σ H Hs Q s hp => ?_⟩
  refine ha e σ H Hs _ s (Post.bind (Rep2 := RepN X.K) hp (fun H1 s1 H' Hs' v d r => RepN.at s1 r) fun d1 vs H1 Hs1 hd g1 r1 hp1 => ?_)
  refine ⟨Hs1, d1, g1.sub, r1, by rw [hA.len e d1 hd]; exact hl, ?_⟩
  cases e2 : m d1 with
  | ok d => rw [e2] at hp1; exact hp1
  | err c => rw [e2] at hp1; exact hp1
  | stk => rw [e2] at hp1; exact hp1
theorem pps_retN (ha : PPN X W ex f) : PPS X W (RepN X.K) (.Return (some ex) pos) (sRet f) := by
  obtain ⟨ta, pa, ha⟩ := ha.out
  refine ⟨_, ps_ret pa, fun e σ H Hs H0 Hb Dn s hp => ?_⟩
  exact ha e σ H Hs _ s.sr (postS_bind s hp fun d v H1 Hs1 _ g1 s1 r1 hp1 => hp1 v H1 Hs1 s1.gr (RepN.at s.gr.all r1))
theorem pps_setN (i : Nat) (hN : X.N.Nodup) (ha : PPN X W ex f) {RT : RTT} (hx : Loc X.env.scope x := by first | exact Or.inl rfl | exact Or.inr rfl) (hi : X.N[i]? = some x := by rfl) (hs : swapsWith ex (some (.Name x pos')) pos.line X.env = pure false := by rfl)
    (hf : X.fn x = true ∨ X.env.scope.names.lookup x = some .local := by first | exact .inl rfl | exact .inr rfl) : PPS X W RT (.Assign [.Name x pos'] ex pos) (sSetN i f) := by
  obtain ⟨ta, pa, ha⟩ := ha.out
  refine ⟨_, ps_set hN hi hx pa hs hf, fun e σ H Hs H0 Hb Dn s hp => ?_⟩
  refine ha e σ H Hs _ s.sr (postS_bind s hp fun d v H1 Hs1 _ g1 s1 r1 hp1 => ?_)
  rcases r1 with ⟨hsc, r1⟩ | ⟨xs, rfl, p, vs, rfl, n1, h1, n2, r⟩
  · have e2 : svN d = .sh d := by
      cases d <;> first | rfl | (exact absurd (show false = true from hsc) Bool.false_ne_true)
    rw [e2] at hp1
    exact hp1 _ H1 Hs1 (s1.set i r1)
  · have fr : ∀ (j : Nat) (ys : List D), e[j]? = some (.ow ys) → σ[j]? ≠ some (some (.ref p)) := fun j ys hj hq => by
      obtain ⟨p2, vs2, b1, b2, b3, b4⟩ := s.sr.ow j ys hj
      rw [hq] at b1
      cases b1
      rw [n1] at b2
      cases b2
    refine hp1 _ H1 Hs1 ⟨s1.gr, s1.sr.setOw i h1 n2 r fr, fun j xs q g1' g2' => ?_⟩
    have g1' : (e.set i (SV.ow _))[j]? = some (.ow xs) := g1'
    rw [get_set] at g1' g2'
    by_cases z : i = j
    · rw [if_pos z] at g2'
      split at g2'
      · cases g2'
        exact s.gr.all.free n1
      · cases g2'
    · rw [if_neg z] at g1' g2'
      exact s.new j xs q g1' g2'
end
theorem start_ow {N : List Str} {ds : List D} (i : Nat) (xs : List D) : (ds.map SV.sh ++ List.replicate (N.length - ds.length) SV.no)[i]? ≠ some (.ow xs) := fun hi => by
  by_cases hlt : i < ds.length
  · rw [List.getElem?_append_left (by rw [List.length_map]; exact hlt), List.getElem?_map, List.getElem?_eq_getElem hlt] at hi
    cases hi
  · rw [List.getElem?_append_right (by rw [List.length_map]; omega)] at hi
    exact absurd hi replicate_no'
theorem sr_start {K : PySem.W.Frag} {H Hs : Hp} {N : List Str} {vs : List V} {ds : List D} (sm : Same Hs H) (r : RpA K Hs vs ds) : SR K (ds.map SV.sh ++ List.replicate (N.length - ds.length) SV.no) (L2.start N vs) H Hs := by
  refine ⟨sm, ?_, fun i d hi => ?_, fun i xs hi => absurd hi (start_ow i xs), fun i j xs ys q h1 h2 h3 h4 => absurd h1 (start_ow i xs)⟩
  · unfold L2.start
    rw [List.length_append, List.length_append, List.length_map, List.length_map, List.length_replicate, List.length_replicate, r.length]
  · unfold L2.start
    by_cases hlt : i < ds.length
    · rw [List.getElem?_append_left (by rw [List.length_map]; exact hlt), List.getElem?_map, List.getElem?_eq_getElem hlt] at hi
      cases hi
      obtain ⟨v, h1, h2⟩ := r.get (List.getElem?_eq_getElem hlt)
      refine ⟨v, ?_, h2⟩
      rw [List.getElem?_append_left (by rw [List.length_map, r.length]; exact hlt), List.getElem?_map, h1]
      rfl
    · rw [List.getElem?_append_right (by rw [List.length_map]; omega)] at hi
      exact absurd hi replicate_no
/-- a comprehension as a list of our own -/
theorem ppf_compF {X : Cx} {W : WX} {elt tg iter : Expr} {ifs : List Expr} {scope : Scope} {own : List (Str × Nat)} {cpos : Pos} {it : LF} {g : GF} {t : TF} {f : EF} {sl : List Nat}
    (hN : X.N.Nodup) (hi : PPI X W false tg iter it) (ok : blkC X.N X.env.scope scope own = true)
    (hg : ∀ (s : Shared) (H : Hp) (C : Addr) (cl : List (Str × Addr)) (fp : List Addr), PPG (X.blk s H scope (compEnvC scope cl C X.env) fp) tg sl g)
    (ht : ∀ (s : Shared) (H : Hp) (C : Addr) (cl : List (Str × Addr)) (fp : List Addr), PPTs (X.blk s H scope (compEnvC scope cl C X.env) fp) noW ifs t)
    (he : ∀ (s : Shared) (H : Hp) (C : Addr) (cl : List (Str × Addr)) (fp : List Addr), PPE (X.blk s H scope (compEnvC scope cl C X.env) fp) noW elt f) (hsl : ∀ i ∈ sl, i ∈ own.map (·.2) := by decide)
    (hc : X.calm = true := by rfl) (hs : ∀ x, foldedSetIterable iter X.env x = pure x := by intro _; rfl) :
    PPF X W (.ListComp elt [⟨tg, iter, ifs, 0⟩] scope cpos) (cmp it (own.map (·.2)) g t f) := by
  obtain ⟨tl, h1, h2, h3⟩ := ppf_comp (W := W) (pos := cpos) hN hi ok hg ht he hsl hc
  exact PPF.of_comp (W := W) (h1 hs) h3
/-- a def, what it hands back -/
theorem fnN_of {P : Program} {w : World} {K : PySem.W.Frag} {mg : Str → Option Value} {base : Heap} {x qual : Str} {st : Stmt} {f : Addr} {fd : FuncData} {N ps : List Str} {k : Nat} {b : SF} (F : Fun K x qual st f fd) (S : FnScope N ps (defScope st))
    (hbody : ∀ (cdv : Value) (A : Around) (outer : List PySem.Env) (s : Shared) (H : Hp) (E : XK), Room k (A.deeper (envOfC qual (defScope st) s.heap.objs.size f cdv)) →
      PPSs (cxOf (L2.CX P w) P w K mg base N qual (defScope st) f cdv A outer s H E) (fun cls d _ H => E cls d H) (RepN K) (defBody st) b) :
    FnN P w K mg base (k + 1) f fd ps (fnR N.length b) := by
  refine F.okX S (fun vs H Q E h => ?_) fun cdv A outer s H vs Q E hr h => ?_
  · obtain ⟨Hs, ds, _, r, hl, _⟩ := h
    rw [r.length]; exact hl
  · obtain ⟨Hs, ds, sm, r, hl, h⟩ := h
    obtain ⟨t, p, ht⟩ := (hbody cdv A outer s H E hr).out
    refine ⟨t, p, ht (ds.map SV.sh ++ List.replicate (N.length - ds.length) SV.no) (L2.start N vs) H Hs H Hs _ ⟨Grow.refl sm, sr_start sm r, fun i xs q h1 h2 => ?_⟩ ?_⟩
    · exact absurd h1 (start_ow i xs)
    · unfold fnR at h
      cases e1 : b (ds.map SV.sh ++ List.replicate (N.length - ds.length) SV.no) with
      | next e' => rw [e1] at h; exact fun σ' H' Hs' s' => h .non H' Hs' s'.gr (.inl ⟨rfl, .non⟩)
      | ret d => rw [e1] at h; exact fun v H' Hs' g rt => h v H' Hs' g rt
      | brk e' => rw [e1] at h; exact (show False from h).elim
      | cont e' => rw [e1] at h; exact (show False from h).elim
      | err c => rw [e1] at h; exact fun σ' H' g _ => h H' g
      | stk => rw [e1] at h; exact h
end PL

namespace PL
open PySem PySem.Spec PyProof.Rows L2
section
variable {X : Cx} {W : WX} {pos apos : Pos} {o a : Expr} {f g : EF}
theorem cs_str : CaS X (.type "str") bStr := by
  refine ⟨_, call_str_int, fun W σ H Hs xs ds Q s hx hp => ?_⟩
  unfold bStr at hp
  split at hp
  · split at hp
    · rename_i i hi
      obtain ⟨v, rfl, hv⟩ := boA1 hx
      refine ⟨i, by rw [hv.int], ?_, hp _ H Hs (Grow.refl s) (.str _)⟩
      by_cases h : i.natAbs = 0
      · rw [h]; decide
      · have := (Nat.log2_lt h).mpr hi
        omega
    · exact (show False from hp).elim
  · exact (show False from hp).elim
theorem strs_rp {K : PySem.W.Frag} {H : Hp} : ∀ {ds : List D} {vs : List V} {ys : List Str}, RpA K H vs ds → asSs ds = .ok ys → vs = ys.map V.str
  | [], _, ys, h, e => by cases h; cases e; rfl
  | d :: ds, vs, ys, h, e => by
    cases h with
    | cons h1 h2 =>
      cases d with
      | str b =>
        cases h1
        have e' : (asSs ds).bind (fun bs => R.ok (b :: bs)) = .ok ys := e
        cases e2 : asSs ds with
        | ok zs => rw [e2] at e'; cases e'; rw [strs_rp h2 e2]; rfl
        | err c => rw [e2] at e'; cases e'
        | stk => rw [e2] at e'; cases e'
      | _ => cases e
theorem asSs_no : ∀ {ds : List D} {c : Str}, asSs ds ≠ .err c
  | [], _, h => by cases h
  | d :: ds, c, h => by
    cases d with
    | str b =>
      have h' : (asSs ds).bind (fun bs => R.ok (b :: bs)) = .err c := h
      cases e : asSs ds with
      | ok zs => rw [e] at h'; cases h'
      | err c' => exact asSs_no e
      | stk => rw [e] at h'; cases h'
    | _ => cases h
theorem ppe_join (ho : PPB X W o f) (ha : PPB X W a g) (hs : starEach [a] X.env = [(false, eval a X.env)] := by rfl) (hbase : attributeBase o "join" X.env (eval o X.env) = eval o X.env := by rfl) (hline : (apos.endLine == pos.line) = true := by rfl) :
    PPE X W (.Call (.Attribute o "join" apos) [a] [] pos) (eJn f g) := by
  obtain ⟨to, po, ho⟩ := ho.out
  obtain ⟨ta, pa, ha⟩ := ha.out
  refine ⟨_, pe_join po pa hs hbase hline, fun e σ H Hs Q s hp => ?_⟩
  unfold eJn at hp
  refine ho e σ H Hs _ s (Post.bind (Rep2 := RepE X.K) hp anE fun d1 x H1 Hs1 _ g1 r1 hp1 => ?_)
  obtain ⟨z, rfl⟩ : ∃ z, d1 = .str z := by
    cases d1 <;> first
      | exact (show False from hp1).elim
      | exact ⟨_, rfl⟩
  have ex := r1.str
  subst ex
  refine ⟨⟨z, rfl⟩, ha e σ H1 Hs1 _ (s.grow g1) (Post.bind (Rep2 := RepE X.K) (r := g e) (k := fun b => opJoin (.str z) b) hp1 anE fun d2 y H2 Hs2 _ g2 r2 hp2 => ?_)⟩
  obtain ⟨xs, rfl⟩ : ∃ xs, d2 = .list xs := by
    cases d2 <;> first
      | exact (show False from hp2).elim
      | exact ⟨_, rfl⟩
  obtain ⟨p, vs, rfl, h1, h2⟩ := r2.list g2.sub
  have hp3 : Post X W σ H2 Hs2 (RepE X.K) ((asSs xs).bind fun ys => if (ys.map (·.length)).sum + ys.length * z.length ≤ szL then R.ok (.str (Str.join z ys)) else .stk) Q := hp2
  cases e1 : asSs xs with
  | err c =>
    exfalso
    exact asSs_no e1
  | stk => rw [e1] at hp3; exact (show False from hp3).elim
  | ok ys =>
    rw [e1, R.bind_ok] at hp3
    split at hp3
    · rename_i hl
      refine ⟨z, p, ys, rfl, rfl, .inl (by rw [← strs_rp h2 e1]; exact SqL.of h1), hl, ?_⟩
      rw [TL.join_eq]
      exact hp3 _ H2 Hs2 (Grow.refl g2.sub) (.str _)
    · exact (show False from hp3).elim
/-- what isn't told -/
theorem ppss_stk {RT : RTT} {st : List Stmt} : PPSs X W RT st sStk := ⟨fun _ _ _ => False, ⟨fun pins s σ H D I h => h.elim⟩, fun e σ H Hs H0 Hb Dn s hp => hp⟩
end
end PL

namespace PL
open PySem PySem.Spec PyProof.Rows L2
/-! ### a list of lists that are nobody else's -/
inductive TrA (K : PySem.W.Frag) (H Hs : Hp) : List V → List (List D) → Prop
  | nil : TrA K H Hs [] []
  | cons {q : Addr} {vs ws : List V} {xs : List D} {xss : List (List D)} : H q = some (.lst vs) → Hs q = none → RpA K Hs vs xs → V.ref q ∉ ws → TrA K H Hs ws xss → TrA K H Hs (.ref q :: ws) (xs :: xss)
def RepTr (K : PySem.W.Frag) : Hp → Hp → Hp → V → List (List D) → Prop := fun H H' Hs' v xss => ∃ p ws, v = .ref p ∧ H p = none ∧ H' p = some (.lst ws) ∧ Hs' p = none ∧ TrA K H' Hs' ws xss ∧ V.ref p ∉ ws ∧ ∀ q, V.ref q ∈ ws → H q = none
abbrev RepTrD (K : PySem.W.Frag) : Hp → Hp → Hp → V → D → Prop := fun H H' Hs' v d => ∃ xss : List (List D), d = .list (xss.map .list) ∧ RepTr K H H' Hs' v xss
section
variable {K : PySem.W.Frag} {H Hs H1 Hs1 H' Hs' : Hp} {v : V}
theorem TrA.length {ws : List V} {xss : List (List D)} (t : TrA K H Hs ws xss) : ws.length = xss.length := by
  induction t with
  | nil => rfl
  | cons _ _ _ _ _ ih => rw [List.length_cons, List.length_cons, ih]
theorem TrA.grow {ws : List V} {xss : List (List D)} (t : TrA K H Hs ws xss) (g : Grow H Hs H1 Hs1) : TrA K H1 Hs1 ws xss := by
  induction t with
  | nil => exact .nil
  | cons h1 h2 h3 h4 _ ih => exact .cons (g.all _ _ h1) (g.own _ _ h1 h2) (h3.up g.sh) h4 ih
theorem TrA.snoc {ws : List V} {xss : List (List D)} (t : TrA K H Hs ws xss) {q : Addr} {vs : List V} {xs : List D} (h1 : H q = some (.lst vs)) (h2 : Hs q = none) (h3 : RpA K Hs vs xs) (h4 : V.ref q ∉ ws) : TrA K H Hs (ws ++ [.ref q]) (xss ++ [xs]) := by
  induction t with
  | nil => exact .cons h1 h2 h3 (by simp) .nil
  | cons g1 g2 g3 g4 _ ih =>
    refine .cons g1 g2 g3 (fun hm => ?_) (ih fun hm => h4 (List.mem_cons_of_mem _ hm))
    rcases List.mem_append.mp hm with hm | hm
    · exact g4 hm
    · exact h4 (by rw [List.mem_singleton.mp hm]; exact List.mem_cons_self)
/-- from here on the lists are data -/
theorem TrA.frz {ws : List V} {xss : List (List D)} (t : TrA K H Hs ws xss) (s : Same Hs H) : ∃ Hs2, Same Hs Hs2 ∧ Same Hs2 H ∧ RpA K Hs2 ws (xss.map .list) ∧ ∀ b, Hs b = none → V.ref b ∉ ws → Hs2 b = none := by
  induction t with
  | nil => exact ⟨Hs, Same.refl _, s, .nil, fun _ h _ => h⟩
  | @cons q vs ws xs xss h1 h2 h3 h4 _ ih =>
    obtain ⟨Hs2, a1, a2, a3, a4⟩ := ih
    have nq : Hs2 q = none := a4 q h2 h4
    have sm : Same Hs2 (upd Hs2 q (.lst vs)) := same_upd nq
    refine ⟨upd Hs2 q (.lst vs), a1.trans sm, fun b o hb => ?_, .cons (.lst upd_same (h3.up (a1.trans sm))) (a3.up sm), fun b hb nb => ?_⟩
    · by_cases e : b = q
      · subst e; rw [upd_same] at hb; cases hb; exact h1
      · rw [upd_ne e] at hb; exact a2 _ _ hb
    · have e : b ≠ q := fun e => nb (by rw [e]; exact List.mem_cons_self)
      rw [upd_ne e]
      exact a4 b hb fun hm => nb (List.mem_cons_of_mem _ hm)
theorem RepTr.at {xss : List (List D)} (s : Same H H1) (r : RepTr K H1 H' Hs' v xss) : RepTr K H H' Hs' v xss := by
  obtain ⟨p, ws, e, h1, h2, h3, h4, h5, h6⟩ := r
  exact ⟨p, ws, e, s.free h1, h2, h3, h4, h5, fun q hq => s.free (h6 q hq)⟩
theorem tree_frz {p : Addr} {ws : List V} {xss : List (List D)} (h2 : H p = some (.lst ws)) (h3 : Hs p = none) (h4 : TrA K H Hs ws xss) (h5 : V.ref p ∉ ws) (s : Same Hs H) : ∃ Hs2, Same Hs Hs2 ∧ Same Hs2 H ∧ Rp K Hs2 (.ref p) (.list (xss.map .list)) ∧ ∀ b, Hs b = none → b ≠ p → V.ref b ∉ ws → Hs2 b = none := by
  obtain ⟨Hs2, a1, a2, a3, a4⟩ := h4.frz s
  have np : Hs2 p = none := a4 p h3 h5
  have sm : Same Hs2 (upd Hs2 p (.lst ws)) := same_upd np
  refine ⟨upd Hs2 p (.lst ws), a1.trans sm, fun b o hb => ?_, .lst upd_same (a3.up sm), fun b hb e nb => ?_⟩
  · by_cases e : b = p
    · subst e; rw [upd_same] at hb; cases hb; exact h2
    · rw [upd_ne e] at hb; exact a2 _ _ hb
  · rw [upd_ne e]; exact a4 b hb nb
theorem frzT {d : D} (g : Grow H Hs H' Hs') (r : RepTrD K H H' Hs' v d) : ∃ Hs2, Grow H Hs H' Hs2 ∧ Rp K Hs2 v d := by
  obtain ⟨xss, rfl, p, ws, rfl, h1, h2, h3, h4, h5, h6⟩ := r
  obtain ⟨Hs2, a1, a2, a3, a4⟩ := tree_frz h2 h3 h4 h5 g.sub
  refine ⟨Hs2, ⟨g.all, g.sh.trans a1, a2, fun b o hb nb => ?_⟩, a3⟩
  exact a4 b (g.own b o hb nb) (ne_of_none hb h1) fun hm => by
    have := h6 b hm
    rw [hb] at this
    cases this
end
structure PPTr (X : Cx) (W : WX) (ex : Expr) (f : Env → R (List (List D))) : Prop where
  out : ∃ t : TE, PE X ex t ∧ ∀ e σ H Hs Q, SR X.K e σ H Hs → Post X W σ H Hs (RepTr X.K) (f e) Q → t σ H Q
def pureSpT (K : PySem.W.Frag) (mg : Str → Option Value) (n : Nat) (m : List D → R D) : Sp := fun vs H Q E => ∃ Hs ds, Same Hs H ∧ RpA K Hs vs ds ∧ ds.length = n ∧
  (match m ds with
    | .ok d => ∀ v H' Hs', Grow H Hs H' Hs' → RepTrD K H H' Hs' v d → Q v H'
    | .err c => ∀ H', Same H H' → E (clsV mg c) none H'
    | .stk => False)
abbrev FnT (P : Program) (w : World) (K : PySem.W.Frag) (mg : Str → Option Value) (base : Heap) (k : Nat) (f : Addr) (fd : FuncData) (ps : List Str) (m : List D → R D) : Prop :=
  FnOk P w K mg base (L2.CX P w) k f fd ps (pureSpT K mg ps.length m)
structure CalT (P : Program) (w : World) (K : PySem.W.Frag) (mg : Str → Option Value) (base : Heap) (x : Str) (ps : List Str) (k : Nat) (m : List D → R D) : Prop where
  ex : ∃ f fd, FnT P w K mg base k f fd ps m ∧ mg x = some (.ref f) ∧ PySem.W.keepIn K (.ref f) = true ∧ Binds K fd ps []
theorem CalT.cal {P : Program} {w : World} {K : PySem.W.Frag} {mg : Str → Option Value} {base : Heap} {x : Str} {ps : List Str} {k : Nat} {m : List D → R D} (C : CalT P w K mg base x ps k m) : Cal P w K mg base x ps k m := by
  obtain ⟨f, fd, F, h⟩ := C.ex
  refine ⟨f, fd, F.imp fun vs H Q E q => ?_, h⟩
  obtain ⟨Hs, ds, q1, q2, q3, q4⟩ := q
  refine ⟨Hs, ds, q1, q2, q3, ?_⟩
  cases e : m ds with
  | ok d =>
    rw [e] at q4
    intro v H' Hs' g r
    obtain ⟨Hs2, g2, r2⟩ := frzT g r
    exact q4 v H' Hs2 g2 r2
  | err c => rw [e] at q4; exact q4
  | stk => rw [e] at q4; exact q4
section
variable {X : Cx} {W : WX} {ex a : Expr} {f : EF} {l : LF} {x : Str} {pos pos' p : Pos}
theorem pps_retT {ft : Env → R (List (List D))} (ha : PPTr X W ex ft) : PPS X W (RepTrD X.K) (.Return (some ex) pos) (sRet (eTr ft)) := by
  obtain ⟨ta, pa, ha⟩ := ha.out
  refine ⟨_, ps_ret pa, fun e σ H Hs H0 Hb Dn s hp => ?_⟩
  refine ha e σ H Hs _ s.sr ?_
  unfold sRet eTr at hp
  cases e1 : ft e with
  | ok xss =>
    rw [e1] at hp
    exact fun v H1 Hs1 g1 r1 => hp v H1 Hs1 (s.gr.trans g1) ⟨xss, rfl, RepTr.at s.gr.all r1⟩
  | err c =>
    rw [e1] at hp
    exact fun H' s' => hp σ H' (s.gr.all.trans s') ((s.gr.sh.trans s.gr.sub).trans s')
  | stk => rw [e1] at hp; exact hp
/-- list(x) of a list -/
theorem ppf_lst (ha : PPB X W a f) (hm : X.mg "list" = none) (hg : Gl X "list" := by rfl) (he : starEach [a] X.env = (false, eval a X.env) :: starEach [] X.env := by rfl) (hpl : (backTo pos (starEach [] X.env)).any (·.1) = false := by rfl) :
    PPF X W (.Call (.Name "list" p) [a] [] pos) (lLst f) := by
  obtain ⟨ta, pa, ha⟩ := ha.out
  refine ⟨_, pe_callTy call_list_of hg hm boot_list (pa_cons pa pa_nil he) (by decide) (by decide) he hpl, fun e σ H Hs Q s hp => ?_⟩
  unfold lLst at hp
  refine ha e σ H Hs _ s (Post.bind (Rep2 := RepF X.K) hp (fun H1 s1 H' Hs' v xs ⟨p, vs, h0, h1, h2⟩ => ⟨p, vs, h0, s1.free h1, h2⟩) fun d v H1 Hs1 _ g1 r1 hp1 => ?_)
  obtain ⟨xs, rfl⟩ : ∃ xs, d = .list xs := by
    cases d <;> first
      | exact (show False from hp1).elim
      | exact ⟨_, rfl⟩
  obtain ⟨q, vs, rfl, h1, r2⟩ := r1.list g1.sub
  exact ⟨q, vs, rfl, .inl (SqL.of h1), fun l hl => hp1 _ _ _ (Grow.gar g1.sub hl) ⟨l, vs, rfl, hl, upd_same, g1.sub.free hl, r2⟩⟩
end
theorem fnT_of {P : Program} {w : World} {K : PySem.W.Frag} {mg : Str → Option Value} {base : Heap} {x qual : Str} {st : Stmt} {f : Addr} {fd : FuncData} {N ps : List Str} {k : Nat} {b : SF} (F : Fun K x qual st f fd) (S : FnScope N ps (defScope st))
    (hbody : ∀ (cdv : Value) (A : Around) (outer : List PySem.Env) (s : Shared) (H : Hp) (E : XK), Room k (A.deeper (envOfC qual (defScope st) s.heap.objs.size f cdv)) →
      PPSs (cxOf (L2.CX P w) P w K mg base N qual (defScope st) f cdv A outer s H E) (fun cls d _ H => E cls d H) (RepTrD K) (defBody st) b) :
    FnT P w K mg base (k + 1) f fd ps (fnRT N.length b) := by
  refine F.okX S (fun vs H Q E h => ?_) fun cdv A outer s H vs Q E hr h => ?_
  · obtain ⟨Hs, ds, _, r, hl, _⟩ := h
    rw [r.length]; exact hl
  · obtain ⟨Hs, ds, sm, r, hl, h⟩ := h
    obtain ⟨t, p, ht⟩ := (hbody cdv A outer s H E hr).out
    refine ⟨t, p, ht (ds.map SV.sh ++ List.replicate (N.length - ds.length) SV.no) (L2.start N vs) H Hs H Hs _ ⟨Grow.refl sm, sr_start sm r, fun i xs q h1 h2 => ?_⟩ ?_⟩
    · exact absurd h1 (start_ow i xs)
    · unfold fnRT at h
      cases e1 : b (ds.map SV.sh ++ List.replicate (N.length - ds.length) SV.no) with
      | next e' => rw [e1] at h; exact (show False from h).elim
      | ret d => rw [e1] at h; exact fun v H' Hs' g rt => h v H' Hs' g rt
      | brk e' => rw [e1] at h; exact (show False from h).elim
      | cont e' => rw [e1] at h; exact (show False from h).elim
      | err c => rw [e1] at h; exact fun σ' H' g _ => h H' g
      | stk => rw [e1] at h; exact h
section
variable {X : Cx} {W : WX} {elt tg iter : Expr} {scope : Scope} {own : List (Str × Nat)} {pos : Pos} {it : LF} {g : GF} {lf : LF} {sl : List Nat}
theorem TrA.has {K : PySem.W.Frag} {H Hs : Hp} {ws : List V} {xss : List (List D)} (t : TrA K H Hs ws xss) {q : Addr} (hm : V.ref q ∈ ws) : ∃ vs, H q = some (.lst vs) ∧ Hs q = none := by
  induction t with
  | nil => cases hm
  | cons h1 h2 _ _ _ ih =>
    rcases List.mem_cons.mp hm with h | h
    · cases h; exact ⟨_, h1, h2⟩
    · exact ih h
theorem TrA.upd {K : PySem.W.Frag} {H Hs : Hp} {ws : List V} {xss : List (List D)} (t : TrA K H Hs ws xss) {D : Addr} {o : HO} (h : V.ref D ∉ ws) : TrA K (L2.upd H D o) Hs ws xss := by
  induction t with
  | nil => exact .nil
  | @cons q vs ws xs xss h1 h2 h3 h4 _ ih =>
    have e : q ≠ D := fun e => h (by rw [e]; exact List.mem_cons_self)
    exact .cons (by rw [upd_ne e]; exact h1) h2 h3 h4 (ih fun hm => h (List.mem_cons_of_mem _ hm))
theorem ppt_comp0 (hN : X.N.Nodup) (hi : PPI X W false tg iter it) (ok : blkC X.N X.env.scope scope own = true)
    (hg : ∀ (s : Shared) (H : Hp) (C : Addr) (cl : List (Str × Addr)) (fp : List Addr), PPG (X.blk s H scope (compEnvC scope cl C X.env) fp) tg sl g)
    (he : ∀ (s : Shared) (H : Hp) (C : Addr) (cl : List (Str × Addr)) (fp : List Addr), PPF (X.blk s H scope (compEnvC scope cl C X.env) fp) noW elt lf) (hsl : ∀ i ∈ sl, i ∈ own.map (·.2) := by decide)
    (hc : X.calm = true := by rfl) :
    ∃ tl, (∀ (hs : ∀ x, foldedSetIterable iter X.env x = pure x), PE X (.ListComp elt [⟨tg, iter, [], 0⟩] scope pos) tl) ∧
      (∀ {i : Nat} {y : Str} {py : Pos} {spos : Pos} (hs : ∀ x, foldedSetIterable iter X.env x = pure x) (hy : X.N[i]? = some y) (hyl : X.env.scope.names.lookup y = some .local)
        (hsw : swapsWith (.ListComp elt [⟨tg, iter, [], 0⟩] scope pos) (some (.Name y py)) spos.line X.env = pure true), PS X (.Assign [.Name y py] (.ListComp elt [⟨tg, iter, [], 0⟩] scope pos) spos) (tAsg tl (gName i))) ∧
      ∀ e σ H Hs Q, SR X.K e σ H Hs → Post X W σ H Hs (RepTr X.K) (cmpT it (own.map (·.2)) g lf e) Q → tl σ H Q := by
  obtain ⟨wi, pi, hi⟩ := hi.out
  have okB := blkOk_by ok
  have pg : ∀ (s : Shared) (H : Hp) (C : Addr) (cl : List (Str × Addr)) (fp : List Addr), PG (X.blk s H scope (compEnvC scope cl C X.env) fp) tg (fun v σ1 H1 Q1 => ∀ s H C cl fp, Classical.choose (hg s H C cl fp).out v σ1 H1 Q1) :=
    fun s H C cl fp => ⟨fun pins s1 σ1 H1 v u Q1 I r h => (Classical.choose_spec (hg s H C cl fp).out).1.run pins s1 σ1 H1 v u Q1 I r (h s H C cl fp)⟩
  have ht : ∀ (s : Shared) (H : Hp) (C : Addr) (cl : List (Str × Addr)) (fp : List Addr), PPTs (X.blk s H scope (compEnvC scope cl C X.env) fp) noW [] qY := fun _ _ _ _ _ => ppts_nil
  have pt : ∀ (s : Shared) (H : Hp) (C : Addr) (cl : List (Str × Addr)) (fp : List Addr), PTs (X.blk s H scope (compEnvC scope cl C X.env) fp) [] (fun σ1 H1 Q1 => ∀ s H C cl fp, Classical.choose (ht s H C cl fp).out σ1 H1 Q1) :=
    fun s H C cl fp => ⟨fun pins s1 σ1 H1 Q1 I h => (Classical.choose_spec (ht s H C cl fp).out).1.run pins s1 σ1 H1 Q1 I (h s H C cl fp)⟩
  have pe : ∀ (s : Shared) (H : Hp) (C : Addr) (cl : List (Str × Addr)) (fp : List Addr), PE (X.blk s H scope (compEnvC scope cl C X.env) fp) elt (fun σ1 H1 Q1 => ∀ s H C cl fp, Classical.choose (he s H C cl fp).out σ1 H1 Q1) :=
    fun s H C cl fp => ⟨fun pins s1 σ1 H1 Q1 I h => (Classical.choose_spec (he s H C cl fp).out).1.run pins s1 σ1 H1 Q1 I (h s H C cl fp)⟩
  refine ⟨_, fun hs => pe_lc hc hN pi okB pg pt pe hs, fun hs hy hyl hsw => ps_setLc hc hN hy hyl hsw pi okB pg pt pe hs, fun e σ H Hs Q s hp => ?_⟩
  -- the reading
  refine hi e σ H Hs _ s ?_
  unfold cmpT at hp
  cases e1 : it e with
  | err c => rw [e1] at hp; exact hp
  | stk => rw [e1] at hp; exact hp
  | ok xs =>
    rw [e1, R.bind_ok] at hp
    split at hp
    · rename_i hz
      intro J H1 Hs1 g1 io D nD
      cases e2 : cLoopT g lf (wip (own.map (·.2)) e) xs with
      | err c =>
        have no : ∀ (l : List PyData), cLoopT g lf (wip (own.map (·.2)) e) l ≠ .err c := fun l => by
          induction l with
          | nil => exact fun h => nomatch h
          | cons x r ih =>
            unfold cLoopT
            cases q1 : (g x (wip (own.map (·.2)) e)).calm with
            | err c' => exact absurd q1 R.calm_noerr
            | stk => exact fun h => nomatch h
            | ok a1 =>
              rw [R.bind_ok]
              cases q3 : (lf a1).calm with
              | err c' => exact absurd q3 R.calm_noerr
              | stk => exact fun h => nomatch h
              | ok d =>
                rw [R.bind_ok]
                cases q4 : cLoopT g lf (wip (own.map (·.2)) e) r with
                | err c' => intro h; cases h; exact ih q4
                | stk => exact fun h => nomatch h
                | ok ds => exact fun h => nomatch h
        exact absurd e2 (no xs)
      | stk => rw [e2] at hp; exact (show False from hp).elim
      | ok tot =>
        rw [e2] at hp
        refine ⟨fun i m H2 => m = xs.length - i ∧ i ≤ xs.length ∧ ∃ Hs2 acc ads ods, Grow H1 Hs1 H2 Hs2 ∧ H2 D = some (.lst acc) ∧ Hs2 D = none ∧ (TrA X.K H2 Hs2 acc ads ∧ V.ref D ∉ acc ∧ ∀ q, V.ref q ∈ acc → H1 q = none) ∧ ads.length ≤ i ∧ cLoopT g lf (wip (own.map (·.2)) e) (xs.drop i) = .ok ods ∧ tot = ads ++ ods,
          ⟨xs.length, rfl, Nat.zero_le _, Hs1, [], [], tot, Grow.gar g1.sub nD, upd_same, g1.sub.free nD, ⟨.nil, (by simp), (by simp)⟩, Nat.le_refl _, by rw [List.drop_zero]; exact e2, rfl⟩, fun i m H2 hW => ?_⟩
        obtain ⟨hm, hi', Hs2, acc, ads, ods, g2, hD, nD2, ra, hla, hc2, htot⟩ := hW
        obtain ⟨i1, i2⟩ := io i H2 Hs2 g2.all g2.sh g2.sub
        by_cases hlt : i < xs.length
        · right
          obtain ⟨go, yl⟩ := i1 hlt
          refine ⟨go, fun H3 => ∃ Hs3 acc ads ods, Grow H1 Hs1 H3 Hs3 ∧ H3 D = some (.lst acc) ∧ Hs3 D = none ∧ (TrA X.K H3 Hs3 acc ads ∧ V.ref D ∉ acc ∧ ∀ q, V.ref q ∈ acc → H1 q = none) ∧ ads.length ≤ i + 1 ∧ cLoopT g lf (wip (own.map (·.2)) e) (xs.drop (i + 1)) = .ok ods ∧ tot = ads ++ ods,
            fun H3 h3 => ⟨xs.length - (i + 1), by omega, rfl, hlt, h3⟩, fun x H3 y => ?_⟩
          obtain ⟨Hs3, g3, rx⟩ := yl x H3 y
          rw [List.drop_eq_getElem_cons hlt] at hc2
          unfold cLoopT at hc2
          have s3 : SR X.K (wip (own.map (·.2)) e) (wipe σ (own.map (·.2))) H3 Hs3 := ((s.grow g1).grow g2).grow g3 |>.wip _
          cases q1 : (g xs[i] (wip (own.map (·.2)) e)).calm with
          | err c => exact absurd q1 R.calm_noerr
          | stk => rw [q1] at hc2; cases hc2
          | ok ea =>
            rw [q1, R.bind_ok] at hc2
            have q1' : g xs[i] (wip (own.map (·.2)) e) = .ok ea := post_calm (B := Unit) (σ := σ) (H := H) (Hs := Hs) (Rep := fun _ _ _ _ _ => True) (Q := fun _ _ => True) q1
            intro zs zH zC zcl zfp
            refine (Classical.choose_spec (hg zs zH zC zcl zfp).out).2 x xs[i] _ _ H3 Hs3 _ s3 rx ?_
            rw [q1']
            intro σ4 s4 w4 _
            refine ⟨(w4 _ hsl).trans (wipe_wipe _ _), ?_⟩
            intro zs zH zC zcl zfp
            refine (Classical.choose_spec (ht zs zH zC zcl zfp).out).2 ea σ4 H3 Hs3 _ s4 ?_
            show Post _ _ _ _ _ _ (R.ok true) _
            intro b' H4 Hs4 g4 eb
            subst eb
            have hD4 : H4 D = some (.lst acc) := g4.all _ _ (g3.all _ _ hD)
            have nD3 : Hs3 D = none := g3.own _ _ hD nD2
            have nD4 : Hs4 D = none := g4.own _ _ (g3.all _ _ hD) nD3
            rw [if_pos rfl]
            cases q3 : (lf ea).calm with
            | err c => exact absurd q3 R.calm_noerr
            | stk => rw [q3] at hc2; cases hc2
            | ok d =>
              rw [q3, R.bind_ok] at hc2
              have q3' : lf ea = .ok d := by
                cases e9 : lf ea with
                | ok d' => rw [e9] at q3; cases q3; rfl
                | err c => rw [e9] at q3; cases q3
                | stk => rw [e9] at q3; cases q3
              intro zs zH zC zcl zfp
              refine (Classical.choose_spec (he zs zH zC zcl zfp).out).2 ea σ4 H4 Hs4 _ (s4.grow g4) ?_
              rw [q3']
              intro y5 H5 Hs5 g5 ry
              obtain ⟨q, vs, rfl, nq, hq, nq5, rq⟩ := ry
              have hD5 : H5 D = some (.lst acc) := g5.all _ _ hD4
              have nD5 : Hs5 D = none := g5.own _ _ hD4 nD4
              refine ⟨acc, hD5, by rw [ra.1.length]; show ads.length < 16777216; have hz' : xs.length ≤ 16777216 := hz; omega, ?_⟩
              cases q4 : cLoopT g lf (wip (own.map (·.2)) e) (xs.drop (i + 1)) with
              | err c => rw [q4] at hc2; cases hc2
              | stk => rw [q4] at hc2; cases hc2
              | ok ds =>
                rw [q4] at hc2
                cases hc2
                have g25 := ((g2.trans g3).trans g4).trans g5
                have qD : q ≠ D := fun z => by rw [z, hD4] at nq; cases nq
                have qa : V.ref q ∉ acc := fun hm => by
                  obtain ⟨o, ho, _⟩ := ra.1.has hm
                  have := g4.all _ _ (g3.all _ _ ho)
                  rw [nq] at this
                  cases this
                have t5 : TrA X.K H5 Hs5 (acc ++ [.ref q]) (ads ++ [d]) := (((ra.1.grow g3).grow g4).grow g5).snoc hq nq5 rq qa
                have nDa : V.ref D ∉ acc ++ [.ref q] := fun hm => by
                  rcases List.mem_append.mp hm with hm | hm
                  · exact ra.2.1 hm
                  · exact qD (V.ref.inj (List.mem_singleton.mp hm)).symm
                refine ⟨Hs5, acc ++ [.ref q], ads ++ [d], ds, ⟨fun p o hp => ?_, g25.sh, fun p o hp => ?_, g25.own⟩, upd_same, nD5, ⟨t5.upd nDa, nDa, fun b hb => ?_⟩, by rw [List.length_append]; simpa using hla, rfl, by rw [htot, List.append_assoc]; rfl⟩
                · rw [upd_ne (ne_of_none hp nD)]
                  exact g25.all _ _ hp
                · rw [upd_ne (ne_of_none hp nD5)]
                  exact g25.sub _ _ hp
                · rcases List.mem_append.mp hb with hb | hb
                  · exact ra.2.2 b hb
                  · cases List.mem_singleton.mp hb
                    exact ((g2.all.trans g3.all).trans g4.all).free nq
        · left
          have ei : i = xs.length := by omega
          refine ⟨i2 ei, ?_⟩
          rw [ei, List.drop_length] at hc2
          cases hc2
          rw [List.append_nil] at htot
          subst htot
          exact hp _ H2 Hs2 (g1.trans g2) ⟨D, acc, rfl, g1.all.free nD, hD, nD2, ra.1, ra.2.1, fun q hq => g1.all.free (ra.2.2 q hq)⟩
    · exact (show False from hp).elim
theorem ppt_comp (hN : X.N.Nodup) (hi : PPI X W false tg iter it) (ok : blkC X.N X.env.scope scope own = true)
    (hg : ∀ (s : Shared) (H : Hp) (C : Addr) (cl : List (Str × Addr)) (fp : List Addr), PPG (X.blk s H scope (compEnvC scope cl C X.env) fp) tg sl g)
    (he : ∀ (s : Shared) (H : Hp) (C : Addr) (cl : List (Str × Addr)) (fp : List Addr), PPF (X.blk s H scope (compEnvC scope cl C X.env) fp) noW elt lf) (hsl : ∀ i ∈ sl, i ∈ own.map (·.2) := by decide)
    (hc : X.calm = true := by rfl) (hs : ∀ x, foldedSetIterable iter X.env x = pure x := by intro _; rfl) :
    PPTr X W (.ListComp elt [⟨tg, iter, [], 0⟩] scope pos) (cmpT it (own.map (·.2)) g lf) := by
  obtain ⟨tl, h1, h2, h3⟩ := ppt_comp0 (W := W) (pos := pos) hN hi ok hg he hsl hc
  exact ⟨tl, h1 hs, h3⟩
end
end PL

namespace PL
open PySem PySem.Spec PyProof.Rows L2
/-! ### statements where a slot holds a list of lists that are nobody else's -/
structure SBT (K : PySem.W.Frag) (H0 Hb : Hp) (e : Env) (σ : St) (H Hs : Hp) (i : Nat) (p : Addr) (ws : List V) (xss : List (List D)) : Prop where
  sb : SB K H0 Hb e σ H Hs
  slot : e[i]? = some (.sh (adr p))
  h : H p = some (.lst ws)
  n : Hs p = none
  n0 : H0 p = none
  tr : TrA K H Hs ws xss
  pn : V.ref p ∉ ws
  q0 : ∀ q, V.ref q ∈ ws → H0 q = none
  ow : ∀ (j : Nat) (ys : List D) (r : Addr), e[j]? = some (.ow ys) → σ[j]? = some (some (V.ref r)) → r ≠ p ∧ V.ref r ∉ ws
def PostST (X : Cx) (W : WX) (RT : RTT) (H0 Hb : Hp) (i : Nat) (p : Addr) (o : OutT) (Dn : Ends) : Prop :=
  match o with
  | .next e' xss' => ∀ σ' H' Hs' ws', SBT X.K H0 Hb e' σ' H' Hs' i p ws' xss' → Dn.nx σ' H'
  | .ret d => ∀ v H' Hs', Grow H0 Hb H' Hs' → RT H0 H' Hs' v d → Dn.rt v H'
  | .err c => ∀ σ' H', Same H0 H' → Same Hb H' → W (clsV X.mg c) none σ' H'
  | .stk => False
structure PPST (X : Cx) (W : WX) (RT : RTT) (i : Nat) (st : Stmt) (f : STF) : Prop where
  out : ∃ t : TS, PS X st t ∧ ∀ p ws xss e σ H Hs H0 Hb Dn, SBT X.K H0 Hb e σ H Hs i p ws xss → PostST X W RT H0 Hb i p (f p xss e) Dn → t Dn σ H
structure PPSR (X : Cx) (W : WX) (RT : RTT) (i : Nat) (st : List Stmt) (f : STR) : Prop where
  out : ∃ t : TS, PSs X st t ∧ ∀ p ws xss e σ H Hs H0 Hb Dn, SBT X.K H0 Hb e σ H Hs i p ws xss → PostS X W RT H0 Hb (f p xss e) Dn → t Dn σ H
section
variable {K : PySem.W.Frag} {H0 Hb H Hs H1 Hs1 : Hp} {e : Env} {σ : St} {i : Nat} {p : Addr} {ws : List V} {xss : List (List D)}
theorem SBT.ptr (s : SBT K H0 Hb e σ H Hs i p ws xss) : σ[i]? = some (some (.ref p)) := by
  obtain ⟨v, h1, h2⟩ := s.sb.sr.sh i _ s.slot
  have h2' : Rp K Hs v (.dict [(.bool true, .int (Int.ofNat p))]) := h2
  generalize hn : Int.ofNat p = n at h2'
  cases h2' with
  | adr a =>
    have : p = a := Int.ofNat.inj hn
    rw [this]; exact h1
theorem SBT.grow (s : SBT K H0 Hb e σ H Hs i p ws xss) (g : Grow H Hs H1 Hs1) : SBT K H0 Hb e σ H1 Hs1 i p ws xss :=
  ⟨s.sb.grow g, s.slot, g.all _ _ s.h, g.own _ _ s.h s.n, s.n0, s.tr.grow g, s.pn, s.q0, s.ow⟩
/-- the list seen as a datum -/
theorem SBT.view (s : SBT K H0 Hb e σ H Hs i p ws xss) : ∃ Hs2, Same Hs Hs2 ∧ Same Hs2 H ∧ SR K (e.set i (.sh (tree xss))) σ H Hs2 := by
  obtain ⟨Hs2, a1, a2, a3, a4⟩ := tree_frz s.h s.n s.tr s.pn s.sb.sr.sub
  have hi : i < e.length := (List.getElem?_eq_some_iff.mp s.slot).1
  refine ⟨Hs2, a1, a2, a2, by rw [List.length_set]; exact s.sb.sr.len, fun j d hj => ?_, fun j ys hj => ?_, fun j k ys zs q h1 h2 h3 h4 => ?_⟩
  · rw [get_set] at hj
    by_cases q : i = j
    · rw [if_pos q, if_pos (by rw [← q]; exact hi)] at hj
      cases hj
      exact ⟨_, by rw [← q]; exact s.ptr, a3⟩
    · rw [if_neg q] at hj
      obtain ⟨v, h1, h2⟩ := s.sb.sr.sh j d hj
      exact ⟨v, h1, h2.up a1⟩
  · rw [get_set] at hj
    by_cases q : i = j
    · rw [if_pos q] at hj
      split at hj <;> cases hj
    · rw [if_neg q] at hj
      obtain ⟨r, vs, h1, h2, h3, h4⟩ := s.sb.sr.ow j ys hj
      obtain ⟨o1, o2⟩ := s.ow j ys r hj h1
      exact ⟨r, vs, h1, h2, a4 r h3 o1 o2, h4.up a1⟩
  · rw [get_set] at h1 h2
    by_cases q1 : i = j
    · rw [if_pos q1] at h1
      split at h1 <;> cases h1
    · by_cases q2 : i = k
      · rw [if_pos q2] at h2
        split at h2 <;> cases h2
      · rw [if_neg q1] at h1
        rw [if_neg q2] at h2
        exact s.sb.sr.ne j k ys zs q h1 h2 h3 h4
theorem garG (s : Same Hs H) (g : Same H H1) : Grow H Hs H1 Hs := ⟨g, Same.refl _, s.trans g, fun _ _ _ n => n⟩
end
section
variable {X : Cx} {W : WX} {RT : RTT} {i : Nat} {pos pos' : Pos}
theorem r_cons {st : Stmt} {rest : List Stmt} {f : STF} {g : STR} (h1 : PPST X W RT i st f) (h2 : PPSR X W RT i rest g) : PPSR X W RT i (st :: rest) (rCons f g) := by
  obtain ⟨t1, p1, h1⟩ := h1.out
  obtain ⟨t2, p2, h2⟩ := h2.out
  refine ⟨_, pss_cons p1 p2, fun p ws xss e σ H Hs H0 Hb Dn s hp => ?_⟩
  refine h1 p ws xss e σ H Hs H0 Hb _ s ?_
  unfold rCons at hp
  cases e1 : f p xss e with
  | next e' xss' => rw [e1] at hp; exact fun σ' H' Hs' ws' s' => h2 p ws' xss' e' σ' H' Hs' H0 Hb Dn s' hp
  | ret d => rw [e1] at hp; exact hp
  | err d => rw [e1] at hp; exact hp
  | stk => rw [e1] at hp; exact hp
theorem r_frz {rest : List Stmt} {g : SF} (h : PPSs X W RT rest g) : PPSR X W RT i rest (rFrz i g) := by
  obtain ⟨t, p, h⟩ := h.out
  refine ⟨t, p, fun p ws xss e σ H Hs H0 Hb Dn s hp => ?_⟩
  obtain ⟨Hs2, a1, a2, sr⟩ := s.view
  obtain ⟨Hs3, b1, b2, b3, b4⟩ := tree_frz s.h s.n s.tr s.pn s.sb.sr.sub
  have hi : i < e.length := (List.getElem?_eq_some_iff.mp s.slot).1
  -- the same heap part
  refine h (e.set i (.sh (tree xss))) σ H Hs3 H0 Hb Dn ⟨⟨s.sb.gr.all, s.sb.gr.sh.trans b1, b2, fun b o hb nb => ?_⟩, ⟨b2, by rw [List.length_set]; exact s.sb.sr.len, fun j d hj => ?_, fun j ys hj => ?_, fun j k ys zs q h1 h2 h3 h4 => sr.ne j k ys zs q h1 h2 h3 h4⟩, fun j ys q h1 h2 => ?_⟩ hp
  · exact b4 b (s.sb.gr.own b o hb nb) (ne_of_none hb s.n0) fun hm => by
      have := s.q0 b hm
      rw [hb] at this; cases this
  · rw [get_set] at hj
    by_cases q : i = j
    · rw [if_pos q, if_pos (by rw [← q]; exact hi)] at hj
      cases hj
      exact ⟨_, by rw [← q]; exact s.ptr, b3⟩
    · rw [if_neg q] at hj
      obtain ⟨v, h1, h2⟩ := s.sb.sr.sh j d hj
      exact ⟨v, h1, h2.up b1⟩
  · rw [get_set] at hj
    by_cases q : i = j
    · rw [if_pos q] at hj
      split at hj <;> cases hj
    · rw [if_neg q] at hj
      obtain ⟨r, vs, h1, h2, h3, h4⟩ := s.sb.sr.ow j ys hj
      obtain ⟨o1, o2⟩ := s.ow j ys r hj h1
      exact ⟨r, vs, h1, h2, b4 r h3 o1 o2, h4.up b1⟩
  · rw [get_set] at h1
    by_cases q' : i = j
    · rw [if_pos q'] at h1
      split at h1 <;> cases h1
    · rw [if_neg q'] at h1
      exact s.sb.new j ys q h1 h2
theorem t_if {c : Expr} {t : TF} {a : List Stmt} {fa : SF} (hc : PPT X W c t) (ha : PPSs X W RT a fa) : PPST X W RT i (.If c a [] pos) (tIf i t fa) := by
  obtain ⟨tc, pc, hc⟩ := hc.out
  obtain ⟨ta, pa, ha⟩ := ha.out
  refine ⟨_, ps_if pc pa pss_nil, fun p ws xss e σ H Hs H0 Hb Dn s hp => ?_⟩
  obtain ⟨Hs2, a1, a2, sr⟩ := s.view
  refine hc (e.set i (.sh (tree xss))) σ H Hs2 _ sr ?_
  unfold tIf at hp
  cases e1 : t (e.set i (.sh (tree xss))) with
  | err c => rw [e1] at hp; exact fun H' s' => hp σ H' (s.sb.gr.all.trans s') ((s.sb.gr.sh.trans s.sb.gr.sub).trans s')
  | stk => rw [e1] at hp; exact hp
  | ok k =>
    rw [e1] at hp
    intro b H1 Hs1 g1 eb
    subst eb
    have s1 := s.grow (garG s.sb.sr.sub g1.all)
    cases b with
    | true =>
      refine ha e σ H1 Hs H0 Hb Dn s1.sb ?_
      cases e2 : fa e with
      | ret d => rw [e2] at hp; exact hp
      | err c => rw [e2] at hp; exact hp
      | next _ => rw [e2] at hp; exact (show False from hp).elim
      | brk _ => rw [e2] at hp; exact (show False from hp).elim
      | cont _ => rw [e2] at hp; exact (show False from hp).elim
      | stk => rw [e2] at hp; exact (show False from hp).elim
    | false => exact hp σ H1 Hs ws s1
open Classical in
/-- a statement that leaves the list alone -/
theorem t_frame {st : Stmt} {f : SF} (h : PPS X W (RepE X.K) st f) : PPST X W (RepE X.K) i st (tFrame i f) := by
  obtain ⟨t, p, h⟩ := h.out
  refine ⟨t, p, fun p ws xss e σ H Hs H0 Hb Dn s hp => ?_⟩
  let own : Addr → Prop := fun b => ∃ (j : Nat) (ys : List D), e[j]? = some (.ow ys) ∧ σ[j]? = some (some (.ref b))
  let F : Hp := fun b => if own b then none else H b
  have fH : ∀ b, ¬ own b → F b = H b := fun b nb => if_neg nb
  have fN : ∀ b, own b → F b = none := fun b nb => if_pos nb
  have sF : Same F H := fun b o hb => by
    by_cases q : own b
    · rw [fN b q] at hb; cases hb
    · rw [fH b q] at hb; exact hb
  have s0 : Same H0 F := fun b o hb => by
    have nb : ¬ own b := fun ⟨j, ys, h1, h2⟩ => by
      have := s.sb.new j ys b h1 h2
      rw [hb] at this; cases this
    rw [fH b nb]; exact s.sb.gr.all _ _ hb
  have np : ¬ own p := fun ⟨j, ys, h1, h2⟩ => (s.ow j ys p h1 h2).1 rfl
  have nq : ∀ q, V.ref q ∈ ws → ¬ own q := fun q hq ⟨j, ys, h1, h2⟩ => (s.ow j ys q h1 h2).2 hq
  have gr : ∀ {H' Hs' : Hp}, Grow F Hs H' Hs' → Grow H0 Hb H' Hs' := fun {H' Hs'} g => ⟨s0.trans g.all, s.sb.gr.sh.trans g.sh, g.sub, fun b o hb nb => g.own b o (s0 _ _ hb) (s.sb.gr.own b o hb nb)⟩
  refine h e σ H Hs F Hs _ ⟨⟨sF, Same.refl _, s.sb.sr.sub, fun _ _ _ n => n⟩, s.sb.sr, fun j ys r h1 h2 => fN r ⟨j, ys, h1, h2⟩⟩ ?_
  unfold tFrame at hp
  cases e1 : f e with
  | next e' =>
    rw [e1] at hp
    intro σ' H' Hs' s'
    dsimp only at hp
    split at hp
    · rename_i n hn
      split at hp
      · rename_i en
        refine hp σ' H' Hs' ws ⟨⟨gr s'.gr, s'.sr, fun j ys r h1 h2 => ?_⟩, by rw [hn, en]; rfl, ?_, ?_, s.n0, ?_, s.pn, s.q0, fun j ys r h1 h2 => ?_⟩
        · cases q : H0 r with
          | none => rfl
          | some o =>
            have := s'.new j ys r h1 h2
            rw [s0 _ _ q] at this; cases this
        · exact s'.gr.all _ _ (by rw [fH p np]; exact s.h)
        · exact s'.gr.own p _ (by rw [fH p np]; exact s.h) s.n
        · have : ∀ {ws2 : List V} {xss2 : List (List D)}, TrA X.K H Hs ws2 xss2 → (∀ q, V.ref q ∈ ws2 → ¬ own q) → TrA X.K H' Hs' ws2 xss2 := fun {ws2 xss2} t => by
            induction t with
            | nil => exact fun _ => .nil
            | @cons q vs ws xs xss h1 h2 h3 h4 _ ih =>
              intro hq
              have hF : F q = some (.lst vs) := by rw [fH q (hq q List.mem_cons_self)]; exact h1
              exact .cons (s'.gr.all _ _ hF) (s'.gr.own q _ hF h2) (h3.up s'.gr.sh) h4 (ih fun r hr => hq r (List.mem_cons_of_mem _ hr))
          exact this s.tr nq
        · have hr := s'.new j ys r h1 h2
          refine ⟨fun z => ?_, fun hm => ?_⟩
          · rw [z, fH p np, s.h] at hr; cases hr
          · obtain ⟨vs, g1, _⟩ := s.tr.has hm
            rw [fH r (nq r hm), g1] at hr; cases hr
      · exact (show False from hp).elim
    · exact (show False from hp).elim
  | ret d => rw [e1] at hp; exact fun v H' Hs' g rt => hp v H' Hs' (gr g) rt
  | err c => rw [e1] at hp; exact fun σ' H' z1 z2 => hp σ' H' (s0.trans z1) ((s.sb.gr.sh).trans z2)
  | brk _ => rw [e1] at hp; exact (show False from hp).elim
  | cont _ => rw [e1] at hp; exact (show False from hp).elim
  | stk => rw [e1] at hp; exact (show False from hp).elim
end
end PL

namespace PL
open PySem PySem.Spec PyProof.Rows L2
section
variable {K : PySem.W.Frag} {H Hs : Hp}
theorem TrA.split : ∀ {x1 : List (List D)} {w : List V} {xs : List D} {x2 : List (List D)}, TrA K H Hs w (x1 ++ xs :: x2) → ∃ q vs, w[x1.length]? = some (.ref q) ∧ H q = some (.lst vs) ∧ Hs q = none ∧ RpA K Hs vs xs ∧
    ∀ (o : HO) (vs' : List V) (ys : List D), o = .lst vs' → RpA K Hs vs' ys → TrA K (L2.upd H q o) Hs w (x1 ++ ys :: x2)
  | [], w, xs, x2, t => by
    cases t with
    | @cons q vs ws _ _ h1 h2 h3 h4 t => exact ⟨q, vs, rfl, h1, h2, h3, fun o vs' ys e r => .cons (by rw [e]; exact upd_same) h2 r h4 (t.upd h4)⟩
  | y :: x1, w, xs, x2, t => by
    cases t with
    | @cons q vs ws _ _ h1 h2 h3 h4 t =>
      obtain ⟨r, us, g1, g2, g3, g4, g5⟩ := TrA.split t
      have hm : V.ref r ∈ ws := List.mem_of_getElem? g1
      have e : q ≠ r := fun e => h4 (by rw [e]; exact hm)
      exact ⟨r, us, g1, g2, g3, g4, fun o vs' ys eo rr => .cons (by rw [upd_ne e]; exact h1) h2 h3 h4 (g5 o vs' ys eo rr)⟩
theorem set_same_no {e : Env} {j : Nat} (h : e[j]? = some .no) : e.set j .no = e := by
  apply List.ext_getElem?
  intro k
  rw [get_set]
  by_cases q : j = k
  · subst q
    rw [if_pos rfl, if_pos (List.getElem?_eq_some_iff.mp h).1, h]
  · rw [if_neg q]
end
section
variable {X : Cx} {W : WX} {i : Nat} {pos pos' : Pos}
theorem t_for {RT : RTT} (j : Nat) {x y : Str} {c ea : Expr} {a : List Stmt} {t : TF} {fa : SF} {f : EF} {px py pi1 p2 p3 pe1 : Pos} (hpo : PassesOwn (model X.prog X.w) X.A X.env X.xe) (hN : X.N.Nodup) (hij : i ≠ j)
    (hc : PPT X W c t) (ha : PPSs X W RT a fa) (hf : PPE X W ea f)
    (hNi : X.N[i]? = some y := by rfl) (hvi : Vis X.env.scope y := by first | exact Or.inl rfl | exact Or.inr (Or.inl rfl) | exact Or.inr (Or.inr rfl)) (hdi : (y == ("__debug__" : Str)) = false := by decide) (hcdi : (y == ("__classdict__" : Str)) = false := by decide)
    (hNj : X.N[j]? = some x := by rfl) (hx : Loc X.env.scope x := by first | exact Or.inl rfl | exact Or.inr rfl) (hfj : X.fn x = true ∨ X.env.scope.names.lookup x = some .local := by first | exact .inl rfl | exact .inr rfl)
    (hv : Vis X.env.scope x := by first | exact Or.inl rfl | exact Or.inr (Or.inl rfl) | exact Or.inr (Or.inr rfl)) (hd : (x == ("__debug__" : Str)) = false := by decide) (hcd : (x == ("__classdict__" : Str)) = false := by decide)
    (hs : swapsWith (.Call (.Attribute (.Name x pos') "append" p2) [ea] [] p3) none pe1.line X.env = pure false := by rfl)
    (hbase : attributeBase (.Name x pos') "append" X.env (eval (.Name x pos') X.env) = eval (.Name x pos') X.env := by rfl)
    (hfew : ((backTo p3 (starEach [ea] X.env)).all (fun x => !x.1) && (backToKw p3 (keywordEach [] X.env)).all (fun x => x.1.isSome)
      && decide ([ea].length + ([] : List Keyword).length + (if ([] : List Keyword).isEmpty then 0 else 1) < 30)) = true := by rfl)
    (hline : (p2.endLine == p3.line) = true := by rfl) (hst : starEach [ea] X.env = (false, eval ea X.env) :: starEach [] X.env := by rfl)
    (hcalm : X.calm = true := by rfl) (hs2 : ∀ z, foldedSetIterable (.Name y py) X.env z = pure z := by intro _; rfl) :
    PPST X W RT i (.For (.Name x px) (.Name y py) [.If c a [] pi1, .Expr (.Call (.Attribute (.Name x pos') "append" p2) [ea] [] p3) pe1] [] pos) (tFor j t fa f) := by
  obtain ⟨tc, pc, hc⟩ := hc.out
  obtain ⟨ta, pa, ha⟩ := ha.out
  obtain ⟨tf, pf, hf⟩ := hf.out
  refine ⟨_, ps_for hpo hcalm (pi_list (pe_var hNi hvi hdi hcdi)) (pg_name hN hNj hx hfj) (pss_cons (ps_if pc pa pss_nil) (pss_one (ps_expr (pe_bm PySem.F.plainAttrs_list PySem.F.slot_list_append PySem.F.type_list_append mt_append (pe_var hNj hv hd hcd) (pa_cons pf pa_nil hst) hbase hfew hline hst) hs))) hs2, fun p ws xss e σ H Hs H0 Hb Dn s hp => ?_⟩
  unfold tFor at hp
  split at hp
  · rename_i hno
    have hj : j < e.length := (List.getElem?_eq_some_iff.mp hno).1
    refine ⟨_, s.ptr, p, rfl, ⟨ws, SqL.of s.h⟩, ⟨fun k m σ2 H2 => m = xss.length - k ∧ k ≤ xss.length ∧ ∃ Hs2 dn, dn.length = k ∧ SBT X.K H0 Hb e σ2 H2 Hs2 i p ws (dn ++ xss.drop k) ∧ PostST X W RT H0 Hb i p (tForL j t fa f e dn (xss.drop k)) Dn,
      ⟨xss.length, rfl, Nat.zero_le _, Hs, [], rfl, s, hp⟩, fun k m σ2 H2 hW => ?_⟩⟩
    obtain ⟨hm, hle, Hs2, dn, hdn, s2, hp2⟩ := hW
    by_cases hlt : k < xss.length
    · right
      rw [List.drop_eq_getElem_cons hlt] at s2 hp2
      obtain ⟨q, vs, w1, w2, w3, w4, w5⟩ := s2.tr.split
      rw [hdn] at w1
      have hm0 : V.ref q ∈ ws := List.mem_of_getElem? w1
      refine ⟨⟨ws, _, SqL.of s2.h, w1⟩, fun σ3 H3 => ∃ Hs3 dn', dn'.length = k + 1 ∧ SBT X.K H0 Hb e σ3 H3 Hs3 i p ws (dn' ++ xss.drop (k + 1)) ∧ PostST X W RT H0 Hb i p (tForL j t fa f e dn' (xss.drop (k + 1))) Dn, fun σ3 H3 h3 => ⟨xss.length - (k + 1), by omega, rfl, hlt, h3⟩, fun v H3 yl => ?_⟩
      obtain ⟨rfl, yl⟩ := yl
      have ev := yl ws (SqL.of s2.h)
      rw [w1] at ev
      cases ev
      unfold tForL at hp2
      show tc (σ2.set j (some (.ref q))) H3 _
      -- slot j bears the list
      have fr : ∀ (l : Nat) (ys : List D), e[l]? = some (.ow ys) → σ2[l]? ≠ some (some (.ref q)) := fun l ys h1 h2 => (s2.ow l ys q h1 h2).2 hm0
      have sj : SB X.K H0 Hb (e.set j (.ow xss[k])) (σ2.set j (some (.ref q))) H3 Hs2 := ⟨s2.sb.gr, s2.sb.sr.setOw j w2 w3 w4 fr, fun l ys r h1 h2 => by
        rw [get_set] at h1 h2
        by_cases z : j = l
        · rw [if_pos z] at h2
          split at h2
          · cases h2; exact s2.q0 q hm0
          · cases h2
        · rw [if_neg z] at h1 h2
          exact s2.sb.new l ys r h1 h2⟩
      refine hc _ _ H3 Hs2 _ sj.sr ?_
      cases e1 : t (e.set j (.ow xss[k])) with
      | err cc => rw [e1] at hp2; exact fun H' s' => hp2 _ H' (sj.gr.all.trans s') ((sj.gr.sh.trans sj.gr.sub).trans s')
      | stk => rw [e1] at hp2; exact hp2
      | ok b =>
        rw [e1] at hp2
        intro b' H4 Hs4 g4 eb
        subst eb
        have sj4 := sj.grow g4
        have s4 := s2.grow g4
        cases b' with
        | true =>
          refine ha _ _ H4 Hs4 H0 Hb _ sj4 ?_
          cases e2 : fa (e.set j (.ow xss[k])) with
          | ret d => rw [e2] at hp2; exact hp2
          | err cc => rw [e2] at hp2; exact hp2
          | next _ => rw [e2] at hp2; exact (show False from hp2).elim
          | brk _ => rw [e2] at hp2; exact (show False from hp2).elim
          | cont _ => rw [e2] at hp2; exact (show False from hp2).elim
          | stk => rw [e2] at hp2; exact (show False from hp2).elim
        | false =>
          have ptr : (σ2.set j (some (V.ref q)))[j]? = some (some (.ref q)) := by
            rw [get_set, if_pos rfl, if_pos (by rw [← s2.sb.sr.len]; exact hj)]
          refine ⟨_, ptr, .inl ⟨rfl, vs, SqL.of (g4.all _ _ w2)⟩, hf _ _ H4 Hs4 _ sj4.sr ?_⟩
          cases e2 : f (e.set j (.ow xss[k])) with
          | err cc =>
            have hp3 : PostST X W RT H0 Hb i p (match f (e.set j (.ow xss[k])) with | .ok d => if xss[k].length < szL then tForL j t fa f e (dn ++ [xss[k] ++ [d]]) (xss.drop (k + 1)) else .stk | .err c => .err c | .stk => .stk) Dn := hp2
            rw [e2] at hp3
            exact fun H' s' => hp3 _ H' (sj4.gr.all.trans s') ((sj4.gr.sh.trans sj4.gr.sub).trans s')
          | stk =>
            have hp3 : PostST X W RT H0 Hb i p (match f (e.set j (.ow xss[k])) with | .ok d => if xss[k].length < szL then tForL j t fa f e (dn ++ [xss[k] ++ [d]]) (xss.drop (k + 1)) else .stk | .err c => .err c | .stk => .stk) Dn := hp2
            rw [e2] at hp3
            exact hp3
          | ok d =>
            have hp3 : PostST X W RT H0 Hb i p (match f (e.set j (.ow xss[k])) with | .ok d => if xss[k].length < szL then tForL j t fa f e (dn ++ [xss[k] ++ [d]]) (xss.drop (k + 1)) else .stk | .err c => .err c | .stk => .stk) Dn := hp2
            rw [e2] at hp3
            dsimp only at hp3
            split at hp3
            · rename_i hz
              intro v H5 Hs5 g5 rv
              have s5 := s4.grow g5
              have q5 : H5 q = some (.lst vs) := g5.all _ _ (g4.all _ _ w2)
              have n5 : Hs5 q = none := g5.own _ _ (g4.all _ _ w2) (g4.own _ _ w2 w3)
              refine ⟨q, vs, v, rfl, rfl, q5, by rw [w4.length]; exact hz, Hs5, dn ++ [xss[k] ++ [d]], by rw [List.length_append, hdn]; rfl, ?_, hp3⟩
              have q0 : H0 q = none := s2.q0 q hm0
              have sr5 : SR X.K e (σ2.set j (some (.ref q))) H5 Hs5 := by
                have := s5.sb.sr.drop j (v := some (.ref q))
                rw [set_same_no hno] at this
                exact this
              have own5 : ∀ (l : Nat) (ys : List D) (r : Addr), e[l]? = some (.ow ys) → (σ2.set j (some (V.ref q)))[l]? = some (some (V.ref r)) → σ2[l]? = some (some (V.ref r)) := fun l ys r h1 h2 => by
                rw [get_set] at h2
                by_cases z : j = l
                · rw [← z, hno] at h1; cases h1
                · rw [if_neg z] at h2; exact h2
              obtain ⟨q', vs', x1, x2, x3, x4, x5⟩ := s5.tr.split
              have eq' : q' = q := by
                rw [hdn, w1] at x1
                exact (V.ref.inj (Option.some.inj x1)).symm
              subst eq'
              have pq : p ≠ q' := fun z => s2.pn (by rw [z]; exact hm0)
              refine ⟨⟨⟨fun b o hb => ?_, s5.sb.gr.sh, fun b o hb => ?_, s5.sb.gr.own⟩, ⟨fun b o hb => ?_, sr5.len, sr5.sh, fun l ys hl => ?_, sr5.ne⟩, fun l ys r h1 h2 => s5.sb.new l ys r h1 (own5 l ys r h1 h2)⟩, s5.slot, by rw [upd_ne pq]; exact s5.h, s5.n, s5.n0, ?_, s5.pn, s5.q0, fun l ys r h1 h2 => s5.ow l ys r h1 (own5 l ys r h1 h2)⟩
              · rw [upd_ne (ne_of_none hb q0)]; exact s5.sb.gr.all _ _ hb
              · rw [upd_ne (ne_of_none hb n5)]; exact s5.sb.gr.sub _ _ hb
              · rw [upd_ne (ne_of_none hb n5)]; exact sr5.sub _ _ hb
              · obtain ⟨r, us, y1, y2, y3, y4⟩ := sr5.ow l ys hl
                have rq : r ≠ q' := fun z => (s5.ow l ys r hl (own5 l ys r hl y1)).2 (by rw [z]; exact hm0)
                exact ⟨r, us, y1, by rw [upd_ne rq]; exact y2, y3, y4⟩
              · have := x5 (.lst (vs ++ [v])) (vs ++ [v]) (xss[k] ++ [d]) rfl ((w4.up (g4.sh.trans g5.sh)).append (.cons rv .nil))
                rw [List.append_assoc]
                exact this
            · exact (show False from hp3).elim
    · left
      have ek : k = xss.length := by omega
      rw [ek, List.drop_length] at s2 hp2
      rw [List.append_nil] at s2
      have hl : ws.length = xss.length := by
        have := s2.tr.length
        rw [this, hdn, ek]
      refine ⟨⟨ws, SqL.of s2.h, by rw [hl, ek]; exact Nat.le_refl _⟩, hp2 σ2 H2 Hs2 ws s2⟩
  · exact (show False from hp).elim
theorem unL_tree : ∀ {ls : List D} {xss : List (List D)}, unL ls = some xss → ls = xss.map .list ∧ ∀ xs ∈ xss, xs.all isSc = true
  | [], xss, h => by cases h; exact ⟨rfl, fun _ h => by cases h⟩
  | d :: r, xss, h => by
    cases d with
    | list xs =>
      unfold unL at h
      split at h
      · rename_i hsc
        cases e : unL r with
        | none => rw [e] at h; cases h
        | some yss =>
          rw [e] at h
          cases h
          obtain ⟨h1, h2⟩ := unL_tree e
          exact ⟨by rw [h1]; rfl, fun ys hy => by
            rcases List.mem_cons.mp hy with rfl | hy
            · exact hsc
            · exact h2 ys hy⟩
      · cases h
    | _ => cases h
theorem map_list_inj {xss yss : List (List D)} (h : xss.map PyData.list = yss.map PyData.list) : xss = yss := by
  induction xss generalizing yss with
  | nil => cases yss with
    | nil => rfl
    | cons => cases h
  | cons x xss ih => cases yss with
    | nil => cases h
    | cons y yss =>
      rw [List.map_cons, List.map_cons, List.cons.injEq] at h
      obtain ⟨h1, h2⟩ := h
      rw [PyData.list.inj h1, ih h2]
theorem scal_rp {K : PySem.W.Frag} {H H' : Hp} : ∀ {xs : List D} {vs : List V}, RpA K H vs xs → xs.all isSc = true → RpA K H' vs xs
  | [], _, h, _ => by cases h; exact .nil
  | x :: xs, _, h, hs => by
    rw [List.all_cons, Bool.and_eq_true] at hs
    cases h with | cons h1 h2 => exact .cons (h1.scal hs.1 H') (scal_rp h2 hs.2)
theorem TrA.scal {K : PySem.W.Frag} {H Hs Hs1 : Hp} {ws : List V} {xss : List (List D)} (t : TrA K H Hs ws xss) (hsc : ∀ xs ∈ xss, xs.all isSc = true) (hn : ∀ q, V.ref q ∈ ws → Hs1 q = none) : TrA K H Hs1 ws xss := by
  induction t with
  | nil => exact .nil
  | cons h1 h2 h3 h4 _ ih => exact .cons h1 (hn _ List.mem_cons_self) (scal_rp h3 (hsc _ List.mem_cons_self)) h4 (ih (fun xs hx => hsc xs (List.mem_cons_of_mem _ hx)) fun q hq => hn q (List.mem_cons_of_mem _ hq))
open Classical in
/-- slot i = f(..), what f hands back is such a list; then the rest -/
theorem pps_tree {RT : RTT} (i : Nat) {x y : Str} {a : Expr} {es : List Expr} {fs : LF} {rest : List Stmt} {g : STR} {ps : List Str} {k j : Nat} {m : List D → R D} {py pc p2 : Pos} (C : CalT X.prog X.w X.K X.mg X.base x ps k m) (hr : Room j X.A) (tk : Takes X W) (ha : PPBA X W (a :: es) fs) (hn : ∀ e ds, fs e = .ok ds → ds.length = ps.length)
    (h2 : PPSR X W RT i rest g) (hN : X.N.Nodup) (hj : k ≤ j := by decide) (hg : Gl X x := by rfl) (hdb : (x == ("__debug__" : Str)) = false := by decide)
    (he : starEach (a :: es) X.env = (false, eval a X.env) :: starEach es X.env := by rfl) (hpl : (backTo pc (starEach es X.env)).any (·.1) = false := by rfl)
    (hx : Loc X.env.scope y := by first | exact Or.inl rfl | exact Or.inr rfl) (hi : X.N[i]? = some y := by rfl) (hs : swapsWith (.Call (.Name x p2) (a :: es) [] pc) (some (.Name y py)) pos.line X.env = pure false := by rfl)
    (hf : X.fn y = true ∨ X.env.scope.names.lookup y = some .local := by first | exact .inl rfl | exact .inr rfl) :
    PPSs X W RT (.Assign [.Name y py] (.Call (.Name x p2) (a :: es) [] pc) pos :: rest) (sTree i m fs g) := by
  obtain ⟨f, fd, F, hm, hk, hb⟩ := C.ex
  obtain ⟨ta, pa, ha⟩ := ha.out
  obtain ⟨t2, pr, h2⟩ := h2.out
  refine ⟨_, pss_cons (ps_set hN hi hx (pe_callS F (hr.mono hj) hg hm hk hb (passAt tk) pa hdb he hpl) hs hf) pr, fun e σ H Hs H0 Hb Dn s hp => ?_⟩
  unfold sTree at hp
  refine ha e σ H Hs _ s.sr (postS_bind s hp fun ds vs H1 Hs1 hds g1 s1 r1 hp1 => ?_)
  refine ⟨H1, ds, Same.refl _, r1.rp g1.sub, hn e ds hds, ?_⟩
  cases e2 : m ds with
  | err c => rw [e2] at hp1; exact fun H' s' => hp1 σ H' (s1.gr.all.trans s') ((s1.gr.sh.trans s1.gr.sub).trans s')
  | stk => rw [e2] at hp1; exact hp1
  | ok d =>
    rw [e2] at hp1
    obtain ⟨ls, rfl⟩ : ∃ ls, d = .list ls := by
      cases d <;> first
        | exact (show False from hp1).elim
        | exact ⟨_, rfl⟩
    have hp2 : PostS X W RT H0 Hb (match unL ls with | some xss => if h : i < e.length ∧ ∃ o, ∀ p, g p xss (e.set i (.sh (adr p))) = o then Classical.choose h.2 else .stk | none => .stk) Dn := hp1
    cases e3 : unL ls with
    | none => rw [e3] at hp2; exact (show False from hp2).elim
    | some xss =>
      rw [e3] at hp2
      dsimp only at hp2
      split at hp2
      · rename_i hO
        obtain ⟨hls, hsc⟩ := unL_tree e3
        intro v H' Hs' gg rr
        obtain ⟨xss', ex, p, ws, rfl, p1, p2, p3, p4, p5, p6⟩ := rr
        have : xss' = xss := map_list_inj (by rw [hls] at ex; exact (PyData.list.inj ex).symm)
        subst this
        rw [← Classical.choose_spec hO.2 p] at hp2
        have hi' : i < X.N.length := (List.getElem?_eq_some_iff.mp hi).1
        have hil := hO.1
        · have gar : Grow H1 Hs1 H' Hs1 := garG s1.sr.sub gg.all
          have sb : SB X.K H0 Hb (e.set i (.sh (adr p))) (σ.set i (some (.ref p))) H' Hs1 := (s1.grow gar).set i (.adr p)
          refine h2 p ws xss' _ _ H' Hs1 H0 Hb Dn ⟨sb, by rw [get_set, if_pos rfl, if_pos hil], p2, s1.sr.sub.free p1, s1.gr.all.free p1, p4.scal hsc fun q hq => s1.sr.sub.free (p6 q hq), p5, fun q hq => s1.gr.all.free (p6 q hq), fun l ys r q1 q2 => ?_⟩ hp2
          rw [get_set] at q1 q2
          by_cases z : i = l
          · rw [if_pos z] at q1
            split at q1 <;> cases q1
          · rw [if_neg z] at q1 q2
            obtain ⟨r', us, y1, y2, _⟩ := s1.sr.ow l ys q1
            rw [q2] at y1
            cases y1
            refine ⟨fun z => ?_, fun hm => ?_⟩
            · rw [z, p1] at y2; cases y2
            · rw [p6 _ hm] at y2; cases y2
      · exact (show False from hp2).elim
end
theorem lenN : ∀ (e : Env) (ds : List D), aN e = .ok ds → ds.length = 0 := fun e ds h => by cases h; rfl
theorem lenC {f : EF} {l : LF} {n : Nat} (h : ∀ (e : Env) (ds : List D), l e = .ok ds → ds.length = n) : ∀ (e : Env) (ds : List D), aC f l e = .ok ds → ds.length = n + 1 := fun e ds q => by
  unfold aC at q
  cases e1 : f e with
  | ok d =>
    rw [e1, R.bind_ok] at q
    cases e2 : l e with
    | ok xs => rw [e2] at q; cases q; rw [List.length_cons, h e xs e2]
    | err c => rw [e2] at q; cases q
    | stk => rw [e2] at q; cases q
  | err c => rw [e1] at q; cases q
  | stk => rw [e1] at q; cases q
end PL

namespace PL
open PySem
/-! ## the mirrors -/
def nmOf : Str → Option Str := fun c => if c = "BadLoop" then some "loop " else if c = "BadState" then some "state " else if c = "BadCount" then some "count " else none
/-- is_whole(thing) -/
def b_is_whole : SF :=
  (sRet (eAnd (eC (bIsi .int) (aC (eB 0) aN)) (eNot (eC (bIsi .bool) (aC (eB 0) aN)))))
abbrev m_is_whole : List D → R D := fnR 1 b_is_whole

/-- are_whole(thing, size) -/
def b_are_whole : SF :=
  (sRet (eAnd (eC (bIsi .list) (aC (eB 0) aN)) (eAnd (e2 opEq (eC bLen (aC (eB 0) aN)) (eB 1)) (eC bAll (aC (eL (cmp (iL (eB 0)) [2] (gN 2) qY (eC m_is_whole (aC (eV 2) aN)))) aN)))))
abbrev m_are_whole : List D → R D := fnR 3 b_are_whole

/-- is_row(thing, many) -/
def b_is_row : SF :=
  (sRet (eAnd (eC m_are_whole (aC (eV 0) (aC (e2 opAdd (eB 1) (eK (.int 1))) aN))) (eC bAll (aC (eL (cmp (iL (eB 0)) [2] (gN 2) qY (eCh opLe opLe (e2 opSub (eK (.int 0)) (eK (.int 1000))) (eB 2) (eK (.int 1000))))) aN))))
abbrev m_is_row : List D → R D := fnR 3 b_is_row

/-- are_rows(thing, many) -/
def b_are_rows : SF :=
  (sRet (eAnd (eC (bIsi .list) (aC (eB 0) aN)) (eC bAll (aC (eL (cmp (iL (eB 0)) [2] (gN 2) qY (eC m_is_row (aC (eV 2) (aC (eV 1) aN))))) aN))))
abbrev m_are_rows : List D → R D := fnR 3 b_are_rows

/-- is_way(thing, many) -/
def b_is_way : SF :=
  (sSeq (sIf (qOr (qNot (qV (eC (bIsi .tuple) (aC (eB 0) aN)))) (qV (e2 opNe (eC bLen (aC (eB 0) aN)) (eK (.int 2))))) (sRet (eK (.bool false))) sNil)
  (sSeq (sIf (qOr (qNot (qV (eC m_are_rows (aC (e2 opIx (eB 0) (eK (.int 0))) (aC (eV 1) aN))))) (qNot (qV (eC m_are_rows (aC (e2 opIx (eB 0) (eK (.int 1))) (aC (eV 1) aN)))))) (sRet (eK (.bool false))) sNil)
  (sRet (eAnd (e2 opLe (eC bLen (aC (e2 opIx (eB 0) (eK (.int 0))) aN)) (eK (.int 4))) (e2 opEq (eC bLen (aC (e2 opIx (eB 0) (eK (.int 1))) aN)) (eB 1))))))
abbrev m_is_way : List D → R D := fnR 2 b_is_way

/-- is_loop(thing) -/
def b_is_loop : SF :=
  (sSeq (sIf (qOr (qNot (qV (eC (bIsi .tuple) (aC (eB 0) aN)))) (qOr (qV (e2 opNe (eC bLen (aC (eB 0) aN)) (eK (.int 2)))) (qOr (qNot (qV (eC m_is_whole (aC (e2 opIx (eB 0) (eK (.int 0))) aN)))) (qNot (qV (eC (bIsi .list) (aC (e2 opIx (eB 0) (eK (.int 1))) aN))))))) (sRet (eK (.bool false))) sNil)
  (sSeq (sIf (qOr (qNot (qV (eCh opLe opLe (eK (.int 1)) (e2 opIx (eB 0) (eK (.int 0))) (eK (.int 3))))) (qNot (qV (eCh opLe opLe (eK (.int 1)) (eC bLen (aC (e2 opIx (eB 0) (eK (.int 1))) aN)) (eK (.int 3)))))) (sRet (eK (.bool false))) sNil)
  (sRet (eC bAll (aC (eL (cmp (iL (e2 opIx (eB 0) (eK (.int 1)))) [1] (gN 1) qY (eC m_is_way (aC (eV 1) (aC (e2 opIx (eB 0) (eK (.int 0))) aN))))) aN)))))
abbrev m_is_loop : List D → R D := fnR 2 b_is_loop

/-- need_loop(thing) -/
def b_need_loop : SF :=
  (sIf (qNot (qV (eC m_is_loop (aC (eV 0) aN)))) (sRaise "BadLoop") sNil)
abbrev m_need_loop : List D → R D := fnR 1 b_need_loop

/-- need_state(loop, state) -/
def b_need_state : SF :=
  (sIf (qNot (qV (eC m_are_whole (aC (eV 1) (aC (e2 opIx (eB 0) (eK (.int 0))) aN))))) (sRaise "BadState") sNil)
abbrev m_need_state : List D → R D := fnR 2 b_need_state

/-- worth(row, state) -/
def b_worth : SF :=
  (sSeq (sSet (gN 2) (eC bSum (aC (eL (cmp (iZ (eB 0) (eB 1)) [3, 4] (gT [(gN 3), (gN 4)]) qY (e2 opMul (eB 3) (eB 4)))) aN)))
  (sSeq (sIf (qV (e2 opLt (eC bLen (aC (eB 1) aN)) (eC bLen (aC (eB 0) aN)))) (sSet (gN 2) (e2 opAdd (eB 2) (e2 opIx (eB 0) (e1 opNeg (eK (.int 1)))))) sNil)
  (sRet (eV 2))))
abbrev m_worth : List D → R D := fnR 5 b_worth

/-- led(way, state) -/
def b_led : SF :=
  (sSeq (sIf (qV (e2 opNe (eL (cmp (iL (e2 opIx (eB 0) (eK (.int 0)))) [2] (gN 2) (qV (e2 opLt (eC m_worth (aC (eV 2) (aC (eV 1) aN))) (eK (.int 0)))) (eV 2))) (eL aN))) (sRet (eK .none)) sNil)
  (sRet (eL (cmp (iL (e2 opIx (eB 0) (eK (.int 1)))) [2] (gN 2) qY (eC m_worth (aC (eV 2) (aC (eV 1) aN)))))))
abbrev m_led : List D → R D := fnR 3 b_led

/-- turn_of(loop, state) -/
def b_turn_of : SF :=
  (sSeq (sFor (iL (e2 opIx (eB 0) (eK (.int 1)))) (gN 2) (sSeq (sSet (gN 3) (eC m_led (aC (eV 2) (aC (eV 1) aN))))
  (sIf (qV (e2 opIsNot (eB 3) (eK .none))) (sRet (eV 3)) sNil)))
  (sRet (eK .none)))
abbrev m_turn_of : List D → R D := fnR 4 b_turn_of

/-- run(loop, state, most) -/
noncomputable def b_run : SF :=
  (sSeq (sDo (eC m_need_loop (aC (eV 0) aN)))
  (sSeq (sDo (eC m_need_state (aC (eV 0) (aC (eV 1) aN))))
  (sSeq (sIf (qOr (qNot (qV (eC m_is_whole (aC (eV 2) aN)))) (qNot (qV (eCh opLe opLe (eK (.int 0)) (eB 2) (eK (.int 60)))))) (sRaise "BadCount") sNil)
  (sSeq (sOwn 3 (aC (eC bList (aC (eB 1) aN)) aN))
  (sSeq (sSet (gN 4) (eC m_turn_of (aC (eV 0) (aC (eV 1) aN))))
  (sSeq (sWhile (qAnd (qV (e2 opIsNot (eB 4) (eK .none))) (qV (e2 opLe (eC bLen (aC (eB 3) aN)) (eB 2)))) (sSeq (sApp 3 (eV 4))
  (sSet (gN 4) (eC m_turn_of (aC (eV 0) (aC (eV 4) aN))))))
  (sRet (eTr (cmpT (iL (eB 3)) [5] (gN 5) (lLst (eB 5)))))))))))
noncomputable abbrev m_run : List D → R D := fnRT 6 b_run

/-- _law_cell_at(_law_script, _law_k) -/
def b_law_cell_at : SF :=
  (sSeq (sIf (qV (e2 opLt (eB 1) (eC bLen (aC (eB 0) aN)))) (sRet (e2 opIx (eB 0) (eV 1))) sNil)
  (sRet (eK (.int 0))))
abbrev m_law_cell_at : List D → R D := fnR 2 b_law_cell_at

/-- _law_drawn(_law_seed, _law_k) -/
def b_law_drawn : SF :=
  (sSeq (sSet (gN 2) (e2 opMod (e2 opMul (e2 opAdd (e2 opAdd (eB 0) (e2 opMul (eK (.int 101)) (eB 1))) (eK (.int 7))) (eK (.int 48271))) (eK (.int 2147483647))))
  (sRet (e2 opDiv (e2 opMod (e2 opMul (e2 opAdd (e2 opDiv (eB 2) (eK (.int 7))) (eB 1)) (eK (.int 16807))) (eK (.int 2147483647))) (eK (.int 64)))))
abbrev m_law_drawn : List D → R D := fnR 3 b_law_drawn

/-- _law_row_by(_law_cell, _law_k, _law_many) -/
def b_law_row_by : SF :=
  (sSeq (sIf (qV (e2 opEq (e2 opMod (eC m_law_drawn (aC (eV 0) (aC (e2 opAdd (e2 opMul (eK (.int 10)) (eB 1)) (eK (.int 9))) aN))) (eK (.int 8))) (eK (.int 3)))) (sRet (eL (cmp (iR1 (e2 opAdd (eB 2) (eK (.int 1)))) [3] (gN 3) qY (e2 opSub (e2 opMod (eC m_law_drawn (aC (eV 0) (aC (e2 opAdd (e2 opMul (eK (.int 10)) (eB 1)) (eB 3)) aN))) (eK (.int 2001))) (eK (.int 1000)))))) sNil)
  (sRet (e2 opAdd (eL (cmp (iR1 (eV 2)) [3] (gN 3) qY (e2 opSub (e2 opMod (eC m_law_drawn (aC (eV 0) (aC (e2 opAdd (e2 opMul (eK (.int 10)) (eB 1)) (eB 3)) aN))) (eK (.int 5))) (eK (.int 2))))) (eL (aC (e2 opSub (e2 opMod (eC m_law_drawn (aC (eV 0) (aC (e2 opAdd (e2 opMul (eK (.int 10)) (eB 1)) (eK (.int 7))) aN))) (eK (.int 13))) (eK (.int 6))) aN)))))
abbrev m_law_row_by : List D → R D := fnR 4 b_law_row_by

/-- _law_way_by(_law_cell, _law_many) -/
def b_law_way_by : SF :=
  (sSeq (sSet (gN 2) (e2 opMod (eC m_law_drawn (aC (eV 0) (aC (eK (.int 3)) aN))) (eK (.int 4))))
  (sSeq (sSet (gN 3) (eL (cmp (iR1 (e2 opMod (eC m_law_drawn (aC (eV 0) (aC (eK (.int 4)) aN))) (eK (.int 4)))) [4] (gN 4) qY (eC m_law_row_by (aC (eV 0) (aC (e2 opAdd (eK (.int 2)) (eB 4)) (aC (eV 1) aN)))))))
  (sSeq (sSet (gN 5) (eL (cmp (iR1 (eV 1)) [4] (gN 4) qY (eC m_law_row_by (aC (eV 0) (aC (e2 opAdd (eK (.int 6)) (eB 4)) (aC (eV 1) aN)))))))
  (sSeq (sSet (gN 6) (eL (cmp (iR1 (eV 1)) [4] (gN 4) qY (e2 opSub (e2 opMod (eC m_law_drawn (aC (eV 0) (aC (e2 opAdd (eK (.int 100)) (eB 4)) aN))) (eK (.int 7))) (eK (.int 3))))))
  (sSeq (sIf (qOr (qV (e2 opEq (eB 2) (eK (.int 1)))) (qV (e2 opEq (eB 2) (eK (.int 2))))) (sSet (gN 5) (eL (cmp (iR1 (eV 1)) [4] (gN 4) qY (e2 opAdd (eL (cmp (iR1 (eV 1)) [7] (gN 7) qY (eC bInt (aC (e2 opEq (eB 7) (eB 4)) aN)))) (eL (aC (e2 opIx (eB 6) (eV 4)) aN)))))) sNil)
  (sSeq (sIf (qV (e2 opEq (eB 2) (eK (.int 2)))) (sSet (gN 3) (e2 opAdd (eB 3) (eL (aC (e2 opAdd (eL (cmp (iL (eB 6)) [8] (gN 8) qY (e2 opSub (eK (.int 0)) (eB 8)))) (eL (aC (e2 opMod (eC m_law_drawn (aC (eV 0) (aC (eK (.int 110)) aN))) (eK (.int 9))) aN))) aN)))) sNil)
  (sSeq (sIf (qV (e2 opEq (eB 2) (eK (.int 3)))) (sSet (gN 5) (eL (cmp (iL (eB 5)) [9] (gN 9) qY (e2 opAdd (e2 opMul (eL (aC (eK (.int 0)) aN)) (eB 1)) (eSl (eB 9) (oS (eV 1)) oN))))) sNil)
  (sRet (eT (aC (eV 3) (aC (eV 5) aN)))))))))))
abbrev m_law_way_by : List D → R D := fnR 10 b_law_way_by

/-- _law_far(_law_row) -/
def b_law_far : SF :=
  (sRet (eL (cmp (iL (eB 0)) [1] (gN 1) qY (eC bMax2 (aC (e1 opNeg (eK (.int 1000))) (aC (eC bMin2 (aC (eK (.int 1000)) (aC (e2 opMul (eK (.int 250)) (eB 1)) aN))) aN))))))
abbrev m_law_far : List D → R D := fnR 2 b_law_far

/-- _law_loop_by(_law_script, _law_at) -/
def b_law_loop_by : SF :=
  (sSeq (sSet (gN 2) (eC m_law_cell_at (aC (eV 0) (aC (eV 1) aN))))
  (sSeq (sSet (gN 3) (e2 opIx (eL (aC (eK (.int 1)) (aC (eK (.int 2)) (aC (eK (.int 3)) (aC (eK (.int 1)) (aC (eK (.int 2)) (aC (eK (.int 2)) (aC (eK (.int 1)) (aC (eK (.int 3)) aN))))))))) (e2 opMod (eB 2) (eK (.int 8)))))
  (sSeq (sSet (gN 4) (e2 opIx (eL (aC (eK (.int 1)) (aC (eK (.int 2)) (aC (eK (.int 1)) (aC (eK (.int 1)) (aC (eK (.int 2)) (aC (eK (.int 1)) (aC (eK (.int 3)) aN)))))))) (e2 opMod (e2 opDiv (eB 2) (eK (.int 8))) (eK (.int 7)))))
  (sSeq (sSet (gN 5) (eL (cmp (iR1 (eV 4)) [6] (gN 6) qY (eC m_law_way_by (aC (eC m_law_cell_at (aC (eV 0) (aC (e2 opAdd (e2 opAdd (eB 1) (eK (.int 1))) (eB 6)) aN))) (aC (eV 3) aN))))))
  (sSeq (sIf (qV (e2 opEq (e2 opMod (e2 opDiv (eB 2) (eK (.int 56))) (eK (.int 8))) (eK (.int 5)))) (sSeq (sOwn 7 aN)
  (sSeq (sFor (iL (eV 5)) (gT [(gN 8), (gN 9)]) (sApp 7 (eT (aC (eL (cmp (iL (eB 8)) [10] (gN 10) qY (eC m_law_far (aC (eV 10) aN)))) (aC (eL (cmp (iL (eB 9)) [10] (gN 10) qY (eC m_law_far (aC (eV 10) aN)))) aN)))))
  (sFrz 7 (sSet (gN 5) (eV 7))))) sNil)
  (sRet (eT (aC (eV 3) (aC (eV 5) aN)))))))))
abbrev m_law_loop_by : List D → R D := fnR 11 b_law_loop_by

def b_law_name_of (a : Nat) (qBadLoop qBadState qBadCount qBadGauge qBadTable qBadText qValueError : Bool) : SF :=
  (sSeq (sSet (gN 1) (e2 opAdd (e2 opMul (eK (.str "loop ")) (eC bInt (aC (e1 (isAdr a qBadLoop) (eV 0)) aN))) (e2 opMul (eK (.str "state ")) (eC bInt (aC (e1 (isAdr a qBadState) (eV 0)) aN)))))
  (sSeq (sSet (gN 1) (e2 opAdd (e2 opAdd (eB 1) (e2 opMul (eK (.str "count ")) (eC bInt (aC (e1 (isAdr a qBadCount) (eV 0)) aN)))) (e2 opMul (eK (.str "gauge ")) (eC bInt (aC (e1 (isAdr a qBadGauge) (eV 0)) aN)))))
  (sSeq (sSet (gN 1) (e2 opAdd (e2 opAdd (eB 1) (e2 opMul (eK (.str "table ")) (eC bInt (aC (e1 (isAdr a qBadTable) (eV 0)) aN)))) (e2 opMul (eK (.str "text ")) (eC bInt (aC (e1 (isAdr a qBadText) (eV 0)) aN)))))
  (sRet (e2 opIx (eL (aC (eV 1) (aC (eK (.str "bare")) aN))) (eC bInt (aC (eNot (e1 (isAdr a qValueError) (eV 0))) aN)))))))

def b_law_copied (mc : List D → R D) : SF :=
  (sSeq (sIf (qV (eC (bIsi .list) (aC (eB 0) aN))) (sRet (eL (cmp (iL (eB 0)) [1] (gN 1) qY (eC mc (aC (eV 1) aN))))) sNil)
  (sSeq (sIf (qV (eC (bIsi .tuple) (aC (eB 0) aN))) (sRet (eC bTup (aC (eL (cmp (iT (eV 0)) [1] (gN 1) qY (eC mc (aC (eV 1) aN)))) aN))) sNil)
  (sRet (eV 0))))
def m_law_copied : Nat → List D → R D
  | 0 => fun _ => .stk
  | n + 1 => fnR 2 (b_law_copied (m_law_copied n))

/-- _law_worth(_law_row, _law_state) -/
def b_law_worth : SF :=
  (sSeq (sSet (gN 2) (e2 opIx (eB 0) (e1 opNeg (eK (.int 1)))))
  (sSeq (sFor (iR1 (eC bLen (aC (eB 1) aN))) (gN 3) (sSet (gN 2) (e2 opAdd (eB 2) (e2 opMul (e2 opIx (eB 0) (eV 3)) (e2 opIx (eB 1) (eV 3))))))
  (sRet (eV 2))))
abbrev m_law_worth : List D → R D := fnR 4 b_law_worth

/-- _law_led(_law_way, _law_state) -/
def b_law_led : SF :=
  (sSeq (sFor (iL (e2 opIx (eB 0) (eK (.int 0)))) (gN 2) (sIf (qV (e2 opLt (eC m_law_worth (aC (eV 2) (aC (eV 1) aN))) (eK (.int 0)))) (sRet (eK .none)) sNil))
  (sRet (eL (cmp (iL (e2 opIx (eB 0) (eK (.int 1)))) [2] (gN 2) qY (eC m_law_worth (aC (eV 2) (aC (eV 1) aN)))))))
abbrev m_law_led : List D → R D := fnR 3 b_law_led

/-- _law_due(_law_loop, _law_state, _law_most) -/
noncomputable def b_law_due : SF :=
  (sSeq (sOwn 3 (aC (eC bList (aC (eB 1) aN)) aN))
  (sSeq (sWhile (qV (e2 opLe (eC bLen (aC (eB 3) aN)) (eB 2))) (sSeq (sSet (gN 4) (eL (cmp (iL (e2 opIx (eB 0) (eK (.int 1)))) [5] (gN 5) qY (eC m_law_led (aC (eV 5) (aC (e2 opIx (eB 3) (e1 opNeg (eK (.int 1)))) aN))))))
  (sSeq (sSet (gN 4) (eL (cmp (iL (eB 4)) [6] (gN 6) (qV (e2 opIsNot (eB 6) (eK .none))) (eV 6))))
  (sSeq (sIf (qV (e2 opEq (eB 4) (eL aN))) (sFrz 3 (sRet (eV 3))) sNil)
  (sApp 3 (e2 opIx (eB 4) (eK (.int 0))))))))
  (sFrz 3 (sRet (eV 3)))))
noncomputable abbrev m_law_due : List D → R D := fnR 7 b_law_due

/-- _law_word(_law_loop, _law_state, _law_most) -/
noncomputable def b_law_word : SF :=
  (sSeq (sTry (sDo (eC m_run (aC (eV 0) (aC (eV 1) (aC (eV 2) aN))))) nmOf)
  (sRet (eK (.str ""))))
noncomputable abbrev m_law_word : List D → R D := fnR 4 b_law_word

/-- law(_law_script) -/
noncomputable def b_law : SF :=
  (sSeq (sSet (gN 1) (eC m_law_loop_by (aC (eV 0) (aC (eK (.int 4)) aN))))
  (sSeq (sSet (gN 2) (eC (m_law_copied 12) (aC (eV 1) aN)))
  (sSeq (sSet (gN 3) (eC m_law_cell_at (aC (eV 0) (aC (eK (.int 1)) aN))))
  (sSeq (sSet (gN 4) (e2 opIx (eL (aC (eK (.int 81)) (aC (eK (.int 4001)) aN))) (e2 opMod (eB 3) (eK (.int 2)))))
  (sSeq (sSet (gN 5) (eL (cmp (iR1 (e2 opIx (eB 1) (eK (.int 0)))) [6] (gN 6) qY (e2 opSub (e2 opMod (eC m_law_drawn (aC (eV 3) (aC (eV 6) aN))) (eB 4)) (e2 opDiv (eB 4) (eK (.int 2)))))))
  (sSeq (sSet (gN 7) (e2 opIx (eL (aC (e2 opMod (eC m_law_cell_at (aC (eV 0) (aC (eK (.int 0)) aN))) (eK (.int 61))) (aC (e2 opMod (e2 opDiv (eC m_law_cell_at (aC (eV 0) (aC (eK (.int 0)) aN))) (eK (.int 61))) (eK (.int 6))) aN))) (e2 opMod (eC m_law_cell_at (aC (eV 0) (aC (eK (.int 2)) aN))) (eK (.int 2)))))
  (sSeq (sSet (gN 8) (eC m_law_due (aC (eV 1) (aC (eV 5) (aC (eV 7) aN)))))
  (sSeq (sOwn 9 (lLst (eB 5)))
  (sTree 10 m_run (aC (eB 1) (aC (eB 9) (aC (eB 7) aN))) (rCons (tIf 10 (qOr (qNot (qV (eC (bIsi .list) (aC (eB 10) aN)))) (qOr (qV (e2 opNe (eB 10) (eB 8))) (qOr (qV (e2 opNe (eB 9) (eB 5))) (qV (e2 opNe (eB 1) (eB 2)))))) (sRet (eK (.bool false))))
  (rCons (tFrame 10 (sApp 9 (eK (.int 7))))
  (rCons (tIf 10 (qV (e2 opNe (eB 10) (eB 8))) (sRet (eK (.bool false))))
  (rCons (tFor 11 (qOr (qNot (qV (eC (bIsi .list) (aC (eB 11) aN)))) (qV (e2 opGt (eC bLen (aC (eL (cmp (iL (eB 11)) [6] (gN 6) (qOr (qNot (qV (eC (bIsi .int) (aC (eB 6) aN)))) (qV (eC (bIsi .bool) (aC (eB 6) aN)))) (eV 6))) aN)) (eK (.int 0))))) (sRet (eK (.bool false))) (eK (.int 0)))
  (rFrz 10 (sSeq (sIf (qOr (qV (e2 opNe (eL (cmp (iL (eB 10)) [11] (gN 11) (qV (e2 opNe (eC bLen (aC (eB 11) aN)) (e2 opAdd (e2 opIx (eB 1) (eK (.int 0))) (eK (.int 1))))) (eV 11))) (eL aN))) (qV (e2 opNe (eC m_run (aC (eV 1) (aC (eV 5) (aC (eV 7) aN)))) (eB 8)))) (sRet (eK (.bool false))) sNil)
  (sSeq (sSet (gN 12) (e2 opIx (eL (aC (eK (.int 61)) (aC (e1 opNeg (eK (.int 1))) (aC (eK (.bool true)) (aC (eK .none) (aC (eK (.str "1")) (aC (eL (aC (eK (.int 1)) aN)) (aC (e2 opPow (eK (.int 10)) (eK (.int 20))) (aC (eK (.bool false)) aN))))))))) (e2 opMod (eC m_law_cell_at (aC (eV 0) (aC (eK (.int 3)) aN))) (eK (.int 8)))))
  (sSeq (sSet (gN 13) (e2 opIx (eL (aC (e2 opAdd (eB 5) (eL (aC (eK (.int 0)) aN))) (aC (eSl (eB 5) (oS (eK (.int 1))) oN) (aC (eK .none) (aC (eC bTup (aC (eB 5) aN)) (aC (e2 opAdd (eL (aC (eK (.bool true)) aN)) (eSl (eB 5) (oS (eK (.int 1))) oN)) (aC (eK (.str "0")) (aC (eK (.dict [])) aN)))))))) (e2 opMod (e2 opDiv (eC m_law_cell_at (aC (eV 0) (aC (eK (.int 3)) aN))) (eK (.int 8))) (eK (.int 7)))))
  (sSeq (sIf (qOr (qV (e2 opNe (eC m_law_word (aC (eV 1) (aC (eV 5) (aC (eV 12) aN)))) (eK (.str "count ")))) (qV (e2 opNe (eC m_law_word (aC (eV 1) (aC (eV 13) (aC (eV 12) aN)))) (eK (.str "state "))))) (sRet (eK (.bool false))) sNil)
  (sRet (eAnd (e2 opEq (eC m_law_word (aC (eV 1) (aC (eV 13) (aC (eV 7) aN)))) (eK (.str "state "))) (e2 opEq (eB 1) (eB 2))))))))))))))))))))))
noncomputable abbrev m_law : List D → R D := fnR 14 b_law

theorem res_BadLoop (a : Nat) : b_law_name_of a true false false false false false true (.sh (adr a) :: List.replicate 1 .no) = .ret (.str "loop ") := by
  unfold b_law_name_of
  show sSeq _ _ [.sh (adr a), .no] = _
  simp (disch := decide) only [sSeq, sSet, sRet, e2, eC, aC, aN, eK, eNot, eL, isAdr_eV, R.bind, R.out, bInt, str0, str1, asB, gN, List.set, ↓reduceIte, Bool.false_eq_true, add_str, eB1, ix0, eV, Bool.not_true, Bool.not_false]
  rfl
theorem res_BadState (a : Nat) : b_law_name_of a false true false false false false true (.sh (adr a) :: List.replicate 1 .no) = .ret (.str "state ") := by
  unfold b_law_name_of
  show sSeq _ _ [.sh (adr a), .no] = _
  simp (disch := decide) only [sSeq, sSet, sRet, e2, eC, aC, aN, eK, eNot, eL, isAdr_eV, R.bind, R.out, bInt, str0, str1, asB, gN, List.set, ↓reduceIte, Bool.false_eq_true, add_str, eB1, ix0, eV, Bool.not_true, Bool.not_false]
  rfl
theorem res_BadCount (a : Nat) : b_law_name_of a false false true false false false true (.sh (adr a) :: List.replicate 1 .no) = .ret (.str "count ") := by
  unfold b_law_name_of
  show sSeq _ _ [.sh (adr a), .no] = _
  simp (disch := decide) only [sSeq, sSet, sRet, e2, eC, aC, aN, eK, eNot, eL, isAdr_eV, R.bind, R.out, bInt, str0, str1, asB, gN, List.set, ↓reduceIte, Bool.false_eq_true, add_str, eB1, ix0, eV, Bool.not_true, Bool.not_false]
  rfl

theorem nmOf_all (p : Str → Str → Prop) (h0 : p "BadLoop" "loop ") (h1 : p "BadState" "state ") (h2 : p "BadCount" "count ") {c z : Str} (h : nmOf c = some z) : p c z := by
  unfold nmOf at h
  split at h
  · rename_i e; cases h; rw [e]; exact h0
  split at h
  · rename_i e; cases h; rw [e]; exact h1
  split at h
  · rename_i e; cases h; rw [e]; exact h2
  cases h
end PL

namespace PL
open PySem PySem.Spec PyProof.Rows L2
/-! ## the walk -/
def topS (i : Nat) : Stmt := PySem.Challenge.pw_loopgauge_k03_runs.main.body.getD i (.Pass ⟨0, 0, 0, 0⟩)
structure Txt (K : PySem.W.Frag) (mg : Str → Option Value) : Type where
  b_ValueError : mg "ValueError" = none
  b_all : mg "all" = none
  b_bool : mg "bool" = none
  b_int : mg "int" = none
  b_isinstance : mg "isinstance" = none
  b_len : mg "len" = none
  b_list : mg "list" = none
  b_max : mg "max" = none
  b_min : mg "min" = none
  b_range : mg "range" = none
  b_sum : mg "sum" = none
  b_tuple : mg "tuple" = none
  b_zip : mg "zip" = none
  k_MOST_NAMES : ∃ t, mg "MOST_NAMES" = some (.int 3 t)
  k_MOST_WAYS : ∃ t, mg "MOST_WAYS" = some (.int 3 t)
  k_MOST_ASKS : ∃ t, mg "MOST_ASKS" = some (.int 4 t)
  k_MOST_TURNS : ∃ t, mg "MOST_TURNS" = some (.int 60 t)
  k_FAR : ∃ t, mg "FAR" = some (.int 1000 t)
  c_LoopError : Addr
  x_LoopError : ExcF K mg "LoopError" c_LoopError
  c_BadLoop : Addr
  x_BadLoop : ExcF K mg "BadLoop" c_BadLoop
  c_BadState : Addr
  x_BadState : ExcF K mg "BadState" c_BadState
  c_BadCount : Addr
  x_BadCount : ExcF K mg "BadCount" c_BadCount
  c_BadGauge : Addr
  x_BadGauge : ExcF K mg "BadGauge" c_BadGauge
  c_BadTable : Addr
  x_BadTable : ExcF K mg "BadTable" c_BadTable
  c_BadText : Addr
  x_BadText : ExcF K mg "BadText" c_BadText
  d_BadLoop : ExcC K c_BadLoop
  d_BadState : ExcC K c_BadState
  d_BadCount : ExcC K c_BadCount
  s_BadLoop_LoopError : PySem.W.subIn K (.ref c_BadLoop) (.ref c_LoopError) = some true
  n_BadLoop_LoopError : (Value.ref c_BadLoop == Value.ref c_LoopError) = false
  s_BadLoop_BadState : PySem.W.subIn K (.ref c_BadLoop) (.ref c_BadState) = some false
  n_BadLoop_BadState : (Value.ref c_BadLoop == Value.ref c_BadState) = false
  s_BadLoop_BadCount : PySem.W.subIn K (.ref c_BadLoop) (.ref c_BadCount) = some false
  n_BadLoop_BadCount : (Value.ref c_BadLoop == Value.ref c_BadCount) = false
  s_BadLoop_BadGauge : PySem.W.subIn K (.ref c_BadLoop) (.ref c_BadGauge) = some false
  n_BadLoop_BadGauge : (Value.ref c_BadLoop == Value.ref c_BadGauge) = false
  s_BadLoop_BadTable : PySem.W.subIn K (.ref c_BadLoop) (.ref c_BadTable) = some false
  n_BadLoop_BadTable : (Value.ref c_BadLoop == Value.ref c_BadTable) = false
  s_BadLoop_BadText : PySem.W.subIn K (.ref c_BadLoop) (.ref c_BadText) = some false
  n_BadLoop_BadText : (Value.ref c_BadLoop == Value.ref c_BadText) = false
  s_BadState_LoopError : PySem.W.subIn K (.ref c_BadState) (.ref c_LoopError) = some true
  n_BadState_LoopError : (Value.ref c_BadState == Value.ref c_LoopError) = false
  s_BadState_BadLoop : PySem.W.subIn K (.ref c_BadState) (.ref c_BadLoop) = some false
  n_BadState_BadLoop : (Value.ref c_BadState == Value.ref c_BadLoop) = false
  s_BadState_BadCount : PySem.W.subIn K (.ref c_BadState) (.ref c_BadCount) = some false
  n_BadState_BadCount : (Value.ref c_BadState == Value.ref c_BadCount) = false
  s_BadState_BadGauge : PySem.W.subIn K (.ref c_BadState) (.ref c_BadGauge) = some false
  n_BadState_BadGauge : (Value.ref c_BadState == Value.ref c_BadGauge) = false
  s_BadState_BadTable : PySem.W.subIn K (.ref c_BadState) (.ref c_BadTable) = some false
  n_BadState_BadTable : (Value.ref c_BadState == Value.ref c_BadTable) = false
  s_BadState_BadText : PySem.W.subIn K (.ref c_BadState) (.ref c_BadText) = some false
  n_BadState_BadText : (Value.ref c_BadState == Value.ref c_BadText) = false
  s_BadCount_LoopError : PySem.W.subIn K (.ref c_BadCount) (.ref c_LoopError) = some true
  n_BadCount_LoopError : (Value.ref c_BadCount == Value.ref c_LoopError) = false
  s_BadCount_BadLoop : PySem.W.subIn K (.ref c_BadCount) (.ref c_BadLoop) = some false
  n_BadCount_BadLoop : (Value.ref c_BadCount == Value.ref c_BadLoop) = false
  s_BadCount_BadState : PySem.W.subIn K (.ref c_BadCount) (.ref c_BadState) = some false
  n_BadCount_BadState : (Value.ref c_BadCount == Value.ref c_BadState) = false
  s_BadCount_BadGauge : PySem.W.subIn K (.ref c_BadCount) (.ref c_BadGauge) = some false
  n_BadCount_BadGauge : (Value.ref c_BadCount == Value.ref c_BadGauge) = false
  s_BadCount_BadTable : PySem.W.subIn K (.ref c_BadCount) (.ref c_BadTable) = some false
  n_BadCount_BadTable : (Value.ref c_BadCount == Value.ref c_BadTable) = false
  s_BadCount_BadText : PySem.W.subIn K (.ref c_BadCount) (.ref c_BadText) = some false
  n_BadCount_BadText : (Value.ref c_BadCount == Value.ref c_BadText) = false
abbrev s_is_whole : Stmt := topS 14
theorem sc_is_whole : FnScope ["thing"] ["thing"] (defScope s_is_whole) := ⟨rfl, rfl, rfl, by decide +kernel, rfl, by decide +kernel, by decide +kernel⟩
theorem ok_is_whole {P : Program} {w : World} {K : PySem.W.Frag} {mg : Str → Option Value} {base : Heap} {fa : Addr} {fd : FuncData} (T : Txt K mg) (F : Fun K "is_whole" "is_whole" s_is_whole fa fd) : FnP P w K mg base 1 fa fd ["thing"] m_is_whole :=
  fnP_of (N := ["thing"]) (k := 0) F sc_is_whole fun cdv A outer s H E hr => by
    have nd : (["thing"] : List Str).Nodup := sc_is_whole.nd
    have tk := @takes_of (cxOf (L2.CX P w) P w K mg base ["thing"] "is_whole" (defScope s_is_whole) fa cdv A outer s H E) E rfl rfl rfl _ rfl
    exact (ppss_one (pps_ret (ppe_and (ppe_isi .int (ppb_v 0) T.b_isinstance boot_isi T.b_int boot_int) (ppe_one (ppe_not (ppe_isi .bool (ppb_v 0) T.b_isinstance boot_isi T.b_bool boot_bool))))))

abbrev s_are_whole : Stmt := topS 15
theorem sc_are_whole : FnScope ["thing", "size", "one"] ["thing", "size"] (defScope s_are_whole) := ⟨rfl, rfl, rfl, by decide +kernel, rfl, by decide +kernel, by decide +kernel⟩
theorem ok_are_whole {P : Program} {w : World} {K : PySem.W.Frag} {mg : Str → Option Value} {base : Heap} {fa : Addr} {fd : FuncData} (T : Txt K mg) (c_is_whole : Cal P w K mg base "is_whole" ["thing"] 1 m_is_whole) (F : Fun K "are_whole" "are_whole" s_are_whole fa fd) : FnP P w K mg base 2 fa fd ["thing", "size"] m_are_whole :=
  fnP_of (N := ["thing", "size", "one"]) (k := 1) F sc_are_whole fun cdv A outer s H E hr => by
    have nd : (["thing", "size", "one"] : List Str).Nodup := sc_are_whole.nd
    have tk := @takes_of (cxOf (L2.CX P w) P w K mg base ["thing", "size", "one"] "are_whole" (defScope s_are_whole) fa cdv A outer s H E) E rfl rfl rfl _ rfl
    exact (ppss_one (pps_ret (ppe_and (ppe_isi .list (ppb_v 0) T.b_isinstance boot_isi T.b_list boot_list) (ppe_and (ppe_cmp (os_eq hr.units) (ppe_callB cs_len T.b_len PySem.boot_len (ppba_cons (ppb_v 0) ppba_nil)).bo (ppb_v 1) (nomark _)) (ppe_one (ppe_callB (cs_all rfl) T.b_all boot_all (ppba_cons (ppe_comp (own := [("one", 2)]) nd (ppi_list (ppb_v 0)) (by kernel_rfl) (fun _ _ _ _ _ => (ppg_n 2 nd)) (fun _ _ _ _ _ => ppts_nil) (fun _ _ _ _ _ => (ppe_cal c_is_whole hr takes0 (ppa_cons (ppe_v 2) ppa_nil)))).bo ppba_nil)))))))

abbrev s_is_row : Stmt := topS 16
theorem sc_is_row : FnScope ["thing", "many", "one"] ["thing", "many"] (defScope s_is_row) := ⟨rfl, rfl, rfl, by decide +kernel, rfl, by decide +kernel, by decide +kernel⟩
theorem ok_is_row {P : Program} {w : World} {K : PySem.W.Frag} {mg : Str → Option Value} {base : Heap} {fa : Addr} {fd : FuncData} (T : Txt K mg) (c_are_whole : Cal P w K mg base "are_whole" ["thing", "size"] 2 m_are_whole) (F : Fun K "is_row" "is_row" s_is_row fa fd) : FnP P w K mg base 3 fa fd ["thing", "many"] m_is_row :=
  fnP_of (N := ["thing", "many", "one"]) (k := 2) F sc_is_row fun cdv A outer s H E hr => by
    have nd : (["thing", "many", "one"] : List Str).Nodup := sc_is_row.nd
    have tk := @takes_of (cxOf (L2.CX P w) P w K mg base ["thing", "many", "one"] "is_row" (defScope s_is_row) fa cdv A outer s H E) E rfl rfl rfl _ rfl
    exact (ppss_one (pps_ret (ppe_and (ppe_cal c_are_whole hr tk (ppa_cons (ppe_v 0) (ppa_cons (ppe_op os_add (ppb_v 1) ppe_int.bo) ppa_nil))) (ppe_one (ppe_callB (cs_all rfl) T.b_all boot_all (ppba_cons (ppe_comp (own := [("one", 2)]) nd (ppi_list (ppb_v 0)) (by kernel_rfl) (fun _ _ _ _ _ => (ppg_n 2 nd)) (fun _ _ _ _ _ => ppts_nil) (fun _ _ _ _ _ => (ppe_chain os_le os_le (ppe_op os_sub ppe_int.bo (ppe_gi T.k_FAR).bo).bo (ppb_v 2) (ppe_gi T.k_FAR).bo))).bo ppba_nil))))))

abbrev s_are_rows : Stmt := topS 17
theorem sc_are_rows : FnScope ["thing", "many", "row"] ["thing", "many"] (defScope s_are_rows) := ⟨rfl, rfl, rfl, by decide +kernel, rfl, by decide +kernel, by decide +kernel⟩
theorem ok_are_rows {P : Program} {w : World} {K : PySem.W.Frag} {mg : Str → Option Value} {base : Heap} {fa : Addr} {fd : FuncData} (T : Txt K mg) (c_is_row : Cal P w K mg base "is_row" ["thing", "many"] 3 m_is_row) (F : Fun K "are_rows" "are_rows" s_are_rows fa fd) : FnP P w K mg base 4 fa fd ["thing", "many"] m_are_rows :=
  fnP_of (N := ["thing", "many", "row"]) (k := 3) F sc_are_rows fun cdv A outer s H E hr => by
    have nd : (["thing", "many", "row"] : List Str).Nodup := sc_are_rows.nd
    have tk := @takes_of (cxOf (L2.CX P w) P w K mg base ["thing", "many", "row"] "are_rows" (defScope s_are_rows) fa cdv A outer s H E) E rfl rfl rfl _ rfl
    exact (ppss_one (pps_ret (ppe_and (ppe_isi .list (ppb_v 0) T.b_isinstance boot_isi T.b_list boot_list) (ppe_one (ppe_callB (cs_all rfl) T.b_all boot_all (ppba_cons (ppe_comp (own := [("row", 2)]) nd (ppi_list (ppb_v 0)) (by kernel_rfl) (fun _ _ _ _ _ => (ppg_n 2 nd)) (fun _ _ _ _ _ => ppts_nil) (fun _ _ _ _ _ => (ppe_cal c_is_row hr takes0 (ppa_cons (ppe_v 2) (ppa_cons (ppe_v 1) ppa_nil))))).bo ppba_nil))))))

abbrev s_is_way : Stmt := topS 18
theorem sc_is_way : FnScope ["thing", "many"] ["thing", "many"] (defScope s_is_way) := ⟨rfl, rfl, rfl, by decide +kernel, rfl, by decide +kernel, by decide +kernel⟩
theorem ok_is_way {P : Program} {w : World} {K : PySem.W.Frag} {mg : Str → Option Value} {base : Heap} {fa : Addr} {fd : FuncData} (T : Txt K mg) (c_are_rows : Cal P w K mg base "are_rows" ["thing", "many"] 4 m_are_rows) (F : Fun K "is_way" "is_way" s_is_way fa fd) : FnP P w K mg base 5 fa fd ["thing", "many"] m_is_way :=
  fnP_of (N := ["thing", "many"]) (k := 4) F sc_is_way fun cdv A outer s H E hr => by
    have nd : (["thing", "many"] : List Str).Nodup := sc_is_way.nd
    have tk := @takes_of (cxOf (L2.CX P w) P w K mg base ["thing", "many"] "is_way" (defScope s_is_way) fa cdv A outer s H E) E rfl rfl rfl _ rfl
    exact (ppss_cons (pps_if (ppw_or (ppt_not (ppt_v (ppe_isi .tuple (ppb_v 0) T.b_isinstance boot_isi T.b_tuple boot_tuple))) (ppw_or1 (ppt_cmp (os_ne hr.units) (ppe_callB cs_len T.b_len PySem.boot_len (ppba_cons (ppb_v 0) ppba_nil)).bo ppe_int.bo (nomark _)))).pt (ppss_one (pps_ret ppe_bl)) ppss_nil)
    (ppss_cons (pps_if (ppw_or (ppt_not (ppt_v (ppe_cal c_are_rows hr tk (ppa_cons (ppe_ix (ppb_v 0) ppe_int (fun _ _ => rfl)) (ppa_cons (ppe_v 1) ppa_nil))))) (ppw_or1 (ppt_not (ppt_v (ppe_cal c_are_rows hr tk (ppa_cons (ppe_ix (ppb_v 0) ppe_int (fun _ _ => rfl)) (ppa_cons (ppe_v 1) ppa_nil))))))).pt (ppss_one (pps_ret ppe_bl)) ppss_nil)
    (ppss_one (pps_ret (ppe_and (ppe_cmp os_le (ppe_callB cs_len T.b_len PySem.boot_len (ppba_cons (ppe_ix (ppb_v 0) ppe_int (fun _ _ => rfl)).bo ppba_nil)).bo (ppe_gi T.k_MOST_ASKS).bo (nomark _)) (ppe_one (ppe_cmp (os_eq hr.units) (ppe_callB cs_len T.b_len PySem.boot_len (ppba_cons (ppe_ix (ppb_v 0) ppe_int (fun _ _ => rfl)).bo ppba_nil)).bo (ppb_v 1) (nomark _))))))))

abbrev s_is_loop : Stmt := topS 19
theorem sc_is_loop : FnScope ["thing", "way"] ["thing"] (defScope s_is_loop) := ⟨rfl, rfl, rfl, by decide +kernel, rfl, by decide +kernel, by decide +kernel⟩
theorem ok_is_loop {P : Program} {w : World} {K : PySem.W.Frag} {mg : Str → Option Value} {base : Heap} {fa : Addr} {fd : FuncData} (T : Txt K mg) (c_is_whole : Cal P w K mg base "is_whole" ["thing"] 1 m_is_whole) (c_is_way : Cal P w K mg base "is_way" ["thing", "many"] 5 m_is_way) (F : Fun K "is_loop" "is_loop" s_is_loop fa fd) : FnP P w K mg base 6 fa fd ["thing"] m_is_loop :=
  fnP_of (N := ["thing", "way"]) (k := 5) F sc_is_loop fun cdv A outer s H E hr => by
    have nd : (["thing", "way"] : List Str).Nodup := sc_is_loop.nd
    have tk := @takes_of (cxOf (L2.CX P w) P w K mg base ["thing", "way"] "is_loop" (defScope s_is_loop) fa cdv A outer s H E) E rfl rfl rfl _ rfl
    exact (ppss_cons (pps_if (ppw_or (ppt_not (ppt_v (ppe_isi .tuple (ppb_v 0) T.b_isinstance boot_isi T.b_tuple boot_tuple))) (ppw_or (ppt_cmp (os_ne hr.units) (ppe_callB cs_len T.b_len PySem.boot_len (ppba_cons (ppb_v 0) ppba_nil)).bo ppe_int.bo (nomark _)) (ppw_or (ppt_not (ppt_v (ppe_cal c_is_whole hr tk (ppa_cons (ppe_ix (ppb_v 0) ppe_int (fun _ _ => rfl)) ppa_nil)))) (ppw_or1 (ppt_not (ppt_v (ppe_isi .list (ppe_ix (ppb_v 0) ppe_int (fun _ _ => rfl)).bo T.b_isinstance boot_isi T.b_list boot_list))))))).pt (ppss_one (pps_ret ppe_bl)) ppss_nil)
    (ppss_cons (pps_if (ppw_or (ppt_not (ppt_chain os_le os_le ppe_int.bo (ppe_ix (ppb_v 0) ppe_int (fun _ _ => rfl)).bo (ppe_gi T.k_MOST_NAMES).bo)) (ppw_or1 (ppt_not (ppt_chain os_le os_le ppe_int.bo (ppe_callB cs_len T.b_len PySem.boot_len (ppba_cons (ppe_ix (ppb_v 0) ppe_int (fun _ _ => rfl)).bo ppba_nil)).bo (ppe_gi T.k_MOST_WAYS).bo)))).pt (ppss_one (pps_ret ppe_bl)) ppss_nil)
    (ppss_one (pps_ret (ppe_callB (cs_all rfl) T.b_all boot_all (ppba_cons (ppe_comp (own := [("way", 1)]) nd (ppi_list (ppe_ix (ppb_v 0) ppe_int (fun _ _ => rfl)).bo) (by kernel_rfl) (fun _ _ _ _ _ => (ppg_n 1 nd)) (fun _ _ _ _ _ => ppts_nil) (fun _ _ _ _ _ => (ppe_cal c_is_way hr takes0 (ppa_cons (ppe_v 1) (ppa_cons (ppe_ix (ppb_v 0) ppe_int (fun _ _ => rfl)) ppa_nil))))).bo ppba_nil))))))

abbrev s_need_loop : Stmt := topS 20
theorem sc_need_loop : FnScope ["thing"] ["thing"] (defScope s_need_loop) := ⟨rfl, rfl, rfl, by decide +kernel, rfl, by decide +kernel, by decide +kernel⟩
theorem ok_need_loop {P : Program} {w : World} {K : PySem.W.Frag} {mg : Str → Option Value} {base : Heap} {fa : Addr} {fd : FuncData} (T : Txt K mg) (c_is_loop : Cal P w K mg base "is_loop" ["thing"] 6 m_is_loop) (F : Fun K "need_loop" "need_loop" s_need_loop fa fd) : FnP P w K mg base 7 fa fd ["thing"] m_need_loop :=
  fnP_of (N := ["thing"]) (k := 6) F sc_need_loop fun cdv A outer s H E hr => by
    have nd : (["thing"] : List Str).Nodup := sc_need_loop.nd
    have tk := @takes_of (cxOf (L2.CX P w) P w K mg base ["thing"] "need_loop" (defScope s_need_loop) fa cdv A outer s H E) E rfl rfl rfl _ rfl
    exact (ppss_one (pps_if (ppt_not (ppt_v (ppe_cal c_is_loop hr tk (ppa_cons (ppe_v 0) ppa_nil)))) (ppss_one (pps_raise tk PySem.F.excBase_ValueError T.x_BadLoop.xi T.x_BadLoop.gC T.x_BadLoop.kC (raises_own T.x_BadLoop.bC T.x_BadLoop.tC))) ppss_nil))

abbrev s_need_state : Stmt := topS 21
theorem sc_need_state : FnScope ["loop", "state"] ["loop", "state"] (defScope s_need_state) := ⟨rfl, rfl, rfl, by decide +kernel, rfl, by decide +kernel, by decide +kernel⟩
theorem ok_need_state {P : Program} {w : World} {K : PySem.W.Frag} {mg : Str → Option Value} {base : Heap} {fa : Addr} {fd : FuncData} (T : Txt K mg) (c_are_whole : Cal P w K mg base "are_whole" ["thing", "size"] 2 m_are_whole) (F : Fun K "need_state" "need_state" s_need_state fa fd) : FnP P w K mg base 3 fa fd ["loop", "state"] m_need_state :=
  fnP_of (N := ["loop", "state"]) (k := 2) F sc_need_state fun cdv A outer s H E hr => by
    have nd : (["loop", "state"] : List Str).Nodup := sc_need_state.nd
    have tk := @takes_of (cxOf (L2.CX P w) P w K mg base ["loop", "state"] "need_state" (defScope s_need_state) fa cdv A outer s H E) E rfl rfl rfl _ rfl
    exact (ppss_one (pps_if (ppt_not (ppt_v (ppe_cal c_are_whole hr tk (ppa_cons (ppe_v 1) (ppa_cons (ppe_ix (ppb_v 0) ppe_int (fun _ _ => rfl)) ppa_nil))))) (ppss_one (pps_raise tk PySem.F.excBase_ValueError T.x_BadState.xi T.x_BadState.gC T.x_BadState.kC (raises_own T.x_BadState.bC T.x_BadState.tC))) ppss_nil))

abbrev s_worth : Stmt := topS 22
theorem sc_worth : FnScope ["row", "state", "total", "one", "number"] ["row", "state"] (defScope s_worth) := ⟨rfl, rfl, rfl, by decide +kernel, rfl, by decide +kernel, by decide +kernel⟩
theorem ok_worth {P : Program} {w : World} {K : PySem.W.Frag} {mg : Str → Option Value} {base : Heap} {fa : Addr} {fd : FuncData} (T : Txt K mg) (F : Fun K "worth" "worth" s_worth fa fd) : FnP P w K mg base 1 fa fd ["row", "state"] m_worth :=
  fnP_of (N := ["row", "state", "total", "one", "number"]) (k := 0) F sc_worth fun cdv A outer s H E hr => by
    have nd : (["row", "state", "total", "one", "number"] : List Str).Nodup := sc_worth.nd
    have tk := @takes_of (cxOf (L2.CX P w) P w K mg base ["row", "state", "total", "one", "number"] "worth" (defScope s_worth) fa cdv A outer s H E) E rfl rfl rfl _ rfl
    exact (ppss_cons (pps_set 2 nd (ppe_callB (cs_sum rfl) T.b_sum boot_sum (ppba_cons (ppe_comp (own := [("one", 3), ("number", 4)]) nd (ppi_zip T.b_zip (ppb_v 0) (ppb_v 1)) (by kernel_rfl) (fun _ _ _ _ _ => (ppg_t rfl (ppgs_cons (ppg_n 3 nd) (ppgs_cons (ppg_n 4 nd) ppgs_nil)))) (fun _ _ _ _ _ => ppts_nil) (fun _ _ _ _ _ => (ppe_op os_mul (ppb_v 3) (ppb_v 4)))).bo ppba_nil)))
    (ppss_cons (pps_if (ppt_cmp os_lt (ppe_callB cs_len T.b_len PySem.boot_len (ppba_cons (ppb_v 1) ppba_nil)).bo (ppe_callB cs_len T.b_len PySem.boot_len (ppba_cons (ppb_v 0) ppba_nil)).bo (nomark _)) (ppss_one (pps_set 2 nd (ppe_op os_add (ppb_v 2) (ppe_ix (ppb_v 0) (ppe_un us_neg ppe_int.bo) (fun _ _ => rfl)).bo))) ppss_nil)
    (ppss_one (pps_ret (ppe_v 2)))))

abbrev s_led : Stmt := topS 23
theorem sc_led : FnScope ["way", "state", "row"] ["way", "state"] (defScope s_led) := ⟨rfl, rfl, rfl, by decide +kernel, rfl, by decide +kernel, by decide +kernel⟩
theorem ok_led {P : Program} {w : World} {K : PySem.W.Frag} {mg : Str → Option Value} {base : Heap} {fa : Addr} {fd : FuncData} (T : Txt K mg) (c_worth : Cal P w K mg base "worth" ["row", "state"] 1 m_worth) (F : Fun K "led" "led" s_led fa fd) : FnP P w K mg base 2 fa fd ["way", "state"] m_led :=
  fnP_of (N := ["way", "state", "row"]) (k := 1) F sc_led fun cdv A outer s H E hr => by
    have nd : (["way", "state", "row"] : List Str).Nodup := sc_led.nd
    have tk := @takes_of (cxOf (L2.CX P w) P w K mg base ["way", "state", "row"] "led" (defScope s_led) fa cdv A outer s H E) E rfl rfl rfl _ rfl
    exact (ppss_cons (pps_if (ppt_cmp (os_ne hr.units) (ppe_comp (own := [("row", 2)]) nd (ppi_list (ppe_ix (ppb_v 0) ppe_int (fun _ _ => rfl)).bo) (by kernel_rfl) (fun _ _ _ _ _ => (ppg_n 2 nd)) (fun _ _ _ _ _ => (ppts_one (ppt_cmp os_lt (ppe_cal c_worth hr takes0 (ppa_cons (ppe_v 2) (ppa_cons (ppe_v 1) ppa_nil))).bo ppe_int.bo (nomark _)))) (fun _ _ _ _ _ => (ppe_v 2))).bo (ppe_list ppa_nil).bo (nomark _)) (ppss_one (pps_ret ppe_non)) ppss_nil)
    (ppss_one (pps_ret (ppe_comp (own := [("row", 2)]) nd (ppi_list (ppe_ix (ppb_v 0) ppe_int (fun _ _ => rfl)).bo) (by kernel_rfl) (fun _ _ _ _ _ => (ppg_n 2 nd)) (fun _ _ _ _ _ => ppts_nil) (fun _ _ _ _ _ => (ppe_cal c_worth hr takes0 (ppa_cons (ppe_v 2) (ppa_cons (ppe_v 1) ppa_nil))))))))

abbrev s_turn_of : Stmt := topS 24
theorem sc_turn_of : FnScope ["loop", "state", "way", "found"] ["loop", "state"] (defScope s_turn_of) := ⟨rfl, rfl, rfl, by decide +kernel, rfl, by decide +kernel, by decide +kernel⟩
theorem ok_turn_of {P : Program} {w : World} {K : PySem.W.Frag} {mg : Str → Option Value} {base : Heap} {fa : Addr} {fd : FuncData} (T : Txt K mg) (c_led : Cal P w K mg base "led" ["way", "state"] 2 m_led) (F : Fun K "turn_of" "turn_of" s_turn_of fa fd) : FnP P w K mg base 3 fa fd ["loop", "state"] m_turn_of :=
  fnP_of (N := ["loop", "state", "way", "found"]) (k := 2) F sc_turn_of fun cdv A outer s H E hr => by
    have nd : (["loop", "state", "way", "found"] : List Str).Nodup := sc_turn_of.nd
    have tk := @takes_of (cxOf (L2.CX P w) P w K mg base ["loop", "state", "way", "found"] "turn_of" (defScope s_turn_of) fa cdv A outer s H E) E rfl rfl rfl _ rfl
    have hpo : PassesOwn (model P w) (cxOf (L2.CX P w) P w K mg base ["loop", "state", "way", "found"] "turn_of" (defScope s_turn_of) fa cdv A outer s H E).A (cxOf (L2.CX P w) P w K mg base ["loop", "state", "way", "found"] "turn_of" (defScope s_turn_of) fa cdv A outer s H E).env (cxOf (L2.CX P w) P w K mg base ["loop", "state", "way", "found"] "turn_of" (defScope s_turn_of) fa cdv A outer s H E).xe := passes_of rfl
    exact (ppss_cons (pps_for hpo (ppi_listS (ppe_ix (ppb_v 0) ppe_int (fun _ _ => rfl))) (ppg_n 2 nd) (ppss_cons (pps_set 3 nd (ppe_cal c_led hr tk (ppa_cons (ppe_v 2) (ppa_cons (ppe_v 1) ppa_nil))))
    (ppss_one (pps_if (ppt_cmp os_isnot (ppb_v 3) ppe_non.bo (nomark _)) (ppss_one (pps_ret (ppe_v 3))) ppss_nil))))
    (ppss_one (pps_ret ppe_non)))

abbrev s_run : Stmt := topS 25
theorem sc_run : FnScope ["loop", "state", "most", "found", "here", "one"] ["loop", "state", "most"] (defScope s_run) := ⟨rfl, rfl, rfl, by decide +kernel, rfl, by decide +kernel, by decide +kernel⟩
theorem ok_run {P : Program} {w : World} {K : PySem.W.Frag} {mg : Str → Option Value} {base : Heap} {fa : Addr} {fd : FuncData} (T : Txt K mg) (c_need_loop : Cal P w K mg base "need_loop" ["thing"] 7 m_need_loop) (c_need_state : Cal P w K mg base "need_state" ["loop", "state"] 3 m_need_state) (c_turn_of : Cal P w K mg base "turn_of" ["loop", "state"] 3 m_turn_of) (c_is_whole : Cal P w K mg base "is_whole" ["thing"] 1 m_is_whole) (F : Fun K "run" "run" s_run fa fd) : FnT P w K mg base 8 fa fd ["loop", "state", "most"] m_run :=
  fnT_of (N := ["loop", "state", "most", "found", "here", "one"]) (k := 7) F sc_run fun cdv A outer s H E hr => by
    have nd : (["loop", "state", "most", "found", "here", "one"] : List Str).Nodup := sc_run.nd
    have tk := @takes_of (cxOf (L2.CX P w) P w K mg base ["loop", "state", "most", "found", "here", "one"] "run" (defScope s_run) fa cdv A outer s H E) E rfl rfl rfl _ rfl
    have hpo : PassesOwn (model P w) (cxOf (L2.CX P w) P w K mg base ["loop", "state", "most", "found", "here", "one"] "run" (defScope s_run) fa cdv A outer s H E).A (cxOf (L2.CX P w) P w K mg base ["loop", "state", "most", "found", "here", "one"] "run" (defScope s_run) fa cdv A outer s H E).env (cxOf (L2.CX P w) P w K mg base ["loop", "state", "most", "found", "here", "one"] "run" (defScope s_run) fa cdv A outer s H E).xe := passes_of rfl
    exact (ppss_cons (pps_do (ppe_cal c_need_loop hr tk (ppa_cons (ppe_v 0) ppa_nil)))
    (ppss_cons (pps_do (ppe_cal c_need_state hr tk (ppa_cons (ppe_v 0) (ppa_cons (ppe_v 1) ppa_nil))))
    (ppss_cons (pps_if (ppw_or (ppt_not (ppt_v (ppe_cal c_is_whole hr tk (ppa_cons (ppe_v 2) ppa_nil)))) (ppw_or1 (ppt_not (ppt_chain os_le os_le ppe_int.bo (ppb_v 2) (ppe_gi T.k_MOST_TURNS).bo)))).pt (ppss_one (pps_raise tk PySem.F.excBase_ValueError T.x_BadCount.xi T.x_BadCount.gC T.x_BadCount.kC (raises_own T.x_BadCount.bC T.x_BadCount.tC))) ppss_nil)
    (ppss_cons (pps_own 3 nd (ppf_list (ppa_cons (ppe_callTy cs_list T.b_list boot_list (ppba_cons (ppb_v 1) ppba_nil)) ppa_nil)))
    (ppss_cons (pps_set 4 nd (ppe_cal c_turn_of hr tk (ppa_cons (ppe_v 0) (ppa_cons (ppe_v 1) ppa_nil))))
    (ppss_cons (pps_while hpo (ppw_and (ppt_cmp os_isnot (ppb_v 4) ppe_non.bo (nomark _)) (ppw_and1 (ppt_cmp os_le (ppe_callB cs_len T.b_len PySem.boot_len (ppba_cons (ppb_v 3) ppba_nil)).bo (ppb_v 2) (nomark _)))).pt (ppss_cons (pps_app 3 (ppe_v 4))
    (ppss_one (pps_set 4 nd (ppe_cal c_turn_of hr tk (ppa_cons (ppe_v 0) (ppa_cons (ppe_v 4) ppa_nil)))))))
    (ppss_one (pps_retT (ppt_comp (own := [("one", 5)]) nd (ppi_list (ppb_v 3)) (by kernel_rfl) (fun _ _ _ _ _ => (ppg_n 5 nd)) (fun _ _ _ _ _ => (ppf_lst (ppb_v 5) T.b_list)))))))))))

abbrev s_law_cell_at : Stmt := topS 27
theorem sc_law_cell_at : FnScope ["_law_script", "_law_k"] ["_law_script", "_law_k"] (defScope s_law_cell_at) := ⟨rfl, rfl, rfl, by decide +kernel, rfl, by decide +kernel, by decide +kernel⟩
theorem ok_law_cell_at {P : Program} {w : World} {K : PySem.W.Frag} {mg : Str → Option Value} {base : Heap} {fa : Addr} {fd : FuncData} (T : Txt K mg) (F : Fun K "_law_cell_at" "_law_cell_at" s_law_cell_at fa fd) : FnP P w K mg base 1 fa fd ["_law_script", "_law_k"] m_law_cell_at :=
  fnP_of (N := ["_law_script", "_law_k"]) (k := 0) F sc_law_cell_at fun cdv A outer s H E hr => by
    have nd : (["_law_script", "_law_k"] : List Str).Nodup := sc_law_cell_at.nd
    have tk := @takes_of (cxOf (L2.CX P w) P w K mg base ["_law_script", "_law_k"] "_law_cell_at" (defScope s_law_cell_at) fa cdv A outer s H E) E rfl rfl rfl _ rfl
    exact (ppss_cons (pps_if (ppt_cmp os_lt (ppb_v 1) (ppe_callB cs_len T.b_len PySem.boot_len (ppba_cons (ppb_v 0) ppba_nil)).bo (nomark _)) (ppss_one (pps_ret (ppe_ix (ppb_v 0) (ppe_v 1) (fun _ _ => rfl)))) ppss_nil)
    (ppss_one (pps_ret ppe_int)))

abbrev s_law_drawn : Stmt := topS 28
theorem sc_law_drawn : FnScope ["_law_seed", "_law_k", "_law_mixed"] ["_law_seed", "_law_k"] (defScope s_law_drawn) := ⟨rfl, rfl, rfl, by decide +kernel, rfl, by decide +kernel, by decide +kernel⟩
theorem ok_law_drawn {P : Program} {w : World} {K : PySem.W.Frag} {mg : Str → Option Value} {base : Heap} {fa : Addr} {fd : FuncData} (T : Txt K mg) (F : Fun K "_law_drawn" "_law_drawn" s_law_drawn fa fd) : FnP P w K mg base 1 fa fd ["_law_seed", "_law_k"] m_law_drawn :=
  fnP_of (N := ["_law_seed", "_law_k", "_law_mixed"]) (k := 0) F sc_law_drawn fun cdv A outer s H E hr => by
    have nd : (["_law_seed", "_law_k", "_law_mixed"] : List Str).Nodup := sc_law_drawn.nd
    have tk := @takes_of (cxOf (L2.CX P w) P w K mg base ["_law_seed", "_law_k", "_law_mixed"] "_law_drawn" (defScope s_law_drawn) fa cdv A outer s H E) E rfl rfl rfl _ rfl
    exact (ppss_cons (pps_set 2 nd (ppe_op os_mod (ppe_op os_mul (ppe_op os_add (ppe_op os_add (ppb_v 0) (ppe_op os_mul ppe_int.bo (ppb_v 1)).bo).bo ppe_int.bo).bo ppe_int.bo).bo ppe_int.bo))
    (ppss_one (pps_ret (ppe_op os_div (ppe_op os_mod (ppe_op os_mul (ppe_op os_add (ppe_op os_div (ppb_v 2) ppe_int.bo).bo (ppb_v 1)).bo ppe_int.bo).bo ppe_int.bo).bo ppe_int.bo))))

abbrev s_law_row_by : Stmt := topS 29
theorem sc_law_row_by : FnScope ["_law_cell", "_law_k", "_law_many", "_law_j"] ["_law_cell", "_law_k", "_law_many"] (defScope s_law_row_by) := ⟨rfl, rfl, rfl, by decide +kernel, rfl, by decide +kernel, by decide +kernel⟩
theorem ok_law_row_by {P : Program} {w : World} {K : PySem.W.Frag} {mg : Str → Option Value} {base : Heap} {fa : Addr} {fd : FuncData} (T : Txt K mg) (c_law_drawn : Cal P w K mg base "_law_drawn" ["_law_seed", "_law_k"] 1 m_law_drawn) (F : Fun K "_law_row_by" "_law_row_by" s_law_row_by fa fd) : FnP P w K mg base 2 fa fd ["_law_cell", "_law_k", "_law_many"] m_law_row_by :=
  fnP_of (N := ["_law_cell", "_law_k", "_law_many", "_law_j"]) (k := 1) F sc_law_row_by fun cdv A outer s H E hr => by
    have nd : (["_law_cell", "_law_k", "_law_many", "_law_j"] : List Str).Nodup := sc_law_row_by.nd
    have tk := @takes_of (cxOf (L2.CX P w) P w K mg base ["_law_cell", "_law_k", "_law_many", "_law_j"] "_law_row_by" (defScope s_law_row_by) fa cdv A outer s H E) E rfl rfl rfl _ rfl
    exact (ppss_cons (pps_if (ppt_cmp (os_eq hr.units) (ppe_op os_mod (ppe_cal c_law_drawn hr tk (ppa_cons (ppe_v 0) (ppa_cons (ppe_op os_add (ppe_op os_mul ppe_int.bo (ppb_v 1)).bo ppe_int.bo) ppa_nil))).bo ppe_int.bo).bo ppe_int.bo (nomark _)) (ppss_one (pps_ret (ppe_comp (own := [("_law_j", 3)]) nd (ppi_r1 T.b_range (ppe_op os_add (ppb_v 2) ppe_int.bo)) (by kernel_rfl) (fun _ _ _ _ _ => (ppg_n 3 nd)) (fun _ _ _ _ _ => ppts_nil) (fun _ _ _ _ _ => (ppe_op os_sub (ppe_op os_mod (ppe_cal c_law_drawn hr takes0 (ppa_cons (ppe_v 0) (ppa_cons (ppe_op os_add (ppe_op os_mul ppe_int.bo (ppb_v 1)).bo (ppb_v 3)) ppa_nil))).bo ppe_int.bo).bo ppe_int.bo))))) ppss_nil)
    (ppss_one (pps_ret (ppe_op os_add (ppe_comp (own := [("_law_j", 3)]) nd (ppi_r1 T.b_range (ppe_v 2)) (by kernel_rfl) (fun _ _ _ _ _ => (ppg_n 3 nd)) (fun _ _ _ _ _ => ppts_nil) (fun _ _ _ _ _ => (ppe_op os_sub (ppe_op os_mod (ppe_cal c_law_drawn hr takes0 (ppa_cons (ppe_v 0) (ppa_cons (ppe_op os_add (ppe_op os_mul ppe_int.bo (ppb_v 1)).bo (ppb_v 3)) ppa_nil))).bo ppe_int.bo).bo ppe_int.bo))).bo (ppe_list (ppa_cons (ppe_op os_sub (ppe_op os_mod (ppe_cal c_law_drawn hr tk (ppa_cons (ppe_v 0) (ppa_cons (ppe_op os_add (ppe_op os_mul ppe_int.bo (ppb_v 1)).bo ppe_int.bo) ppa_nil))).bo ppe_int.bo).bo ppe_int.bo) ppa_nil)).bo))))

abbrev s_law_way_by : Stmt := topS 30
theorem sc_law_way_by : FnScope ["_law_cell", "_law_many", "_law_mode", "_law_asks", "_law_k", "_law_gives", "_law_steps", "_law_j", "_law_one", "_law_row"] ["_law_cell", "_law_many"] (defScope s_law_way_by) := ⟨rfl, rfl, rfl, by decide +kernel, rfl, by decide +kernel, by decide +kernel⟩
theorem ok_law_way_by {P : Program} {w : World} {K : PySem.W.Frag} {mg : Str → Option Value} {base : Heap} {fa : Addr} {fd : FuncData} (T : Txt K mg) (c_law_drawn : Cal P w K mg base "_law_drawn" ["_law_seed", "_law_k"] 1 m_law_drawn) (c_law_row_by : Cal P w K mg base "_law_row_by" ["_law_cell", "_law_k", "_law_many"] 2 m_law_row_by) (F : Fun K "_law_way_by" "_law_way_by" s_law_way_by fa fd) : FnP P w K mg base 3 fa fd ["_law_cell", "_law_many"] m_law_way_by :=
  fnP_of (N := ["_law_cell", "_law_many", "_law_mode", "_law_asks", "_law_k", "_law_gives", "_law_steps", "_law_j", "_law_one", "_law_row"]) (k := 2) F sc_law_way_by fun cdv A outer s H E hr => by
    have nd : (["_law_cell", "_law_many", "_law_mode", "_law_asks", "_law_k", "_law_gives", "_law_steps", "_law_j", "_law_one", "_law_row"] : List Str).Nodup := sc_law_way_by.nd
    have tk := @takes_of (cxOf (L2.CX P w) P w K mg base ["_law_cell", "_law_many", "_law_mode", "_law_asks", "_law_k", "_law_gives", "_law_steps", "_law_j", "_law_one", "_law_row"] "_law_way_by" (defScope s_law_way_by) fa cdv A outer s H E) E rfl rfl rfl _ rfl
    exact (ppss_cons (pps_set 2 nd (ppe_op os_mod (ppe_cal c_law_drawn hr tk (ppa_cons (ppe_v 0) (ppa_cons ppe_int ppa_nil))).bo ppe_int.bo))
    (ppss_cons (pps_setC 3 (own := [("_law_k", 4)]) (hN := nd) (hi := (ppi_r1 T.b_range (ppe_op os_mod (ppe_cal c_law_drawn hr tk (ppa_cons (ppe_v 0) (ppa_cons ppe_int ppa_nil))).bo ppe_int.bo))) (ok := by kernel_rfl) (hg := (fun _ _ _ _ _ => (ppg_n 4 nd))) (ht := (fun _ _ _ _ _ => ppts_nil)) (he := (fun _ _ _ _ _ => (ppe_cal c_law_row_by hr takes0 (ppa_cons (ppe_v 0) (ppa_cons (ppe_op os_add ppe_int.bo (ppb_v 4)) (ppa_cons (ppe_v 1) ppa_nil)))))))
    (ppss_cons (pps_setC 5 (own := [("_law_k", 4)]) (hN := nd) (hi := (ppi_r1 T.b_range (ppe_v 1))) (ok := by kernel_rfl) (hg := (fun _ _ _ _ _ => (ppg_n 4 nd))) (ht := (fun _ _ _ _ _ => ppts_nil)) (he := (fun _ _ _ _ _ => (ppe_cal c_law_row_by hr takes0 (ppa_cons (ppe_v 0) (ppa_cons (ppe_op os_add ppe_int.bo (ppb_v 4)) (ppa_cons (ppe_v 1) ppa_nil)))))))
    (ppss_cons (pps_set 6 nd (ppe_comp (own := [("_law_k", 4)]) nd (ppi_r1 T.b_range (ppe_v 1)) (by kernel_rfl) (fun _ _ _ _ _ => (ppg_n 4 nd)) (fun _ _ _ _ _ => ppts_nil) (fun _ _ _ _ _ => (ppe_op os_sub (ppe_op os_mod (ppe_cal c_law_drawn hr takes0 (ppa_cons (ppe_v 0) (ppa_cons (ppe_op os_add ppe_int.bo (ppb_v 4)) ppa_nil))).bo ppe_int.bo).bo ppe_int.bo))))
    (ppss_cons (pps_if (ppw_or (ppt_cmp (os_eq hr.units) (ppb_v 2) ppe_int.bo (nomark _)) (ppw_or1 (ppt_cmp (os_eq hr.units) (ppb_v 2) ppe_int.bo (nomark _)))).pt (ppss_one (pps_setC 5 (own := [("_law_k", 4)]) (hN := nd) (hi := (ppi_r1 T.b_range (ppe_v 1))) (ok := by kernel_rfl) (hg := (fun _ _ _ _ _ => (ppg_n 4 nd))) (ht := (fun _ _ _ _ _ => ppts_nil)) (he := (fun _ _ _ _ _ => (ppe_op os_add (ppe_comp (own := [("_law_j", 7)]) nd (ppi_r1 T.b_range (ppe_v 1)) (by kernel_rfl) (fun _ _ _ _ _ => (ppg_n 7 nd)) (fun _ _ _ _ _ => ppts_nil) (fun _ _ _ _ _ => (ppe_callTy cs_int T.b_int boot_int (ppba_cons (ppe_cmp (os_eq hr.units) (ppb_v 7) (ppb_v 4) (nomark _)).bo ppba_nil)))).bo (ppe_list (ppa_cons (ppe_ix (ppb_v 6) (ppe_v 4) (fun _ _ => rfl)) ppa_nil)).bo))))) ppss_nil)
    (ppss_cons (pps_if (ppt_cmp (os_eq hr.units) (ppb_v 2) ppe_int.bo (nomark _)) (ppss_one (pps_set 3 nd (ppe_op os_add (ppb_v 3) (ppe_list (ppa_cons (ppe_op os_add (ppe_comp (own := [("_law_one", 8)]) nd (ppi_list (ppb_v 6)) (by kernel_rfl) (fun _ _ _ _ _ => (ppg_n 8 nd)) (fun _ _ _ _ _ => ppts_nil) (fun _ _ _ _ _ => (ppe_op os_sub ppe_int.bo (ppb_v 8)))).bo (ppe_list (ppa_cons (ppe_op os_mod (ppe_cal c_law_drawn hr tk (ppa_cons (ppe_v 0) (ppa_cons ppe_int ppa_nil))).bo ppe_int.bo) ppa_nil)).bo) ppa_nil)).bo))) ppss_nil)
    (ppss_cons (pps_if (ppt_cmp (os_eq hr.units) (ppb_v 2) ppe_int.bo (nomark _)) (ppss_one (pps_setC 5 (own := [("_law_row", 9)]) (hN := nd) (hi := (ppi_list (ppb_v 5))) (ok := by kernel_rfl) (hg := (fun _ _ _ _ _ => (ppg_n 9 nd))) (ht := (fun _ _ _ _ _ => ppts_nil)) (he := (fun _ _ _ _ _ => (ppe_op os_add (ppe_op os_mul (ppe_list (ppa_cons ppe_int ppa_nil)).bo (ppb_v 1)).bo (ppe_sl (ppb_v 9) (ppo_some (ppe_v 1)) ppo_none).bo))))) ppss_nil)
    (ppss_one (pps_ret (ppe_tup (ppa_cons (ppe_v 3) (ppa_cons (ppe_v 5) ppa_nil))))))))))))

abbrev s_law_far : Stmt := topS 31
theorem sc_law_far : FnScope ["_law_row", "_law_one"] ["_law_row"] (defScope s_law_far) := ⟨rfl, rfl, rfl, by decide +kernel, rfl, by decide +kernel, by decide +kernel⟩
theorem ok_law_far {P : Program} {w : World} {K : PySem.W.Frag} {mg : Str → Option Value} {base : Heap} {fa : Addr} {fd : FuncData} (T : Txt K mg) (F : Fun K "_law_far" "_law_far" s_law_far fa fd) : FnP P w K mg base 1 fa fd ["_law_row"] m_law_far :=
  fnP_of (N := ["_law_row", "_law_one"]) (k := 0) F sc_law_far fun cdv A outer s H E hr => by
    have nd : (["_law_row", "_law_one"] : List Str).Nodup := sc_law_far.nd
    have tk := @takes_of (cxOf (L2.CX P w) P w K mg base ["_law_row", "_law_one"] "_law_far" (defScope s_law_far) fa cdv A outer s H E) E rfl rfl rfl _ rfl
    exact (ppss_one (pps_ret (ppe_comp (own := [("_law_one", 1)]) nd (ppi_list (ppb_v 0)) (by kernel_rfl) (fun _ _ _ _ _ => (ppg_n 1 nd)) (fun _ _ _ _ _ => ppts_nil) (fun _ _ _ _ _ => (ppe_callB (cs_max2 rfl) T.b_max boot_max (ppba_cons (ppe_un us_neg ppe_int.bo).bo (ppba_cons (ppe_callB (cs_min2 rfl) T.b_min boot_min (ppba_cons ppe_int.bo (ppba_cons (ppe_op os_mul ppe_int.bo (ppb_v 1)).bo ppba_nil))).bo ppba_nil)))))))

abbrev s_law_loop_by : Stmt := topS 32
theorem sc_law_loop_by : FnScope ["_law_script", "_law_at", "_law_first", "_law_many", "_law_size", "_law_ways", "_law_k", "_law_far_here", "_law_asks", "_law_gives", "_law_row"] ["_law_script", "_law_at"] (defScope s_law_loop_by) := ⟨rfl, rfl, rfl, by decide +kernel, rfl, by decide +kernel, by decide +kernel⟩
theorem ok_law_loop_by {P : Program} {w : World} {K : PySem.W.Frag} {mg : Str → Option Value} {base : Heap} {fa : Addr} {fd : FuncData} (T : Txt K mg) (c_law_cell_at : Cal P w K mg base "_law_cell_at" ["_law_script", "_law_k"] 1 m_law_cell_at) (c_law_way_by : Cal P w K mg base "_law_way_by" ["_law_cell", "_law_many"] 3 m_law_way_by) (c_law_far : Cal P w K mg base "_law_far" ["_law_row"] 1 m_law_far) (F : Fun K "_law_loop_by" "_law_loop_by" s_law_loop_by fa fd) : FnP P w K mg base 4 fa fd ["_law_script", "_law_at"] m_law_loop_by :=
  fnP_of (N := ["_law_script", "_law_at", "_law_first", "_law_many", "_law_size", "_law_ways", "_law_k", "_law_far_here", "_law_asks", "_law_gives", "_law_row"]) (k := 3) F sc_law_loop_by fun cdv A outer s H E hr => by
    have nd : (["_law_script", "_law_at", "_law_first", "_law_many", "_law_size", "_law_ways", "_law_k", "_law_far_here", "_law_asks", "_law_gives", "_law_row"] : List Str).Nodup := sc_law_loop_by.nd
    have tk := @takes_of (cxOf (L2.CX P w) P w K mg base ["_law_script", "_law_at", "_law_first", "_law_many", "_law_size", "_law_ways", "_law_k", "_law_far_here", "_law_asks", "_law_gives", "_law_row"] "_law_loop_by" (defScope s_law_loop_by) fa cdv A outer s H E) E rfl rfl rfl _ rfl
    have hpo : PassesOwn (model P w) (cxOf (L2.CX P w) P w K mg base ["_law_script", "_law_at", "_law_first", "_law_many", "_law_size", "_law_ways", "_law_k", "_law_far_here", "_law_asks", "_law_gives", "_law_row"] "_law_loop_by" (defScope s_law_loop_by) fa cdv A outer s H E).A (cxOf (L2.CX P w) P w K mg base ["_law_script", "_law_at", "_law_first", "_law_many", "_law_size", "_law_ways", "_law_k", "_law_far_here", "_law_asks", "_law_gives", "_law_row"] "_law_loop_by" (defScope s_law_loop_by) fa cdv A outer s H E).env (cxOf (L2.CX P w) P w K mg base ["_law_script", "_law_at", "_law_first", "_law_many", "_law_size", "_law_ways", "_law_k", "_law_far_here", "_law_asks", "_law_gives", "_law_row"] "_law_loop_by" (defScope s_law_loop_by) fa cdv A outer s H E).xe := passes_of rfl
    exact (ppss_cons (pps_set 2 nd (ppe_cal c_law_cell_at hr tk (ppa_cons (ppe_v 0) (ppa_cons (ppe_v 1) ppa_nil))))
    (ppss_cons (pps_set 3 nd (ppe_ix (ppe_list (ppa_cons ppe_int (ppa_cons ppe_int (ppa_cons ppe_int (ppa_cons ppe_int (ppa_cons ppe_int (ppa_cons ppe_int (ppa_cons ppe_int (ppa_cons ppe_int ppa_nil))))))))).bo (ppe_op os_mod (ppb_v 2) ppe_int.bo) (fun _ _ => rfl)))
    (ppss_cons (pps_set 4 nd (ppe_ix (ppe_list (ppa_cons ppe_int (ppa_cons ppe_int (ppa_cons ppe_int (ppa_cons ppe_int (ppa_cons ppe_int (ppa_cons ppe_int (ppa_cons ppe_int ppa_nil)))))))).bo (ppe_op os_mod (ppe_op os_div (ppb_v 2) ppe_int.bo).bo ppe_int.bo) (fun _ _ => rfl)))
    (ppss_cons (pps_setC 5 (own := [("_law_k", 6)]) (hN := nd) (hi := (ppi_r1 T.b_range (ppe_v 4))) (ok := by kernel_rfl) (hg := (fun _ _ _ _ _ => (ppg_n 6 nd))) (ht := (fun _ _ _ _ _ => ppts_nil)) (he := (fun _ _ _ _ _ => (ppe_cal c_law_way_by hr takes0 (ppa_cons (ppe_cal c_law_cell_at hr takes0 (ppa_cons (ppe_v 0) (ppa_cons (ppe_op os_add (ppe_op os_add (ppb_v 1) ppe_int.bo).bo (ppb_v 6)) ppa_nil))) (ppa_cons (ppe_v 3) ppa_nil))))))
    (ppss_cons (pps_if (ppt_cmp (os_eq hr.units) (ppe_op os_mod (ppe_op os_div (ppb_v 2) ppe_int.bo).bo ppe_int.bo).bo ppe_int.bo (nomark _)) (ppss_cons (pps_own 7 nd (ppf_list ppa_nil))
    (ppss_cons (pps_for hpo (ppi_listS (ppe_v 5)) (ppg_t rfl (ppgs_cons (ppg_n 8 nd) (ppgs_cons (ppg_n 9 nd) ppgs_nil))) (ppss_one (pps_app 7 (ppe_tup (ppa_cons (ppe_comp (own := [("_law_row", 10)]) nd (ppi_list (ppb_v 8)) (by kernel_rfl) (fun _ _ _ _ _ => (ppg_n 10 nd)) (fun _ _ _ _ _ => ppts_nil) (fun _ _ _ _ _ => (ppe_cal c_law_far hr takes0 (ppa_cons (ppe_v 10) ppa_nil)))) (ppa_cons (ppe_comp (own := [("_law_row", 10)]) nd (ppi_list (ppb_v 9)) (by kernel_rfl) (fun _ _ _ _ _ => (ppg_n 10 nd)) (fun _ _ _ _ _ => ppts_nil) (fun _ _ _ _ _ => (ppe_cal c_law_far hr takes0 (ppa_cons (ppe_v 10) ppa_nil)))) ppa_nil))))))
    (ppss_one (pps_frz 7 (pps_set 5 nd (ppe_v 7)))))) ppss_nil)
    (ppss_one (pps_ret (ppe_tup (ppa_cons (ppe_v 3) (ppa_cons (ppe_v 5) ppa_nil))))))))))

abbrev s_law_name_of : Stmt := topS 33
theorem sc_law_name_of : FnScope ["_law_error", "_law_found"] ["_law_error"] (defScope s_law_name_of) := ⟨rfl, rfl, rfl, by decide +kernel, rfl, by decide +kernel, by decide +kernel⟩
theorem ok_law_name_of {P : Program} {w : World} {K : PySem.W.Frag} {mg : Str → Option Value} {base : Heap} {fa : Addr} {fd : FuncData} (T : Txt K mg) {Dc : Addr} {res : Str} {qBadLoop qBadState qBadCount qBadGauge qBadTable qBadText qValueError : Bool} (EC : ExcC K Dc) (kBadLoop : PySem.W.kitOne K (.ref Dc) (.ref T.c_BadLoop) = some qBadLoop) (kBadState : PySem.W.kitOne K (.ref Dc) (.ref T.c_BadState) = some qBadState) (kBadCount : PySem.W.kitOne K (.ref Dc) (.ref T.c_BadCount) = some qBadCount) (kBadGauge : PySem.W.kitOne K (.ref Dc) (.ref T.c_BadGauge) = some qBadGauge) (kBadTable : PySem.W.kitOne K (.ref Dc) (.ref T.c_BadTable) = some qBadTable) (kBadText : PySem.W.kitOne K (.ref Dc) (.ref T.c_BadText) = some qBadText) (kValueError : PySem.W.kitOne K (.ref Dc) (.type "ValueError") = some qValueError) (hres : ∀ a, b_law_name_of a qBadLoop qBadState qBadCount qBadGauge qBadTable qBadText qValueError (.sh (adr a) :: List.replicate 1 .no) = .ret (.str res)) (F : Fun K "_law_name_of" "_law_name_of" s_law_name_of fa fd) : FnX P w K mg base 1 fa fd ["_law_error"] Dc res :=
  fnX_of (N := ["_law_error", "_law_found"]) (k := 0) F sc_law_name_of fun cdv A outer s H E p hz hf => by
    have nd : (["_law_error", "_law_found"] : List Str).Nodup := sc_law_name_of.nd
    refine ⟨b_law_name_of p.1 qBadLoop qBadState qBadCount qBadGauge qBadTable qBadText qValueError, ?_, hres p.1⟩
    have hp : p ∈ (L2H.cxH (L2.CX P w) P w K mg base ["_law_error", "_law_found"] "_law_name_of" (defScope s_law_name_of) fa cdv A outer s H E p).pn := List.mem_cons_self
    exact (ppss_cons (pps_set 1 nd (ppe_op os_add (ppe_op os_mul ppe_str.bo (ppe_callTy cs_int T.b_int boot_int (ppba_cons (ppe_isE (cv := .ref T.c_BadLoop) (cu := .ref T.c_BadLoop) 0 EC hp hz hf T.b_isinstance boot_isi  (by exact pe_glob (v := .ref T.c_BadLoop) rfl T.x_BadLoop.gC rfl) (fun _ r => r) kBadLoop).bo ppba_nil)).bo).bo (ppe_op os_mul ppe_str.bo (ppe_callTy cs_int T.b_int boot_int (ppba_cons (ppe_isE (cv := .ref T.c_BadState) (cu := .ref T.c_BadState) 0 EC hp hz hf T.b_isinstance boot_isi  (by exact pe_glob (v := .ref T.c_BadState) rfl T.x_BadState.gC rfl) (fun _ r => r) kBadState).bo ppba_nil)).bo).bo))
    (ppss_cons (pps_set 1 nd (ppe_op os_add (ppe_op os_add (ppb_v 1) (ppe_op os_mul ppe_str.bo (ppe_callTy cs_int T.b_int boot_int (ppba_cons (ppe_isE (cv := .ref T.c_BadCount) (cu := .ref T.c_BadCount) 0 EC hp hz hf T.b_isinstance boot_isi  (by exact pe_glob (v := .ref T.c_BadCount) rfl T.x_BadCount.gC rfl) (fun _ r => r) kBadCount).bo ppba_nil)).bo).bo).bo (ppe_op os_mul ppe_str.bo (ppe_callTy cs_int T.b_int boot_int (ppba_cons (ppe_isE (cv := .ref T.c_BadGauge) (cu := .ref T.c_BadGauge) 0 EC hp hz hf T.b_isinstance boot_isi  (by exact pe_glob (v := .ref T.c_BadGauge) rfl T.x_BadGauge.gC rfl) (fun _ r => r) kBadGauge).bo ppba_nil)).bo).bo))
    (ppss_cons (pps_set 1 nd (ppe_op os_add (ppe_op os_add (ppb_v 1) (ppe_op os_mul ppe_str.bo (ppe_callTy cs_int T.b_int boot_int (ppba_cons (ppe_isE (cv := .ref T.c_BadTable) (cu := .ref T.c_BadTable) 0 EC hp hz hf T.b_isinstance boot_isi  (by exact pe_glob (v := .ref T.c_BadTable) rfl T.x_BadTable.gC rfl) (fun _ r => r) kBadTable).bo ppba_nil)).bo).bo).bo (ppe_op os_mul ppe_str.bo (ppe_callTy cs_int T.b_int boot_int (ppba_cons (ppe_isE (cv := .ref T.c_BadText) (cu := .ref T.c_BadText) 0 EC hp hz hf T.b_isinstance boot_isi  (by exact pe_glob (v := .ref T.c_BadText) rfl T.x_BadText.gC rfl) (fun _ r => r) kBadText).bo ppba_nil)).bo).bo))
    (ppss_one (pps_ret (ppe_ix (ppe_list (ppa_cons (ppe_v 1) (ppa_cons ppe_str ppa_nil))).bo (ppe_callTy cs_int T.b_int boot_int (ppba_cons (ppe_not (ppe_isE (cv := .ty "ValueError") (cu := .type "ValueError") 0 EC hp hz hf T.b_isinstance boot_isi  (by exact pe_bltn (v := .ty "ValueError") rfl T.b_ValueError boot_ValueError rfl) (fun _ r => r) kValueError)).bo ppba_nil)) (fun _ _ => rfl)))))))

abbrev s_law_copied : Stmt := topS 34
theorem sc_law_copied : FnScope ["_law_thing", "_law_part"] ["_law_thing"] (defScope s_law_copied) := ⟨rfl, rfl, rfl, by decide +kernel, rfl, by decide +kernel, by decide +kernel⟩
theorem ok_law_copied {P : Program} {w : World} {K : PySem.W.Frag} {mg : Str → Option Value} {base : Heap} {fa : Addr} {fd : FuncData} (T : Txt K mg) {k : Nat} {mc : List D → R D} (c_law_copied : Cal P w K mg base "_law_copied" ["_law_thing"] (k + 1) mc) (F : Fun K "_law_copied" "_law_copied" s_law_copied fa fd) : FnP P w K mg base (k + 1 + 1) fa fd ["_law_thing"] (fnR 2 (b_law_copied mc)) :=
  fnP_of (N := ["_law_thing", "_law_part"]) (k := k + 1) F sc_law_copied fun cdv A outer s H E hr => by
    have nd : (["_law_thing", "_law_part"] : List Str).Nodup := sc_law_copied.nd
    have tk := @takes_of (cxOf (L2.CX P w) P w K mg base ["_law_thing", "_law_part"] "_law_copied" (defScope s_law_copied) fa cdv A outer s H E) E rfl rfl rfl _ rfl
    exact (ppss_cons (pps_if (ppt_v (ppe_isi .list (ppb_v 0) T.b_isinstance boot_isi T.b_list boot_list)) (ppss_one (pps_ret (ppe_comp (own := [("_law_part", 1)]) nd (ppi_list (ppb_v 0)) (by kernel_rfl) (fun _ _ _ _ _ => (ppg_n 1 nd)) (fun _ _ _ _ _ => ppts_nil) (fun _ _ _ _ _ => (ppe_cal c_law_copied hr takes0 (ppa_cons (ppe_v 1) ppa_nil) (Nat.le_refl _)))))) ppss_nil)
    (ppss_cons (pps_if (ppt_v (ppe_isi .tuple (ppb_v 0) T.b_isinstance boot_isi T.b_tuple boot_tuple)) (ppss_one (pps_ret (ppe_callTy cs_tup T.b_tuple boot_tuple (ppba_cons (ppe_comp (own := [("_law_part", 1)]) nd (ppi_tup (ppe_v 0)) (by kernel_rfl) (fun _ _ _ _ _ => (ppg_n 1 nd)) (fun _ _ _ _ _ => ppts_nil) (fun _ _ _ _ _ => (ppe_cal c_law_copied hr takes0 (ppa_cons (ppe_v 1) ppa_nil) (Nat.le_refl _)))).bo ppba_nil)))) ppss_nil)
    (ppss_one (pps_ret (ppe_v 0)))))
theorem all_law_copied {P : Program} {w : World} {K : PySem.W.Frag} {mg : Str → Option Value} {base : Heap} {fa : Addr} {fd : FuncData} (T : Txt K mg) (F : Fun K "_law_copied" "_law_copied" s_law_copied fa fd) (hb : Binds K fd ["_law_thing"] []) (hm : mg "_law_copied" = some (.ref fa)) (n : Nat) : Cal P w K mg base "_law_copied" ["_law_thing"] (n + 1) (m_law_copied n) := by
  induction n with
  | zero => exact ⟨fa, fd, fnP_stk, hm, F.kp, hb⟩
  | succ n ih => exact ⟨fa, fd, ok_law_copied T ih F, hm, F.kp, hb⟩

abbrev s_law_worth : Stmt := topS 35
theorem sc_law_worth : FnScope ["_law_row", "_law_state", "_law_total", "_law_k"] ["_law_row", "_law_state"] (defScope s_law_worth) := ⟨rfl, rfl, rfl, by decide +kernel, rfl, by decide +kernel, by decide +kernel⟩
theorem ok_law_worth {P : Program} {w : World} {K : PySem.W.Frag} {mg : Str → Option Value} {base : Heap} {fa : Addr} {fd : FuncData} (T : Txt K mg) (F : Fun K "_law_worth" "_law_worth" s_law_worth fa fd) : FnP P w K mg base 1 fa fd ["_law_row", "_law_state"] m_law_worth :=
  fnP_of (N := ["_law_row", "_law_state", "_law_total", "_law_k"]) (k := 0) F sc_law_worth fun cdv A outer s H E hr => by
    have nd : (["_law_row", "_law_state", "_law_total", "_law_k"] : List Str).Nodup := sc_law_worth.nd
    have tk := @takes_of (cxOf (L2.CX P w) P w K mg base ["_law_row", "_law_state", "_law_total", "_law_k"] "_law_worth" (defScope s_law_worth) fa cdv A outer s H E) E rfl rfl rfl _ rfl
    have hpo : PassesOwn (model P w) (cxOf (L2.CX P w) P w K mg base ["_law_row", "_law_state", "_law_total", "_law_k"] "_law_worth" (defScope s_law_worth) fa cdv A outer s H E).A (cxOf (L2.CX P w) P w K mg base ["_law_row", "_law_state", "_law_total", "_law_k"] "_law_worth" (defScope s_law_worth) fa cdv A outer s H E).env (cxOf (L2.CX P w) P w K mg base ["_law_row", "_law_state", "_law_total", "_law_k"] "_law_worth" (defScope s_law_worth) fa cdv A outer s H E).xe := passes_of rfl
    exact (ppss_cons (pps_set 2 nd (ppe_ix (ppb_v 0) (ppe_un us_neg ppe_int.bo) (fun _ _ => rfl)))
    (ppss_cons (pps_for hpo (ppi_r1 T.b_range (ppe_callB cs_len T.b_len PySem.boot_len (ppba_cons (ppb_v 1) ppba_nil))) (ppg_n 3 nd) (ppss_one (pps_set 2 nd (ppe_op os_add (ppb_v 2) (ppe_op os_mul (ppe_ix (ppb_v 0) (ppe_v 3) (fun _ _ => rfl)).bo (ppe_ix (ppb_v 1) (ppe_v 3) (fun _ _ => rfl)).bo).bo))))
    (ppss_one (pps_ret (ppe_v 2)))))

abbrev s_law_led : Stmt := topS 36
theorem sc_law_led : FnScope ["_law_way", "_law_state", "_law_row"] ["_law_way", "_law_state"] (defScope s_law_led) := ⟨rfl, rfl, rfl, by decide +kernel, rfl, by decide +kernel, by decide +kernel⟩
theorem ok_law_led {P : Program} {w : World} {K : PySem.W.Frag} {mg : Str → Option Value} {base : Heap} {fa : Addr} {fd : FuncData} (T : Txt K mg) (c_law_worth : Cal P w K mg base "_law_worth" ["_law_row", "_law_state"] 1 m_law_worth) (F : Fun K "_law_led" "_law_led" s_law_led fa fd) : FnP P w K mg base 2 fa fd ["_law_way", "_law_state"] m_law_led :=
  fnP_of (N := ["_law_way", "_law_state", "_law_row"]) (k := 1) F sc_law_led fun cdv A outer s H E hr => by
    have nd : (["_law_way", "_law_state", "_law_row"] : List Str).Nodup := sc_law_led.nd
    have tk := @takes_of (cxOf (L2.CX P w) P w K mg base ["_law_way", "_law_state", "_law_row"] "_law_led" (defScope s_law_led) fa cdv A outer s H E) E rfl rfl rfl _ rfl
    have hpo : PassesOwn (model P w) (cxOf (L2.CX P w) P w K mg base ["_law_way", "_law_state", "_law_row"] "_law_led" (defScope s_law_led) fa cdv A outer s H E).A (cxOf (L2.CX P w) P w K mg base ["_law_way", "_law_state", "_law_row"] "_law_led" (defScope s_law_led) fa cdv A outer s H E).env (cxOf (L2.CX P w) P w K mg base ["_law_way", "_law_state", "_law_row"] "_law_led" (defScope s_law_led) fa cdv A outer s H E).xe := passes_of rfl
    exact (ppss_cons (pps_for hpo (ppi_listS (ppe_ix (ppb_v 0) ppe_int (fun _ _ => rfl))) (ppg_n 2 nd) (ppss_one (pps_if (ppt_cmp os_lt (ppe_cal c_law_worth hr tk (ppa_cons (ppe_v 2) (ppa_cons (ppe_v 1) ppa_nil))).bo ppe_int.bo (nomark _)) (ppss_one (pps_ret ppe_non)) ppss_nil)))
    (ppss_one (pps_ret (ppe_comp (own := [("_law_row", 2)]) nd (ppi_list (ppe_ix (ppb_v 0) ppe_int (fun _ _ => rfl)).bo) (by kernel_rfl) (fun _ _ _ _ _ => (ppg_n 2 nd)) (fun _ _ _ _ _ => ppts_nil) (fun _ _ _ _ _ => (ppe_cal c_law_worth hr takes0 (ppa_cons (ppe_v 2) (ppa_cons (ppe_v 1) ppa_nil))))))))

abbrev s_law_due : Stmt := topS 37
theorem sc_law_due : FnScope ["_law_loop", "_law_state", "_law_most", "_law_found", "_law_goals", "_law_way", "_law_goal"] ["_law_loop", "_law_state", "_law_most"] (defScope s_law_due) := ⟨rfl, rfl, rfl, by decide +kernel, rfl, by decide +kernel, by decide +kernel⟩
theorem ok_law_due {P : Program} {w : World} {K : PySem.W.Frag} {mg : Str → Option Value} {base : Heap} {fa : Addr} {fd : FuncData} (T : Txt K mg) (c_law_led : Cal P w K mg base "_law_led" ["_law_way", "_law_state"] 2 m_law_led) (F : Fun K "_law_due" "_law_due" s_law_due fa fd) : FnP P w K mg base 3 fa fd ["_law_loop", "_law_state", "_law_most"] m_law_due :=
  fnP_of (N := ["_law_loop", "_law_state", "_law_most", "_law_found", "_law_goals", "_law_way", "_law_goal"]) (k := 2) F sc_law_due fun cdv A outer s H E hr => by
    have nd : (["_law_loop", "_law_state", "_law_most", "_law_found", "_law_goals", "_law_way", "_law_goal"] : List Str).Nodup := sc_law_due.nd
    have tk := @takes_of (cxOf (L2.CX P w) P w K mg base ["_law_loop", "_law_state", "_law_most", "_law_found", "_law_goals", "_law_way", "_law_goal"] "_law_due" (defScope s_law_due) fa cdv A outer s H E) E rfl rfl rfl _ rfl
    have hpo : PassesOwn (model P w) (cxOf (L2.CX P w) P w K mg base ["_law_loop", "_law_state", "_law_most", "_law_found", "_law_goals", "_law_way", "_law_goal"] "_law_due" (defScope s_law_due) fa cdv A outer s H E).A (cxOf (L2.CX P w) P w K mg base ["_law_loop", "_law_state", "_law_most", "_law_found", "_law_goals", "_law_way", "_law_goal"] "_law_due" (defScope s_law_due) fa cdv A outer s H E).env (cxOf (L2.CX P w) P w K mg base ["_law_loop", "_law_state", "_law_most", "_law_found", "_law_goals", "_law_way", "_law_goal"] "_law_due" (defScope s_law_due) fa cdv A outer s H E).xe := passes_of rfl
    exact (ppss_cons (pps_own 3 nd (ppf_list (ppa_cons (ppe_callTy cs_list T.b_list boot_list (ppba_cons (ppb_v 1) ppba_nil)) ppa_nil)))
    (ppss_cons (pps_while hpo (ppt_cmp os_le (ppe_callB cs_len T.b_len PySem.boot_len (ppba_cons (ppb_v 3) ppba_nil)).bo (ppb_v 2) (nomark _)) (ppss_cons (pps_setC 4 (own := [("_law_way", 5)]) (hN := nd) (hi := (ppi_list (ppe_ix (ppb_v 0) ppe_int (fun _ _ => rfl)).bo)) (ok := by kernel_rfl) (hg := (fun _ _ _ _ _ => (ppg_n 5 nd))) (ht := (fun _ _ _ _ _ => ppts_nil)) (he := (fun _ _ _ _ _ => (ppe_cal c_law_led hr takes0 (ppa_cons (ppe_v 5) (ppa_cons (ppe_ix (ppb_v 3) (ppe_un us_neg ppe_int.bo) (fun _ _ => rfl)) ppa_nil))))))
    (ppss_cons (pps_setC 4 (own := [("_law_goal", 6)]) (hN := nd) (hi := (ppi_list (ppb_v 4))) (ok := by kernel_rfl) (hg := (fun _ _ _ _ _ => (ppg_n 6 nd))) (ht := (fun _ _ _ _ _ => (ppts_one (ppt_cmp os_isnot (ppb_v 6) ppe_non.bo (nomark _))))) (he := (fun _ _ _ _ _ => (ppe_v 6))))
    (ppss_cons (pps_if (ppt_cmp (os_eq hr.units) (ppb_v 4) (ppe_list ppa_nil).bo (nomark _)) (ppss_one (pps_frz 3 (pps_ret (ppe_v 3)))) ppss_nil)
    (ppss_one (pps_app 3 (ppe_ix (ppb_v 4) ppe_int (fun _ _ => rfl))))))))
    (ppss_one (pps_frz 3 (pps_ret (ppe_v 3))))))

abbrev s_law_word : Stmt := topS 38
theorem sc_law_word : FnScope ["_law_loop", "_law_state", "_law_most", "_law_error"] ["_law_loop", "_law_state", "_law_most"] (defScope s_law_word) := ⟨rfl, rfl, rfl, by decide +kernel, rfl, by decide +kernel, by decide +kernel⟩
theorem ok_law_word {P : Program} {w : World} {K : PySem.W.Frag} {mg : Str → Option Value} {base : Heap} {fa : Addr} {fd : FuncData} (T : Txt K mg) (c_run : Cal P w K mg base "run" ["loop", "state", "most"] 8 m_run) (c_law_name_of : CalX P w K mg base "_law_name_of" 1 T.c_LoopError nmOf) (F : Fun K "_law_word" "_law_word" s_law_word fa fd) : FnP P w K mg base 9 fa fd ["_law_loop", "_law_state", "_law_most"] m_law_word :=
  fnP_of (N := ["_law_loop", "_law_state", "_law_most", "_law_error"]) (k := 8) F sc_law_word fun cdv A outer s H E hr => by
    have nd : (["_law_loop", "_law_state", "_law_most", "_law_error"] : List Str).Nodup := sc_law_word.nd
    have tk := @takes_of (cxOf (L2.CX P w) P w K mg base ["_law_loop", "_law_state", "_law_most", "_law_error"] "_law_word" (defScope s_law_word) fa cdv A outer s H E) E rfl rfl rfl _ rfl
    exact (ppss_cons (pps_try 3 c_law_name_of hr T.x_LoopError.gC (fun W pn xe tk hpo => (ppss_one (pps_do (ppe_cal c_run hr tk (ppa_cons (ppe_v 0) (ppa_cons (ppe_v 1) (ppa_cons (ppe_v 2) ppa_nil))))))) nd)
    (ppss_one (pps_ret ppe_str)))

abbrev s_law : Stmt := topS 39
theorem sc_law : FnScope ["_law_script", "_law_loop", "_law_kept", "_law_cell", "_law_far_here", "_law_state", "_law_k", "_law_most", "_law_due_here", "_law_handed", "_law_found", "_law_one", "_law_odd", "_law_bad"] ["_law_script"] (defScope s_law) := ⟨rfl, rfl, rfl, by decide +kernel, rfl, by decide +kernel, by decide +kernel⟩
theorem ok_law {P : Program} {w : World} {K : PySem.W.Frag} {mg : Str → Option Value} {base : Heap} {fa : Addr} {fd : FuncData} (T : Txt K mg) (c_law_loop_by : Cal P w K mg base "_law_loop_by" ["_law_script", "_law_at"] 4 m_law_loop_by) (c_law_copied : Cal P w K mg base "_law_copied" ["_law_thing"] 13 (m_law_copied 12)) (c_law_cell_at : Cal P w K mg base "_law_cell_at" ["_law_script", "_law_k"] 1 m_law_cell_at) (c_law_due : Cal P w K mg base "_law_due" ["_law_loop", "_law_state", "_law_most"] 3 m_law_due) (c_runT : CalT P w K mg base "run" ["loop", "state", "most"] 8 m_run) (c_run : Cal P w K mg base "run" ["loop", "state", "most"] 8 m_run) (c_law_word : Cal P w K mg base "_law_word" ["_law_loop", "_law_state", "_law_most"] 9 m_law_word) (c_law_drawn : Cal P w K mg base "_law_drawn" ["_law_seed", "_law_k"] 1 m_law_drawn) (F : Fun K "law" "law" s_law fa fd) : FnP P w K mg base 14 fa fd ["_law_script"] m_law :=
  fnP_of (N := ["_law_script", "_law_loop", "_law_kept", "_law_cell", "_law_far_here", "_law_state", "_law_k", "_law_most", "_law_due_here", "_law_handed", "_law_found", "_law_one", "_law_odd", "_law_bad"]) (k := 13) F sc_law fun cdv A outer s H E hr => by
    have nd : (["_law_script", "_law_loop", "_law_kept", "_law_cell", "_law_far_here", "_law_state", "_law_k", "_law_most", "_law_due_here", "_law_handed", "_law_found", "_law_one", "_law_odd", "_law_bad"] : List Str).Nodup := sc_law.nd
    have tk := @takes_of (cxOf (L2.CX P w) P w K mg base ["_law_script", "_law_loop", "_law_kept", "_law_cell", "_law_far_here", "_law_state", "_law_k", "_law_most", "_law_due_here", "_law_handed", "_law_found", "_law_one", "_law_odd", "_law_bad"] "law" (defScope s_law) fa cdv A outer s H E) E rfl rfl rfl _ rfl
    have hpo : PassesOwn (model P w) (cxOf (L2.CX P w) P w K mg base ["_law_script", "_law_loop", "_law_kept", "_law_cell", "_law_far_here", "_law_state", "_law_k", "_law_most", "_law_due_here", "_law_handed", "_law_found", "_law_one", "_law_odd", "_law_bad"] "law" (defScope s_law) fa cdv A outer s H E).A (cxOf (L2.CX P w) P w K mg base ["_law_script", "_law_loop", "_law_kept", "_law_cell", "_law_far_here", "_law_state", "_law_k", "_law_most", "_law_due_here", "_law_handed", "_law_found", "_law_one", "_law_odd", "_law_bad"] "law" (defScope s_law) fa cdv A outer s H E).env (cxOf (L2.CX P w) P w K mg base ["_law_script", "_law_loop", "_law_kept", "_law_cell", "_law_far_here", "_law_state", "_law_k", "_law_most", "_law_due_here", "_law_handed", "_law_found", "_law_one", "_law_odd", "_law_bad"] "law" (defScope s_law) fa cdv A outer s H E).xe := passes_of rfl
    exact (ppss_cons (pps_set 1 nd (ppe_cal c_law_loop_by hr tk (ppa_cons (ppe_v 0) (ppa_cons ppe_int ppa_nil))))
    (ppss_cons (pps_set 2 nd (ppe_cal c_law_copied hr tk (ppa_cons (ppe_v 1) ppa_nil)))
    (ppss_cons (pps_set 3 nd (ppe_cal c_law_cell_at hr tk (ppa_cons (ppe_v 0) (ppa_cons ppe_int ppa_nil))))
    (ppss_cons (pps_set 4 nd (ppe_ix (ppe_list (ppa_cons ppe_int (ppa_cons ppe_int ppa_nil))).bo (ppe_op os_mod (ppb_v 3) ppe_int.bo) (fun _ _ => rfl)))
    (ppss_cons (pps_setC 5 (own := [("_law_k", 6)]) (hN := nd) (hi := (ppi_r1 T.b_range (ppe_ix (ppb_v 1) ppe_int (fun _ _ => rfl)))) (ok := by kernel_rfl) (hg := (fun _ _ _ _ _ => (ppg_n 6 nd))) (ht := (fun _ _ _ _ _ => ppts_nil)) (he := (fun _ _ _ _ _ => (ppe_op os_sub (ppe_op os_mod (ppe_cal c_law_drawn hr takes0 (ppa_cons (ppe_v 3) (ppa_cons (ppe_v 6) ppa_nil))).bo (ppb_v 4)).bo (ppe_op os_div (ppb_v 4) ppe_int.bo).bo))))
    (ppss_cons (pps_set 7 nd (ppe_ix (ppe_list (ppa_cons (ppe_op os_mod (ppe_cal c_law_cell_at hr tk (ppa_cons (ppe_v 0) (ppa_cons ppe_int ppa_nil))).bo ppe_int.bo) (ppa_cons (ppe_op os_mod (ppe_op os_div (ppe_cal c_law_cell_at hr tk (ppa_cons (ppe_v 0) (ppa_cons ppe_int ppa_nil))).bo ppe_int.bo).bo ppe_int.bo) ppa_nil))).bo (ppe_op os_mod (ppe_cal c_law_cell_at hr tk (ppa_cons (ppe_v 0) (ppa_cons ppe_int ppa_nil))).bo ppe_int.bo) (fun _ _ => rfl)))
    (ppss_cons (pps_set 8 nd (ppe_cal c_law_due hr tk (ppa_cons (ppe_v 1) (ppa_cons (ppe_v 5) (ppa_cons (ppe_v 7) ppa_nil)))))
    (ppss_cons (pps_own 9 nd (ppf_lst (ppb_v 5) T.b_list))
    (pps_tree 10 c_runT hr tk (ppba_cons (ppb_v 1) (ppba_cons (ppb_v 9) (ppba_cons (ppb_v 7) ppba_nil))) (lenC (lenC (lenC lenN))) (r_cons (t_if (ppw_or (ppt_not (ppt_v (ppe_isi .list (ppb_v 10) T.b_isinstance boot_isi T.b_list boot_list))) (ppw_or (ppt_cmp (os_ne hr.units) (ppb_v 10) (ppb_v 8) (nomark _)) (ppw_or (ppt_cmp (os_ne hr.units) (ppb_v 9) (ppb_v 5) (nomark _)) (ppw_or1 (ppt_cmp (os_ne hr.units) (ppb_v 1) (ppb_v 2) (nomark _)))))).pt (ppss_one (pps_ret ppe_bl)))
    (r_cons (t_frame (pps_app 9 ppe_int))
    (r_cons (t_if (ppt_cmp (os_ne hr.units) (ppb_v 10) (ppb_v 8) (nomark _)) (ppss_one (pps_ret ppe_bl)))
    (r_cons (t_for 11 hpo nd (by decide) (ppw_or (ppt_not (ppt_v (ppe_isi .list (ppb_v 11) T.b_isinstance boot_isi T.b_list boot_list))) (ppw_or1 (ppt_cmp os_gt (ppe_callB cs_len T.b_len PySem.boot_len (ppba_cons (ppe_comp (own := [("_law_k", 6)]) nd (ppi_list (ppb_v 11)) (by kernel_rfl) (fun _ _ _ _ _ => (ppg_n 6 nd)) (fun _ _ _ _ _ => (ppts_one (ppw_or (ppt_not (ppt_v (ppe_isi .int (ppb_v 6) T.b_isinstance boot_isi T.b_int boot_int))) (ppw_or1 (ppt_v (ppe_isi .bool (ppb_v 6) T.b_isinstance boot_isi T.b_bool boot_bool)))).pt)) (fun _ _ _ _ _ => (ppe_v 6))).bo ppba_nil)).bo ppe_int.bo (nomark _)))).pt (ppss_one (pps_ret ppe_bl)) ppe_int)
    (r_frz (ppss_cons (pps_if (ppw_or (ppt_cmp (os_ne hr.units) (ppe_comp (own := [("_law_one", 11)]) nd (ppi_list (ppb_v 10)) (by kernel_rfl) (fun _ _ _ _ _ => (ppg_n 11 nd)) (fun _ _ _ _ _ => (ppts_one (ppt_cmp (os_ne hr.units) (ppe_callB cs_len T.b_len PySem.boot_len (ppba_cons (ppb_v 11) ppba_nil)).bo (ppe_op os_add (ppe_ix (ppb_v 1) ppe_int (fun _ _ => rfl)).bo ppe_int.bo).bo (nomark _)))) (fun _ _ _ _ _ => (ppe_v 11))).bo (ppe_list ppa_nil).bo (nomark _)) (ppw_or1 (ppt_cmp (os_ne hr.units) (ppe_cal c_run hr tk (ppa_cons (ppe_v 1) (ppa_cons (ppe_v 5) (ppa_cons (ppe_v 7) ppa_nil)))).bo (ppb_v 8) (nomark _)))).pt (ppss_one (pps_ret ppe_bl)) ppss_nil)
    (ppss_cons (pps_set 12 nd (ppe_ix (ppe_list (ppa_cons ppe_int (ppa_cons (ppe_un us_neg ppe_int.bo) (ppa_cons ppe_bl (ppa_cons ppe_non (ppa_cons ppe_str (ppa_cons (ppe_list (ppa_cons ppe_int ppa_nil)) (ppa_cons (ppe_op os_pow ppe_int.bo ppe_int.bo) (ppa_cons ppe_bl ppa_nil))))))))).bo (ppe_op os_mod (ppe_cal c_law_cell_at hr tk (ppa_cons (ppe_v 0) (ppa_cons ppe_int ppa_nil))).bo ppe_int.bo) (fun _ _ => rfl)))
    (ppss_cons (pps_set 13 nd (ppe_ix (ppe_list (ppa_cons (ppe_op os_add (ppb_v 5) (ppe_list (ppa_cons ppe_int ppa_nil)).bo) (ppa_cons (ppe_sl (ppb_v 5) (ppo_some ppe_int) ppo_none) (ppa_cons ppe_non (ppa_cons (ppe_callTy cs_tup T.b_tuple boot_tuple (ppba_cons (ppb_v 5) ppba_nil)) (ppa_cons (ppe_op os_add (ppe_list (ppa_cons ppe_bl ppa_nil)).bo (ppe_sl (ppb_v 5) (ppo_some ppe_int) ppo_none).bo) (ppa_cons ppe_str (ppa_cons ppe_dic ppa_nil)))))))).bo (ppe_op os_mod (ppe_op os_div (ppe_cal c_law_cell_at hr tk (ppa_cons (ppe_v 0) (ppa_cons ppe_int ppa_nil))).bo ppe_int.bo).bo ppe_int.bo) (fun _ _ => rfl)))
    (ppss_cons (pps_if (ppw_or (ppt_cmp (os_ne hr.units) (ppe_cal c_law_word hr tk (ppa_cons (ppe_v 1) (ppa_cons (ppe_v 5) (ppa_cons (ppe_v 12) ppa_nil)))).bo ppe_str.bo (nomark _)) (ppw_or1 (ppt_cmp (os_ne hr.units) (ppe_cal c_law_word hr tk (ppa_cons (ppe_v 1) (ppa_cons (ppe_v 13) (ppa_cons (ppe_v 12) ppa_nil)))).bo ppe_str.bo (nomark _)))).pt (ppss_one (pps_ret ppe_bl)) ppss_nil)
    (ppss_one (pps_ret (ppe_and (ppe_cmp (os_eq hr.units) (ppe_cal c_law_word hr tk (ppa_cons (ppe_v 1) (ppa_cons (ppe_v 13) (ppa_cons (ppe_v 7) ppa_nil)))).bo ppe_str.bo (nomark _)) (ppe_one (ppe_cmp (os_eq hr.units) (ppb_v 1) (ppb_v 2) (nomark _))))))))))))))) nd)))))))))
section
variable {P : Program} {w : World} {K : PySem.W.Frag} {h : Heap} {mg : Str → Option Value} {fa : Addr}
theorem all_mk (X : K.In h) (G : h.Ns mainGlobals mg) (hfa : mg "law" = some (.ref fa))
    {f0 : Addr} {od0 an0 : Option Addr} {sl0 : Array (Option Value)} {oc0 kV0 dc0 pm0 cd0 ct0 : Value}
    (a0 : PySem.W.nsIn K mainGlobals "is_whole" = some (some (.ref f0)))
    (l0 : K.lookup f0 = some ⟨oc0, od0, .func (PySem.W.fnOf "is_whole" "is_whole" (defArgs s_is_whole) (defBody s_is_whole) (defScope s_is_whole) .none kV0 dc0 pm0 an0 cd0 ct0), sl0⟩)
    (c0 : PySem.W.codeIn K cd0 "is_whole" = true)
    (k0 : PySem.W.keepIn K (.ref f0) = true)
    {f1 : Addr} {od1 an1 : Option Addr} {sl1 : Array (Option Value)} {oc1 kV1 dc1 pm1 cd1 ct1 : Value}
    (a1 : PySem.W.nsIn K mainGlobals "are_whole" = some (some (.ref f1)))
    (l1 : K.lookup f1 = some ⟨oc1, od1, .func (PySem.W.fnOf "are_whole" "are_whole" (defArgs s_are_whole) (defBody s_are_whole) (defScope s_are_whole) .none kV1 dc1 pm1 an1 cd1 ct1), sl1⟩)
    (c1 : PySem.W.codeIn K cd1 "are_whole" = true)
    (k1 : PySem.W.keepIn K (.ref f1) = true)
    {f2 : Addr} {od2 an2 : Option Addr} {sl2 : Array (Option Value)} {oc2 kV2 dc2 pm2 cd2 ct2 : Value}
    (a2 : PySem.W.nsIn K mainGlobals "is_row" = some (some (.ref f2)))
    (l2 : K.lookup f2 = some ⟨oc2, od2, .func (PySem.W.fnOf "is_row" "is_row" (defArgs s_is_row) (defBody s_is_row) (defScope s_is_row) .none kV2 dc2 pm2 an2 cd2 ct2), sl2⟩)
    (c2 : PySem.W.codeIn K cd2 "is_row" = true)
    (k2 : PySem.W.keepIn K (.ref f2) = true)
    {f3 : Addr} {od3 an3 : Option Addr} {sl3 : Array (Option Value)} {oc3 kV3 dc3 pm3 cd3 ct3 : Value}
    (a3 : PySem.W.nsIn K mainGlobals "are_rows" = some (some (.ref f3)))
    (l3 : K.lookup f3 = some ⟨oc3, od3, .func (PySem.W.fnOf "are_rows" "are_rows" (defArgs s_are_rows) (defBody s_are_rows) (defScope s_are_rows) .none kV3 dc3 pm3 an3 cd3 ct3), sl3⟩)
    (c3 : PySem.W.codeIn K cd3 "are_rows" = true)
    (k3 : PySem.W.keepIn K (.ref f3) = true)
    {f4 : Addr} {od4 an4 : Option Addr} {sl4 : Array (Option Value)} {oc4 kV4 dc4 pm4 cd4 ct4 : Value}
    (a4 : PySem.W.nsIn K mainGlobals "is_way" = some (some (.ref f4)))
    (l4 : K.lookup f4 = some ⟨oc4, od4, .func (PySem.W.fnOf "is_way" "is_way" (defArgs s_is_way) (defBody s_is_way) (defScope s_is_way) .none kV4 dc4 pm4 an4 cd4 ct4), sl4⟩)
    (c4 : PySem.W.codeIn K cd4 "is_way" = true)
    (k4 : PySem.W.keepIn K (.ref f4) = true)
    {f5 : Addr} {od5 an5 : Option Addr} {sl5 : Array (Option Value)} {oc5 kV5 dc5 pm5 cd5 ct5 : Value}
    (a5 : PySem.W.nsIn K mainGlobals "is_loop" = some (some (.ref f5)))
    (l5 : K.lookup f5 = some ⟨oc5, od5, .func (PySem.W.fnOf "is_loop" "is_loop" (defArgs s_is_loop) (defBody s_is_loop) (defScope s_is_loop) .none kV5 dc5 pm5 an5 cd5 ct5), sl5⟩)
    (c5 : PySem.W.codeIn K cd5 "is_loop" = true)
    (k5 : PySem.W.keepIn K (.ref f5) = true)
    {f6 : Addr} {od6 an6 : Option Addr} {sl6 : Array (Option Value)} {oc6 kV6 dc6 pm6 cd6 ct6 : Value}
    (a6 : PySem.W.nsIn K mainGlobals "need_loop" = some (some (.ref f6)))
    (l6 : K.lookup f6 = some ⟨oc6, od6, .func (PySem.W.fnOf "need_loop" "need_loop" (defArgs s_need_loop) (defBody s_need_loop) (defScope s_need_loop) .none kV6 dc6 pm6 an6 cd6 ct6), sl6⟩)
    (c6 : PySem.W.codeIn K cd6 "need_loop" = true)
    (k6 : PySem.W.keepIn K (.ref f6) = true)
    {f7 : Addr} {od7 an7 : Option Addr} {sl7 : Array (Option Value)} {oc7 kV7 dc7 pm7 cd7 ct7 : Value}
    (a7 : PySem.W.nsIn K mainGlobals "need_state" = some (some (.ref f7)))
    (l7 : K.lookup f7 = some ⟨oc7, od7, .func (PySem.W.fnOf "need_state" "need_state" (defArgs s_need_state) (defBody s_need_state) (defScope s_need_state) .none kV7 dc7 pm7 an7 cd7 ct7), sl7⟩)
    (c7 : PySem.W.codeIn K cd7 "need_state" = true)
    (k7 : PySem.W.keepIn K (.ref f7) = true)
    {f8 : Addr} {od8 an8 : Option Addr} {sl8 : Array (Option Value)} {oc8 kV8 dc8 pm8 cd8 ct8 : Value}
    (a8 : PySem.W.nsIn K mainGlobals "worth" = some (some (.ref f8)))
    (l8 : K.lookup f8 = some ⟨oc8, od8, .func (PySem.W.fnOf "worth" "worth" (defArgs s_worth) (defBody s_worth) (defScope s_worth) .none kV8 dc8 pm8 an8 cd8 ct8), sl8⟩)
    (c8 : PySem.W.codeIn K cd8 "worth" = true)
    (k8 : PySem.W.keepIn K (.ref f8) = true)
    {f9 : Addr} {od9 an9 : Option Addr} {sl9 : Array (Option Value)} {oc9 kV9 dc9 pm9 cd9 ct9 : Value}
    (a9 : PySem.W.nsIn K mainGlobals "led" = some (some (.ref f9)))
    (l9 : K.lookup f9 = some ⟨oc9, od9, .func (PySem.W.fnOf "led" "led" (defArgs s_led) (defBody s_led) (defScope s_led) .none kV9 dc9 pm9 an9 cd9 ct9), sl9⟩)
    (c9 : PySem.W.codeIn K cd9 "led" = true)
    (k9 : PySem.W.keepIn K (.ref f9) = true)
    {f10 : Addr} {od10 an10 : Option Addr} {sl10 : Array (Option Value)} {oc10 kV10 dc10 pm10 cd10 ct10 : Value}
    (a10 : PySem.W.nsIn K mainGlobals "turn_of" = some (some (.ref f10)))
    (l10 : K.lookup f10 = some ⟨oc10, od10, .func (PySem.W.fnOf "turn_of" "turn_of" (defArgs s_turn_of) (defBody s_turn_of) (defScope s_turn_of) .none kV10 dc10 pm10 an10 cd10 ct10), sl10⟩)
    (c10 : PySem.W.codeIn K cd10 "turn_of" = true)
    (k10 : PySem.W.keepIn K (.ref f10) = true)
    {f11 : Addr} {od11 an11 : Option Addr} {sl11 : Array (Option Value)} {oc11 kV11 dc11 pm11 cd11 ct11 : Value}
    (a11 : PySem.W.nsIn K mainGlobals "run" = some (some (.ref f11)))
    (l11 : K.lookup f11 = some ⟨oc11, od11, .func (PySem.W.fnOf "run" "run" (defArgs s_run) (defBody s_run) (defScope s_run) .none kV11 dc11 pm11 an11 cd11 ct11), sl11⟩)
    (c11 : PySem.W.codeIn K cd11 "run" = true)
    (k11 : PySem.W.keepIn K (.ref f11) = true)
    {f12 : Addr} {od12 an12 : Option Addr} {sl12 : Array (Option Value)} {oc12 kV12 dc12 pm12 cd12 ct12 : Value}
    (a12 : PySem.W.nsIn K mainGlobals "_law_cell_at" = some (some (.ref f12)))
    (l12 : K.lookup f12 = some ⟨oc12, od12, .func (PySem.W.fnOf "_law_cell_at" "_law_cell_at" (defArgs s_law_cell_at) (defBody s_law_cell_at) (defScope s_law_cell_at) .none kV12 dc12 pm12 an12 cd12 ct12), sl12⟩)
    (c12 : PySem.W.codeIn K cd12 "_law_cell_at" = true)
    (k12 : PySem.W.keepIn K (.ref f12) = true)
    {f13 : Addr} {od13 an13 : Option Addr} {sl13 : Array (Option Value)} {oc13 kV13 dc13 pm13 cd13 ct13 : Value}
    (a13 : PySem.W.nsIn K mainGlobals "_law_drawn" = some (some (.ref f13)))
    (l13 : K.lookup f13 = some ⟨oc13, od13, .func (PySem.W.fnOf "_law_drawn" "_law_drawn" (defArgs s_law_drawn) (defBody s_law_drawn) (defScope s_law_drawn) .none kV13 dc13 pm13 an13 cd13 ct13), sl13⟩)
    (c13 : PySem.W.codeIn K cd13 "_law_drawn" = true)
    (k13 : PySem.W.keepIn K (.ref f13) = true)
    {f14 : Addr} {od14 an14 : Option Addr} {sl14 : Array (Option Value)} {oc14 kV14 dc14 pm14 cd14 ct14 : Value}
    (a14 : PySem.W.nsIn K mainGlobals "_law_row_by" = some (some (.ref f14)))
    (l14 : K.lookup f14 = some ⟨oc14, od14, .func (PySem.W.fnOf "_law_row_by" "_law_row_by" (defArgs s_law_row_by) (defBody s_law_row_by) (defScope s_law_row_by) .none kV14 dc14 pm14 an14 cd14 ct14), sl14⟩)
    (c14 : PySem.W.codeIn K cd14 "_law_row_by" = true)
    (k14 : PySem.W.keepIn K (.ref f14) = true)
    {f15 : Addr} {od15 an15 : Option Addr} {sl15 : Array (Option Value)} {oc15 kV15 dc15 pm15 cd15 ct15 : Value}
    (a15 : PySem.W.nsIn K mainGlobals "_law_way_by" = some (some (.ref f15)))
    (l15 : K.lookup f15 = some ⟨oc15, od15, .func (PySem.W.fnOf "_law_way_by" "_law_way_by" (defArgs s_law_way_by) (defBody s_law_way_by) (defScope s_law_way_by) .none kV15 dc15 pm15 an15 cd15 ct15), sl15⟩)
    (c15 : PySem.W.codeIn K cd15 "_law_way_by" = true)
    (k15 : PySem.W.keepIn K (.ref f15) = true)
    {f16 : Addr} {od16 an16 : Option Addr} {sl16 : Array (Option Value)} {oc16 kV16 dc16 pm16 cd16 ct16 : Value}
    (a16 : PySem.W.nsIn K mainGlobals "_law_far" = some (some (.ref f16)))
    (l16 : K.lookup f16 = some ⟨oc16, od16, .func (PySem.W.fnOf "_law_far" "_law_far" (defArgs s_law_far) (defBody s_law_far) (defScope s_law_far) .none kV16 dc16 pm16 an16 cd16 ct16), sl16⟩)
    (c16 : PySem.W.codeIn K cd16 "_law_far" = true)
    (k16 : PySem.W.keepIn K (.ref f16) = true)
    {f17 : Addr} {od17 an17 : Option Addr} {sl17 : Array (Option Value)} {oc17 kV17 dc17 pm17 cd17 ct17 : Value}
    (a17 : PySem.W.nsIn K mainGlobals "_law_loop_by" = some (some (.ref f17)))
    (l17 : K.lookup f17 = some ⟨oc17, od17, .func (PySem.W.fnOf "_law_loop_by" "_law_loop_by" (defArgs s_law_loop_by) (defBody s_law_loop_by) (defScope s_law_loop_by) .none kV17 dc17 pm17 an17 cd17 ct17), sl17⟩)
    (c17 : PySem.W.codeIn K cd17 "_law_loop_by" = true)
    (k17 : PySem.W.keepIn K (.ref f17) = true)
    {f18 : Addr} {od18 an18 : Option Addr} {sl18 : Array (Option Value)} {oc18 kV18 dc18 pm18 cd18 ct18 : Value}
    (a18 : PySem.W.nsIn K mainGlobals "_law_name_of" = some (some (.ref f18)))
    (l18 : K.lookup f18 = some ⟨oc18, od18, .func (PySem.W.fnOf "_law_name_of" "_law_name_of" (defArgs s_law_name_of) (defBody s_law_name_of) (defScope s_law_name_of) .none kV18 dc18 pm18 an18 cd18 ct18), sl18⟩)
    (c18 : PySem.W.codeIn K cd18 "_law_name_of" = true)
    (k18 : PySem.W.keepIn K (.ref f18) = true)
    {f19 : Addr} {od19 an19 : Option Addr} {sl19 : Array (Option Value)} {oc19 kV19 dc19 pm19 cd19 ct19 : Value}
    (a19 : PySem.W.nsIn K mainGlobals "_law_copied" = some (some (.ref f19)))
    (l19 : K.lookup f19 = some ⟨oc19, od19, .func (PySem.W.fnOf "_law_copied" "_law_copied" (defArgs s_law_copied) (defBody s_law_copied) (defScope s_law_copied) .none kV19 dc19 pm19 an19 cd19 ct19), sl19⟩)
    (c19 : PySem.W.codeIn K cd19 "_law_copied" = true)
    (k19 : PySem.W.keepIn K (.ref f19) = true)
    {f20 : Addr} {od20 an20 : Option Addr} {sl20 : Array (Option Value)} {oc20 kV20 dc20 pm20 cd20 ct20 : Value}
    (a20 : PySem.W.nsIn K mainGlobals "_law_worth" = some (some (.ref f20)))
    (l20 : K.lookup f20 = some ⟨oc20, od20, .func (PySem.W.fnOf "_law_worth" "_law_worth" (defArgs s_law_worth) (defBody s_law_worth) (defScope s_law_worth) .none kV20 dc20 pm20 an20 cd20 ct20), sl20⟩)
    (c20 : PySem.W.codeIn K cd20 "_law_worth" = true)
    (k20 : PySem.W.keepIn K (.ref f20) = true)
    {f21 : Addr} {od21 an21 : Option Addr} {sl21 : Array (Option Value)} {oc21 kV21 dc21 pm21 cd21 ct21 : Value}
    (a21 : PySem.W.nsIn K mainGlobals "_law_led" = some (some (.ref f21)))
    (l21 : K.lookup f21 = some ⟨oc21, od21, .func (PySem.W.fnOf "_law_led" "_law_led" (defArgs s_law_led) (defBody s_law_led) (defScope s_law_led) .none kV21 dc21 pm21 an21 cd21 ct21), sl21⟩)
    (c21 : PySem.W.codeIn K cd21 "_law_led" = true)
    (k21 : PySem.W.keepIn K (.ref f21) = true)
    {f22 : Addr} {od22 an22 : Option Addr} {sl22 : Array (Option Value)} {oc22 kV22 dc22 pm22 cd22 ct22 : Value}
    (a22 : PySem.W.nsIn K mainGlobals "_law_due" = some (some (.ref f22)))
    (l22 : K.lookup f22 = some ⟨oc22, od22, .func (PySem.W.fnOf "_law_due" "_law_due" (defArgs s_law_due) (defBody s_law_due) (defScope s_law_due) .none kV22 dc22 pm22 an22 cd22 ct22), sl22⟩)
    (c22 : PySem.W.codeIn K cd22 "_law_due" = true)
    (k22 : PySem.W.keepIn K (.ref f22) = true)
    {f23 : Addr} {od23 an23 : Option Addr} {sl23 : Array (Option Value)} {oc23 kV23 dc23 pm23 cd23 ct23 : Value}
    (a23 : PySem.W.nsIn K mainGlobals "_law_word" = some (some (.ref f23)))
    (l23 : K.lookup f23 = some ⟨oc23, od23, .func (PySem.W.fnOf "_law_word" "_law_word" (defArgs s_law_word) (defBody s_law_word) (defScope s_law_word) .none kV23 dc23 pm23 an23 cd23 ct23), sl23⟩)
    (c23 : PySem.W.codeIn K cd23 "_law_word" = true)
    (k23 : PySem.W.keepIn K (.ref f23) = true)
    {f24 : Addr} {od24 an24 : Option Addr} {sl24 : Array (Option Value)} {oc24 kV24 dc24 pm24 cd24 ct24 : Value}
    (a24 : PySem.W.nsIn K mainGlobals "law" = some (some (.ref f24)))
    (l24 : K.lookup f24 = some ⟨oc24, od24, .func (PySem.W.fnOf "law" "law" (defArgs s_law) (defBody s_law) (defScope s_law) .none kV24 dc24 pm24 an24 cd24 ct24), sl24⟩)
    (c24 : PySem.W.codeIn K cd24 "law" = true)
    (k24 : PySem.W.keepIn K (.ref f24) = true)
    (z_ValueError : PySem.W.nsIn K mainGlobals "ValueError" = some none)
    (z_all : PySem.W.nsIn K mainGlobals "all" = some none)
    (z_bool : PySem.W.nsIn K mainGlobals "bool" = some none)
    (z_int : PySem.W.nsIn K mainGlobals "int" = some none)
    (z_isinstance : PySem.W.nsIn K mainGlobals "isinstance" = some none)
    (z_len : PySem.W.nsIn K mainGlobals "len" = some none)
    (z_list : PySem.W.nsIn K mainGlobals "list" = some none)
    (z_max : PySem.W.nsIn K mainGlobals "max" = some none)
    (z_min : PySem.W.nsIn K mainGlobals "min" = some none)
    (z_range : PySem.W.nsIn K mainGlobals "range" = some none)
    (z_sum : PySem.W.nsIn K mainGlobals "sum" = some none)
    (z_tuple : PySem.W.nsIn K mainGlobals "tuple" = some none)
    (z_zip : PySem.W.nsIn K mainGlobals "zip" = some none)
    {t_MOST_NAMES : Tok}
    (q_MOST_NAMES : PySem.W.nsIn K mainGlobals "MOST_NAMES" = some (some (.int 3 t_MOST_NAMES)))
    {t_MOST_WAYS : Tok}
    (q_MOST_WAYS : PySem.W.nsIn K mainGlobals "MOST_WAYS" = some (some (.int 3 t_MOST_WAYS)))
    {t_MOST_ASKS : Tok}
    (q_MOST_ASKS : PySem.W.nsIn K mainGlobals "MOST_ASKS" = some (some (.int 4 t_MOST_ASKS)))
    {t_MOST_TURNS : Tok}
    (q_MOST_TURNS : PySem.W.nsIn K mainGlobals "MOST_TURNS" = some (some (.int 60 t_MOST_TURNS)))
    {t_FAR : Tok}
    (q_FAR : PySem.W.nsIn K mainGlobals "FAR" = some (some (.int 1000 t_FAR)))
    {C_LoopError : Addr}
    (g_LoopError : PySem.W.nsIn K mainGlobals "LoopError" = some (some (.ref C_LoopError)))
    (xi_LoopError : PySem.W.excIn K C_LoopError [.type "ValueError", .type "Exception", .type "BaseException", .type "object"] "ValueError.__new__" = true)
    (kC_LoopError : PySem.W.keepIn K (.ref C_LoopError) = true)
    (bC_LoopError : PySem.W.subIn K (.ref C_LoopError) (.type "BaseException") = some true)
    (tC_LoopError : PySem.W.typeIn K (.ref C_LoopError) = some (.type "type"))
    (iC_LoopError : PySem.W.isClsIn K C_LoopError = true)
    (vC_LoopError : PySem.W.subIn K (.ref C_LoopError) (.type "ValueError") = some true)
    {C_BadLoop : Addr}
    (g_BadLoop : PySem.W.nsIn K mainGlobals "BadLoop" = some (some (.ref C_BadLoop)))
    (xi_BadLoop : PySem.W.excIn K C_BadLoop [.type "ValueError", .type "Exception", .type "BaseException", .type "object"] "ValueError.__new__" = true)
    (kC_BadLoop : PySem.W.keepIn K (.ref C_BadLoop) = true)
    (bC_BadLoop : PySem.W.subIn K (.ref C_BadLoop) (.type "BaseException") = some true)
    (tC_BadLoop : PySem.W.typeIn K (.ref C_BadLoop) = some (.type "type"))
    (iC_BadLoop : PySem.W.isClsIn K C_BadLoop = true)
    (vC_BadLoop : PySem.W.subIn K (.ref C_BadLoop) (.type "ValueError") = some true)
    {C_BadState : Addr}
    (g_BadState : PySem.W.nsIn K mainGlobals "BadState" = some (some (.ref C_BadState)))
    (xi_BadState : PySem.W.excIn K C_BadState [.type "ValueError", .type "Exception", .type "BaseException", .type "object"] "ValueError.__new__" = true)
    (kC_BadState : PySem.W.keepIn K (.ref C_BadState) = true)
    (bC_BadState : PySem.W.subIn K (.ref C_BadState) (.type "BaseException") = some true)
    (tC_BadState : PySem.W.typeIn K (.ref C_BadState) = some (.type "type"))
    (iC_BadState : PySem.W.isClsIn K C_BadState = true)
    (vC_BadState : PySem.W.subIn K (.ref C_BadState) (.type "ValueError") = some true)
    {C_BadCount : Addr}
    (g_BadCount : PySem.W.nsIn K mainGlobals "BadCount" = some (some (.ref C_BadCount)))
    (xi_BadCount : PySem.W.excIn K C_BadCount [.type "ValueError", .type "Exception", .type "BaseException", .type "object"] "ValueError.__new__" = true)
    (kC_BadCount : PySem.W.keepIn K (.ref C_BadCount) = true)
    (bC_BadCount : PySem.W.subIn K (.ref C_BadCount) (.type "BaseException") = some true)
    (tC_BadCount : PySem.W.typeIn K (.ref C_BadCount) = some (.type "type"))
    (iC_BadCount : PySem.W.isClsIn K C_BadCount = true)
    (vC_BadCount : PySem.W.subIn K (.ref C_BadCount) (.type "ValueError") = some true)
    {C_BadGauge : Addr}
    (g_BadGauge : PySem.W.nsIn K mainGlobals "BadGauge" = some (some (.ref C_BadGauge)))
    (xi_BadGauge : PySem.W.excIn K C_BadGauge [.type "ValueError", .type "Exception", .type "BaseException", .type "object"] "ValueError.__new__" = true)
    (kC_BadGauge : PySem.W.keepIn K (.ref C_BadGauge) = true)
    (bC_BadGauge : PySem.W.subIn K (.ref C_BadGauge) (.type "BaseException") = some true)
    (tC_BadGauge : PySem.W.typeIn K (.ref C_BadGauge) = some (.type "type"))
    (iC_BadGauge : PySem.W.isClsIn K C_BadGauge = true)
    (vC_BadGauge : PySem.W.subIn K (.ref C_BadGauge) (.type "ValueError") = some true)
    {C_BadTable : Addr}
    (g_BadTable : PySem.W.nsIn K mainGlobals "BadTable" = some (some (.ref C_BadTable)))
    (xi_BadTable : PySem.W.excIn K C_BadTable [.type "ValueError", .type "Exception", .type "BaseException", .type "object"] "ValueError.__new__" = true)
    (kC_BadTable : PySem.W.keepIn K (.ref C_BadTable) = true)
    (bC_BadTable : PySem.W.subIn K (.ref C_BadTable) (.type "BaseException") = some true)
    (tC_BadTable : PySem.W.typeIn K (.ref C_BadTable) = some (.type "type"))
    (iC_BadTable : PySem.W.isClsIn K C_BadTable = true)
    (vC_BadTable : PySem.W.subIn K (.ref C_BadTable) (.type "ValueError") = some true)
    {C_BadText : Addr}
    (g_BadText : PySem.W.nsIn K mainGlobals "BadText" = some (some (.ref C_BadText)))
    (xi_BadText : PySem.W.excIn K C_BadText [.type "ValueError", .type "Exception", .type "BaseException", .type "object"] "ValueError.__new__" = true)
    (kC_BadText : PySem.W.keepIn K (.ref C_BadText) = true)
    (bC_BadText : PySem.W.subIn K (.ref C_BadText) (.type "BaseException") = some true)
    (tC_BadText : PySem.W.typeIn K (.ref C_BadText) = some (.type "type"))
    (iC_BadText : PySem.W.isClsIn K C_BadText = true)
    (vC_BadText : PySem.W.subIn K (.ref C_BadText) (.type "ValueError") = some true)
    (ea : PySem.W.specialIn K (.builtin "object.__class__") "__get__" = some (some (.builtin "getset_descriptor.__get__")))
    (eb : PySem.W.takesIn K (.builtin "object.__class__") = some true)
    (e1_BadLoop : PySem.W.findIn K (.ref C_BadLoop) "__getattribute__" = some (some (.builtin "BaseException.__getattribute__")))
    (e2_BadLoop : PySem.W.findIn K (.ref C_BadLoop) "__getattr__" = some none)
    (e3_BadLoop : PySem.W.hasDictIn K C_BadLoop = true)
    (e4_BadLoop : PySem.W.findIn K (.ref C_BadLoop) "__class__" = some (some (.builtin "object.__class__")))
    (e5_BadLoop : PySem.W.mroIn K C_BadLoop (.type "object") = some true)
    (s_BadLoop_LoopError : PySem.W.subIn K (.ref C_BadLoop) (.ref C_LoopError) = some true)
    (n_BadLoop_LoopError : (Value.ref C_BadLoop == Value.ref C_LoopError) = false)
    (s_BadLoop_BadState : PySem.W.subIn K (.ref C_BadLoop) (.ref C_BadState) = some false)
    (n_BadLoop_BadState : (Value.ref C_BadLoop == Value.ref C_BadState) = false)
    (s_BadLoop_BadCount : PySem.W.subIn K (.ref C_BadLoop) (.ref C_BadCount) = some false)
    (n_BadLoop_BadCount : (Value.ref C_BadLoop == Value.ref C_BadCount) = false)
    (s_BadLoop_BadGauge : PySem.W.subIn K (.ref C_BadLoop) (.ref C_BadGauge) = some false)
    (n_BadLoop_BadGauge : (Value.ref C_BadLoop == Value.ref C_BadGauge) = false)
    (s_BadLoop_BadTable : PySem.W.subIn K (.ref C_BadLoop) (.ref C_BadTable) = some false)
    (n_BadLoop_BadTable : (Value.ref C_BadLoop == Value.ref C_BadTable) = false)
    (s_BadLoop_BadText : PySem.W.subIn K (.ref C_BadLoop) (.ref C_BadText) = some false)
    (n_BadLoop_BadText : (Value.ref C_BadLoop == Value.ref C_BadText) = false)
    (e1_BadState : PySem.W.findIn K (.ref C_BadState) "__getattribute__" = some (some (.builtin "BaseException.__getattribute__")))
    (e2_BadState : PySem.W.findIn K (.ref C_BadState) "__getattr__" = some none)
    (e3_BadState : PySem.W.hasDictIn K C_BadState = true)
    (e4_BadState : PySem.W.findIn K (.ref C_BadState) "__class__" = some (some (.builtin "object.__class__")))
    (e5_BadState : PySem.W.mroIn K C_BadState (.type "object") = some true)
    (s_BadState_LoopError : PySem.W.subIn K (.ref C_BadState) (.ref C_LoopError) = some true)
    (n_BadState_LoopError : (Value.ref C_BadState == Value.ref C_LoopError) = false)
    (s_BadState_BadLoop : PySem.W.subIn K (.ref C_BadState) (.ref C_BadLoop) = some false)
    (n_BadState_BadLoop : (Value.ref C_BadState == Value.ref C_BadLoop) = false)
    (s_BadState_BadCount : PySem.W.subIn K (.ref C_BadState) (.ref C_BadCount) = some false)
    (n_BadState_BadCount : (Value.ref C_BadState == Value.ref C_BadCount) = false)
    (s_BadState_BadGauge : PySem.W.subIn K (.ref C_BadState) (.ref C_BadGauge) = some false)
    (n_BadState_BadGauge : (Value.ref C_BadState == Value.ref C_BadGauge) = false)
    (s_BadState_BadTable : PySem.W.subIn K (.ref C_BadState) (.ref C_BadTable) = some false)
    (n_BadState_BadTable : (Value.ref C_BadState == Value.ref C_BadTable) = false)
    (s_BadState_BadText : PySem.W.subIn K (.ref C_BadState) (.ref C_BadText) = some false)
    (n_BadState_BadText : (Value.ref C_BadState == Value.ref C_BadText) = false)
    (e1_BadCount : PySem.W.findIn K (.ref C_BadCount) "__getattribute__" = some (some (.builtin "BaseException.__getattribute__")))
    (e2_BadCount : PySem.W.findIn K (.ref C_BadCount) "__getattr__" = some none)
    (e3_BadCount : PySem.W.hasDictIn K C_BadCount = true)
    (e4_BadCount : PySem.W.findIn K (.ref C_BadCount) "__class__" = some (some (.builtin "object.__class__")))
    (e5_BadCount : PySem.W.mroIn K C_BadCount (.type "object") = some true)
    (s_BadCount_LoopError : PySem.W.subIn K (.ref C_BadCount) (.ref C_LoopError) = some true)
    (n_BadCount_LoopError : (Value.ref C_BadCount == Value.ref C_LoopError) = false)
    (s_BadCount_BadLoop : PySem.W.subIn K (.ref C_BadCount) (.ref C_BadLoop) = some false)
    (n_BadCount_BadLoop : (Value.ref C_BadCount == Value.ref C_BadLoop) = false)
    (s_BadCount_BadState : PySem.W.subIn K (.ref C_BadCount) (.ref C_BadState) = some false)
    (n_BadCount_BadState : (Value.ref C_BadCount == Value.ref C_BadState) = false)
    (s_BadCount_BadGauge : PySem.W.subIn K (.ref C_BadCount) (.ref C_BadGauge) = some false)
    (n_BadCount_BadGauge : (Value.ref C_BadCount == Value.ref C_BadGauge) = false)
    (s_BadCount_BadTable : PySem.W.subIn K (.ref C_BadCount) (.ref C_BadTable) = some false)
    (n_BadCount_BadTable : (Value.ref C_BadCount == Value.ref C_BadTable) = false)
    (s_BadCount_BadText : PySem.W.subIn K (.ref C_BadCount) (.ref C_BadText) = some false)
    (n_BadCount_BadText : (Value.ref C_BadCount == Value.ref C_BadText) = false)
    (hmath : ∀ ns : List Int, ns.length ≤ 63 → (∀ z ∈ ns, Builtin.Int.intBits z ≤ 1048576) → m_law [scr (ns.map .int)] = .ok (.bool true)) :
    ∃ fd : FuncData, (∀ (s : Shared) (v : Value), BindsTo s fd ⟨[v], []⟩ [("_law_script", v)]) ∧ ∀ base : Heap, K.In base → base.Ns mainGlobals mg → FnOk P w K mg base (L2.CX P w) 14 fa fd ["_law_script"] (spLaw K) := by
  have e := hfa.symm.trans (PySem.W.mg_of X G a24)
  cases e
  have T : Txt K mg := { b_ValueError := PySem.W.mg_none_of X G z_ValueError, b_all := PySem.W.mg_none_of X G z_all, b_bool := PySem.W.mg_none_of X G z_bool, b_int := PySem.W.mg_none_of X G z_int, b_isinstance := PySem.W.mg_none_of X G z_isinstance, b_len := PySem.W.mg_none_of X G z_len, b_list := PySem.W.mg_none_of X G z_list, b_max := PySem.W.mg_none_of X G z_max, b_min := PySem.W.mg_none_of X G z_min, b_range := PySem.W.mg_none_of X G z_range, b_sum := PySem.W.mg_none_of X G z_sum, b_tuple := PySem.W.mg_none_of X G z_tuple, b_zip := PySem.W.mg_none_of X G z_zip, k_MOST_NAMES := ⟨_, PySem.W.mg_of X G q_MOST_NAMES⟩, k_MOST_WAYS := ⟨_, PySem.W.mg_of X G q_MOST_WAYS⟩, k_MOST_ASKS := ⟨_, PySem.W.mg_of X G q_MOST_ASKS⟩, k_MOST_TURNS := ⟨_, PySem.W.mg_of X G q_MOST_TURNS⟩, k_FAR := ⟨_, PySem.W.mg_of X G q_FAR⟩, c_LoopError := C_LoopError, x_LoopError := ⟨xi_LoopError, PySem.W.mg_of X G g_LoopError, kC_LoopError, bC_LoopError, tC_LoopError, iC_LoopError, vC_LoopError⟩, c_BadLoop := C_BadLoop, x_BadLoop := ⟨xi_BadLoop, PySem.W.mg_of X G g_BadLoop, kC_BadLoop, bC_BadLoop, tC_BadLoop, iC_BadLoop, vC_BadLoop⟩, c_BadState := C_BadState, x_BadState := ⟨xi_BadState, PySem.W.mg_of X G g_BadState, kC_BadState, bC_BadState, tC_BadState, iC_BadState, vC_BadState⟩, c_BadCount := C_BadCount, x_BadCount := ⟨xi_BadCount, PySem.W.mg_of X G g_BadCount, kC_BadCount, bC_BadCount, tC_BadCount, iC_BadCount, vC_BadCount⟩, c_BadGauge := C_BadGauge, x_BadGauge := ⟨xi_BadGauge, PySem.W.mg_of X G g_BadGauge, kC_BadGauge, bC_BadGauge, tC_BadGauge, iC_BadGauge, vC_BadGauge⟩, c_BadTable := C_BadTable, x_BadTable := ⟨xi_BadTable, PySem.W.mg_of X G g_BadTable, kC_BadTable, bC_BadTable, tC_BadTable, iC_BadTable, vC_BadTable⟩, c_BadText := C_BadText, x_BadText := ⟨xi_BadText, PySem.W.mg_of X G g_BadText, kC_BadText, bC_BadText, tC_BadText, iC_BadText, vC_BadText⟩, d_BadLoop := ⟨e1_BadLoop, e2_BadLoop, bC_BadLoop, e3_BadLoop, e4_BadLoop, ea, eb, e5_BadLoop⟩, s_BadLoop_LoopError := s_BadLoop_LoopError, n_BadLoop_LoopError := n_BadLoop_LoopError, s_BadLoop_BadState := s_BadLoop_BadState, n_BadLoop_BadState := n_BadLoop_BadState, s_BadLoop_BadCount := s_BadLoop_BadCount, n_BadLoop_BadCount := n_BadLoop_BadCount, s_BadLoop_BadGauge := s_BadLoop_BadGauge, n_BadLoop_BadGauge := n_BadLoop_BadGauge, s_BadLoop_BadTable := s_BadLoop_BadTable, n_BadLoop_BadTable := n_BadLoop_BadTable, s_BadLoop_BadText := s_BadLoop_BadText, n_BadLoop_BadText := n_BadLoop_BadText, d_BadState := ⟨e1_BadState, e2_BadState, bC_BadState, e3_BadState, e4_BadState, ea, eb, e5_BadState⟩, s_BadState_LoopError := s_BadState_LoopError, n_BadState_LoopError := n_BadState_LoopError, s_BadState_BadLoop := s_BadState_BadLoop, n_BadState_BadLoop := n_BadState_BadLoop, s_BadState_BadCount := s_BadState_BadCount, n_BadState_BadCount := n_BadState_BadCount, s_BadState_BadGauge := s_BadState_BadGauge, n_BadState_BadGauge := n_BadState_BadGauge, s_BadState_BadTable := s_BadState_BadTable, n_BadState_BadTable := n_BadState_BadTable, s_BadState_BadText := s_BadState_BadText, n_BadState_BadText := n_BadState_BadText, d_BadCount := ⟨e1_BadCount, e2_BadCount, bC_BadCount, e3_BadCount, e4_BadCount, ea, eb, e5_BadCount⟩, s_BadCount_LoopError := s_BadCount_LoopError, n_BadCount_LoopError := n_BadCount_LoopError, s_BadCount_BadLoop := s_BadCount_BadLoop, n_BadCount_BadLoop := n_BadCount_BadLoop, s_BadCount_BadState := s_BadCount_BadState, n_BadCount_BadState := n_BadCount_BadState, s_BadCount_BadGauge := s_BadCount_BadGauge, n_BadCount_BadGauge := n_BadCount_BadGauge, s_BadCount_BadTable := s_BadCount_BadTable, n_BadCount_BadTable := n_BadCount_BadTable, s_BadCount_BadText := s_BadCount_BadText, n_BadCount_BadText := n_BadCount_BadText }
  have F0 := fun_mk (st := s_is_whole) l0 c0 k0
  have B0 := F0.binds (ps := ["thing"]) fun _ _ _ _ _ _ us hl => match us, hl with | [_], _ => rfl
  have F1 := fun_mk (st := s_are_whole) l1 c1 k1
  have B1 := F1.binds (ps := ["thing", "size"]) fun _ _ _ _ _ _ us hl => match us, hl with | [_, _], _ => rfl
  have F2 := fun_mk (st := s_is_row) l2 c2 k2
  have B2 := F2.binds (ps := ["thing", "many"]) fun _ _ _ _ _ _ us hl => match us, hl with | [_, _], _ => rfl
  have F3 := fun_mk (st := s_are_rows) l3 c3 k3
  have B3 := F3.binds (ps := ["thing", "many"]) fun _ _ _ _ _ _ us hl => match us, hl with | [_, _], _ => rfl
  have F4 := fun_mk (st := s_is_way) l4 c4 k4
  have B4 := F4.binds (ps := ["thing", "many"]) fun _ _ _ _ _ _ us hl => match us, hl with | [_, _], _ => rfl
  have F5 := fun_mk (st := s_is_loop) l5 c5 k5
  have B5 := F5.binds (ps := ["thing"]) fun _ _ _ _ _ _ us hl => match us, hl with | [_], _ => rfl
  have F6 := fun_mk (st := s_need_loop) l6 c6 k6
  have B6 := F6.binds (ps := ["thing"]) fun _ _ _ _ _ _ us hl => match us, hl with | [_], _ => rfl
  have F7 := fun_mk (st := s_need_state) l7 c7 k7
  have B7 := F7.binds (ps := ["loop", "state"]) fun _ _ _ _ _ _ us hl => match us, hl with | [_, _], _ => rfl
  have F8 := fun_mk (st := s_worth) l8 c8 k8
  have B8 := F8.binds (ps := ["row", "state"]) fun _ _ _ _ _ _ us hl => match us, hl with | [_, _], _ => rfl
  have F9 := fun_mk (st := s_led) l9 c9 k9
  have B9 := F9.binds (ps := ["way", "state"]) fun _ _ _ _ _ _ us hl => match us, hl with | [_, _], _ => rfl
  have F10 := fun_mk (st := s_turn_of) l10 c10 k10
  have B10 := F10.binds (ps := ["loop", "state"]) fun _ _ _ _ _ _ us hl => match us, hl with | [_, _], _ => rfl
  have F11 := fun_mk (st := s_run) l11 c11 k11
  have B11 := F11.binds (ps := ["loop", "state", "most"]) fun _ _ _ _ _ _ us hl => match us, hl with | [_, _, _], _ => rfl
  have F12 := fun_mk (st := s_law_cell_at) l12 c12 k12
  have B12 := F12.binds (ps := ["_law_script", "_law_k"]) fun _ _ _ _ _ _ us hl => match us, hl with | [_, _], _ => rfl
  have F13 := fun_mk (st := s_law_drawn) l13 c13 k13
  have B13 := F13.binds (ps := ["_law_seed", "_law_k"]) fun _ _ _ _ _ _ us hl => match us, hl with | [_, _], _ => rfl
  have F14 := fun_mk (st := s_law_row_by) l14 c14 k14
  have B14 := F14.binds (ps := ["_law_cell", "_law_k", "_law_many"]) fun _ _ _ _ _ _ us hl => match us, hl with | [_, _, _], _ => rfl
  have F15 := fun_mk (st := s_law_way_by) l15 c15 k15
  have B15 := F15.binds (ps := ["_law_cell", "_law_many"]) fun _ _ _ _ _ _ us hl => match us, hl with | [_, _], _ => rfl
  have F16 := fun_mk (st := s_law_far) l16 c16 k16
  have B16 := F16.binds (ps := ["_law_row"]) fun _ _ _ _ _ _ us hl => match us, hl with | [_], _ => rfl
  have F17 := fun_mk (st := s_law_loop_by) l17 c17 k17
  have B17 := F17.binds (ps := ["_law_script", "_law_at"]) fun _ _ _ _ _ _ us hl => match us, hl with | [_, _], _ => rfl
  have F18 := fun_mk (st := s_law_name_of) l18 c18 k18
  have B18 := F18.binds (ps := ["_law_error"]) fun _ _ _ _ _ _ us hl => match us, hl with | [_], _ => rfl
  have F19 := fun_mk (st := s_law_copied) l19 c19 k19
  have B19 := F19.binds (ps := ["_law_thing"]) fun _ _ _ _ _ _ us hl => match us, hl with | [_], _ => rfl
  have F20 := fun_mk (st := s_law_worth) l20 c20 k20
  have B20 := F20.binds (ps := ["_law_row", "_law_state"]) fun _ _ _ _ _ _ us hl => match us, hl with | [_, _], _ => rfl
  have F21 := fun_mk (st := s_law_led) l21 c21 k21
  have B21 := F21.binds (ps := ["_law_way", "_law_state"]) fun _ _ _ _ _ _ us hl => match us, hl with | [_, _], _ => rfl
  have F22 := fun_mk (st := s_law_due) l22 c22 k22
  have B22 := F22.binds (ps := ["_law_loop", "_law_state", "_law_most"]) fun _ _ _ _ _ _ us hl => match us, hl with | [_, _, _], _ => rfl
  have F23 := fun_mk (st := s_law_word) l23 c23 k23
  have B23 := F23.binds (ps := ["_law_loop", "_law_state", "_law_most"]) fun _ _ _ _ _ _ us hl => match us, hl with | [_, _, _], _ => rfl
  have F24 := fun_mk (st := s_law) l24 c24 k24
  refine ⟨PySem.W.fnOf "law" "law" (defArgs s_law) (defBody s_law) (defScope s_law) .none kV24 dc24 pm24 an24 cd24 ct24, fun s v => .of_eq rfl, fun base _ _ => ?_⟩
  have c_is_whole : Cal P w K mg base "is_whole" ["thing"] 1 m_is_whole := ⟨f0, _, ok_is_whole T F0, PySem.W.mg_of X G a0, k0, B0⟩
  have c_are_whole : Cal P w K mg base "are_whole" ["thing", "size"] 2 m_are_whole := ⟨f1, _, ok_are_whole T c_is_whole F1, PySem.W.mg_of X G a1, k1, B1⟩
  have c_is_row : Cal P w K mg base "is_row" ["thing", "many"] 3 m_is_row := ⟨f2, _, ok_is_row T c_are_whole F2, PySem.W.mg_of X G a2, k2, B2⟩
  have c_are_rows : Cal P w K mg base "are_rows" ["thing", "many"] 4 m_are_rows := ⟨f3, _, ok_are_rows T c_is_row F3, PySem.W.mg_of X G a3, k3, B3⟩
  have c_is_way : Cal P w K mg base "is_way" ["thing", "many"] 5 m_is_way := ⟨f4, _, ok_is_way T c_are_rows F4, PySem.W.mg_of X G a4, k4, B4⟩
  have c_is_loop : Cal P w K mg base "is_loop" ["thing"] 6 m_is_loop := ⟨f5, _, ok_is_loop T c_is_whole c_is_way F5, PySem.W.mg_of X G a5, k5, B5⟩
  have c_need_loop : Cal P w K mg base "need_loop" ["thing"] 7 m_need_loop := ⟨f6, _, ok_need_loop T c_is_loop F6, PySem.W.mg_of X G a6, k6, B6⟩
  have c_need_state : Cal P w K mg base "need_state" ["loop", "state"] 3 m_need_state := ⟨f7, _, ok_need_state T c_are_whole F7, PySem.W.mg_of X G a7, k7, B7⟩
  have c_worth : Cal P w K mg base "worth" ["row", "state"] 1 m_worth := ⟨f8, _, ok_worth T F8, PySem.W.mg_of X G a8, k8, B8⟩
  have c_led : Cal P w K mg base "led" ["way", "state"] 2 m_led := ⟨f9, _, ok_led T c_worth F9, PySem.W.mg_of X G a9, k9, B9⟩
  have c_turn_of : Cal P w K mg base "turn_of" ["loop", "state"] 3 m_turn_of := ⟨f10, _, ok_turn_of T c_led F10, PySem.W.mg_of X G a10, k10, B10⟩
  have c_runT : CalT P w K mg base "run" ["loop", "state", "most"] 8 m_run := ⟨f11, _, ok_run T c_need_loop c_need_state c_turn_of c_is_whole F11, PySem.W.mg_of X G a11, k11, B11⟩
  have c_run := c_runT.cal
  have c_law_cell_at : Cal P w K mg base "_law_cell_at" ["_law_script", "_law_k"] 1 m_law_cell_at := ⟨f12, _, ok_law_cell_at T F12, PySem.W.mg_of X G a12, k12, B12⟩
  have c_law_drawn : Cal P w K mg base "_law_drawn" ["_law_seed", "_law_k"] 1 m_law_drawn := ⟨f13, _, ok_law_drawn T F13, PySem.W.mg_of X G a13, k13, B13⟩
  have c_law_row_by : Cal P w K mg base "_law_row_by" ["_law_cell", "_law_k", "_law_many"] 2 m_law_row_by := ⟨f14, _, ok_law_row_by T c_law_drawn F14, PySem.W.mg_of X G a14, k14, B14⟩
  have c_law_way_by : Cal P w K mg base "_law_way_by" ["_law_cell", "_law_many"] 3 m_law_way_by := ⟨f15, _, ok_law_way_by T c_law_drawn c_law_row_by F15, PySem.W.mg_of X G a15, k15, B15⟩
  have c_law_far : Cal P w K mg base "_law_far" ["_law_row"] 1 m_law_far := ⟨f16, _, ok_law_far T F16, PySem.W.mg_of X G a16, k16, B16⟩
  have c_law_loop_by : Cal P w K mg base "_law_loop_by" ["_law_script", "_law_at"] 4 m_law_loop_by := ⟨f17, _, ok_law_loop_by T c_law_cell_at c_law_way_by c_law_far F17, PySem.W.mg_of X G a17, k17, B17⟩
  have c_law_name_of : CalX P w K mg base "_law_name_of" 1 T.c_LoopError nmOf := ⟨f18, _, "_law_error", PySem.W.mg_of X G a18, k18, B18, fun c z => nmOf_all (fun c z => ∃ Dc, clsV mg c = .ref Dc ∧ PySem.W.exmOne K (.ref Dc) (.ref T.c_LoopError) = some true ∧ FnX P w K mg base 1 f18 _ ["_law_error"] Dc z)
      ⟨T.c_BadLoop, by unfold clsV; rw [T.x_BadLoop.gC]; rfl, exm_sub T.x_LoopError T.s_BadLoop_LoopError, ok_law_name_of T T.d_BadLoop kit_self (kit_sub T.x_BadState T.s_BadLoop_BadState T.n_BadLoop_BadState) (kit_sub T.x_BadCount T.s_BadLoop_BadCount T.n_BadLoop_BadCount) (kit_sub T.x_BadGauge T.s_BadLoop_BadGauge T.n_BadLoop_BadGauge) (kit_sub T.x_BadTable T.s_BadLoop_BadTable T.n_BadLoop_BadTable) (kit_sub T.x_BadText T.s_BadLoop_BadText T.n_BadLoop_BadText) (kit_val T.x_BadLoop) res_BadLoop F18⟩
      ⟨T.c_BadState, by unfold clsV; rw [T.x_BadState.gC]; rfl, exm_sub T.x_LoopError T.s_BadState_LoopError, ok_law_name_of T T.d_BadState (kit_sub T.x_BadLoop T.s_BadState_BadLoop T.n_BadState_BadLoop) kit_self (kit_sub T.x_BadCount T.s_BadState_BadCount T.n_BadState_BadCount) (kit_sub T.x_BadGauge T.s_BadState_BadGauge T.n_BadState_BadGauge) (kit_sub T.x_BadTable T.s_BadState_BadTable T.n_BadState_BadTable) (kit_sub T.x_BadText T.s_BadState_BadText T.n_BadState_BadText) (kit_val T.x_BadState) res_BadState F18⟩
      ⟨T.c_BadCount, by unfold clsV; rw [T.x_BadCount.gC]; rfl, exm_sub T.x_LoopError T.s_BadCount_LoopError, ok_law_name_of T T.d_BadCount (kit_sub T.x_BadLoop T.s_BadCount_BadLoop T.n_BadCount_BadLoop) (kit_sub T.x_BadState T.s_BadCount_BadState T.n_BadCount_BadState) kit_self (kit_sub T.x_BadGauge T.s_BadCount_BadGauge T.n_BadCount_BadGauge) (kit_sub T.x_BadTable T.s_BadCount_BadTable T.n_BadCount_BadTable) (kit_sub T.x_BadText T.s_BadCount_BadText T.n_BadCount_BadText) (kit_val T.x_BadCount) res_BadCount F18⟩⟩
  have c_law_copied := all_law_copied (P := P) (w := w) (base := base) T F19 B19 (PySem.W.mg_of X G a19) 12
  have c_law_worth : Cal P w K mg base "_law_worth" ["_law_row", "_law_state"] 1 m_law_worth := ⟨f20, _, ok_law_worth T F20, PySem.W.mg_of X G a20, k20, B20⟩
  have c_law_led : Cal P w K mg base "_law_led" ["_law_way", "_law_state"] 2 m_law_led := ⟨f21, _, ok_law_led T c_law_worth F21, PySem.W.mg_of X G a21, k21, B21⟩
  have c_law_due : Cal P w K mg base "_law_due" ["_law_loop", "_law_state", "_law_most"] 3 m_law_due := ⟨f22, _, ok_law_due T c_law_led F22, PySem.W.mg_of X G a22, k22, B22⟩
  have c_law_word : Cal P w K mg base "_law_word" ["_law_loop", "_law_state", "_law_most"] 9 m_law_word := ⟨f23, _, ok_law_word T c_run c_law_name_of F23, PySem.W.mg_of X G a23, k23, B23⟩
  exact (ok_law T c_law_loop_by c_law_copied c_law_cell_at c_law_due c_runT c_run c_law_word c_law_drawn F24).imp (spLaw_of hmath)
end
end PL

namespace PL
open PySem
/-! ## the mathematics: how the mirrors reckon -/
section
variable {a b : SF} {f g h : EF} {l : LF} {t u : TF} {e : Env} {d : D} {i : Nat}
@[simp] theorem x_seqN : sSeq sNil b e = b e := rfl
theorem seq_next {e' : Env} (h : a e = .next e') : sSeq a b e = b e' := by unfold sSeq; rw [h]
theorem seq_ret (h : a e = .ret d) : sSeq a b e = .ret d := by unfold sSeq; rw [h]
theorem seq_err {c : Str} (h : a e = .err c) : sSeq a b e = .err c := by unfold sSeq; rw [h]
theorem set_ok (h : f e = .ok d) : sSet (gN i) f e = .next (e.set i (.sh d)) := by unfold sSet; rw [h]; rfl
theorem do_ok (h : f e = .ok d) : sDo f e = .next e := by unfold sDo; rw [h]; rfl
theorem do_err {c : Str} (h : f e = .err c) : sDo f e = .err c := by unfold sDo; rw [h]; rfl
theorem ret_ok (h : f e = .ok d) : sRet f e = .ret d := by unfold sRet; rw [h]; rfl
theorem ret_to {d' : D} (h : f e = .ok d) (h2 : d = d') : sRet f e = .ret d' := by unfold sRet; rw [h, h2]; rfl
theorem if_t (h : t e = .ok true) : sIf t a b e = a e := by unfold sIf; rw [h]; rfl
theorem if_f (h : t e = .ok false) : sIf t a b e = b e := by unfold sIf; rw [h]; rfl
theorem if_b {k : Bool} (h : t e = .ok k) : sIf t a b e = if k then a e else b e := by unfold sIf; rw [h]; rfl
theorem qv {k : Bool} (h : f e = .ok (.bool k)) : qV f e = .ok k := by unfold qV; rw [h]; rfl
theorem qnot {k : Bool} (h : t e = .ok k) : qNot t e = .ok (!k) := by unfold qNot; rw [h]; rfl
theorem qor {k j : Bool} (h : t e = .ok k) (h2 : k = false → u e = .ok j) : qOr t u e = .ok (k || j) := by
  unfold qOr; rw [h]; cases k
  · exact h2 rfl
  · rfl
theorem qand {k j : Bool} (h : t e = .ok k) (h2 : k = true → u e = .ok j) : qAnd t u e = .ok (k && j) := by
  unfold qAnd; rw [h]; cases k
  · rfl
  · exact h2 rfl
theorem eand {k j : Bool} (h : f e = .ok (.bool k)) (h2 : k = true → g e = .ok (.bool j)) : eAnd f g e = .ok (.bool (k && j)) := by
  unfold eAnd; rw [h]; cases k
  · rfl
  · exact h2 rfl
theorem eor {k j : Bool} (h : f e = .ok (.bool k)) (h2 : k = false → g e = .ok (.bool j)) : eOr f g e = .ok (.bool (k || j)) := by
  unfold eOr; rw [h]; cases k
  · exact h2 rfl
  · rfl
theorem enot {k : Bool} (h : f e = .ok (.bool k)) : eNot f e = .ok (.bool (!k)) := by unfold eNot; rw [h]; rfl
theorem op2 {o : D → D → R D} {x y : D} {r : R D} (h1 : f e = .ok x) (h2 : g e = .ok y) (h3 : o x y = r) : e2 o f g e = r := by unfold e2; rw [h1, R.bind_ok, h2, R.bind_ok]; exact h3
theorem op1 {o : D → R D} {x : D} {r : R D} (h1 : f e = .ok x) (h3 : o x = r) : e1 o f e = r := by unfold e1; rw [h1]; exact h3
theorem ch2 {o o' : D → D → R D} {x y z : D} {k j : Bool} (h1 : f e = .ok x) (h2 : g e = .ok y) (h3 : o x y = .ok (.bool k)) (h4 : k = true → h e = .ok z ∧ o' y z = .ok (.bool j)) : eCh o o' f g h e = .ok (.bool (k && j)) := by
  unfold eCh; rw [h1, R.bind_ok, h2, R.bind_ok, h3]
  cases k
  · rfl
  · obtain ⟨h5, h6⟩ := h4 rfl
    show (h e).bind _ = _
    rw [h5]; exact h6
theorem cl1 {m : List D → R D} {x : D} {r : R D} (h1 : f e = .ok x) (h : m [x] = r) : eC m (aC f aN) e = r := by unfold eC aC aN; rw [h1]; exact h
theorem cl2 {m : List D → R D} {x y : D} {r : R D} (h1 : f e = .ok x) (h2 : g e = .ok y) (h : m [x, y] = r) : eC m (aC f (aC g aN)) e = r := by
  show ((f e).bind fun d => ((g e).bind fun d2 => R.ok [d2]).bind fun ds => R.ok (d :: ds)).bind m = r
  rw [h1, R.bind_ok, h2]; exact h
theorem cl3 {m : List D → R D} {x y z : D} {r : R D} {q : EF} (h1 : f e = .ok x) (h2 : g e = .ok y) (h3 : q e = .ok z) (h : m [x, y, z] = r) : eC m (aC f (aC g (aC q aN))) e = r := by
  show ((f e).bind fun d => ((g e).bind fun d2 => ((q e).bind fun d3 => R.ok [d3]).bind fun ds => R.ok (d2 :: ds)).bind fun ds => R.ok (d :: ds)).bind m = r
  rw [h1, R.bind_ok, h2, R.bind_ok, h3]; exact h
theorem el {xs : List D} (h : l e = .ok xs) : eL l e = .ok (.list xs) := by unfold eL; rw [h]; rfl
theorem et {xs : List D} (h : l e = .ok xs) : eT l e = .ok (.tuple xs) := by unfold eT; rw [h]; rfl
theorem ac {xs : List D} (h1 : f e = .ok d) (h : l e = .ok xs) : aC f l e = .ok (d :: xs) := by unfold aC; rw [h1, R.bind_ok, h]; rfl
theorem an : aN e = .ok [] := rfl
theorem eif_t (h : t e = .ok true) : eIf t f g e = f e := by unfold eIf; rw [h]; rfl
theorem eif_f (h : t e = .ok false) : eIf t f g e = g e := by unfold eIf; rw [h]; rfl
theorem il {xs : List D} (h : f e = .ok (.list xs)) : iL f e = .ok xs := by unfold iL; rw [h]; rfl
theorem smI_of {n : Int} (h1 : -1000000 ≤ n) (h2 : n ≤ 1000000) : smI n = true := by
  unfold smI; rw [decide_eq_true_eq]; omega
theorem ir1 {n : Int} (h : f e = .ok (.int n)) (h1 : -1000000 ≤ n) (h2 : n ≤ 1000000) : iR1 f e = .ok (rng 0 n) := by
  unfold iR1; rw [h, R.bind_ok]
  show (if smI n = true then R.ok (rng 0 n) else .stk) = _
  rw [if_pos (smI_of h1 h2)]
theorem rng_mem {lo n : Int} {x : D} (h : x ∈ rng lo n) : ∃ k : Int, x = .int k ∧ lo ≤ k ∧ k < n := by
  unfold rng at h
  obtain ⟨k, hk, rfl⟩ := List.mem_map.mp h
  have := List.mem_range.mp hk
  exact ⟨_, rfl, by omega, by omega⟩
theorem rng_length (lo n : Int) : (rng lo n).length = (n - lo).toNat := by unfold rng; rw [List.length_map, List.length_range]
theorem fn_ret {n : Nat} {s : SF} {ds : List D} (h : s (ds.map .sh ++ List.replicate (n - ds.length) .no) = .ret d) : fnR n s ds = .ok d := by unfold fnR; rw [h]
theorem fn_err {n : Nat} {s : SF} {ds : List D} {c : Str} (h : s (ds.map .sh ++ List.replicate (n - ds.length) .no) = .err c) : fnR n s ds = .err c := by unfold fnR; rw [h]
theorem fn_next {n : Nat} {s : SF} {ds : List D} {e : Env} (h : s (ds.map .sh ++ List.replicate (n - ds.length) .no) = .next e) : fnR n s ds = .ok .none := by unfold fnR; rw [h]
end
section
variable {g : GF} {t : TF} {f : EF} {e : Env} {it : LF} {vs : List Nat}
theorem cLoop_map (F : D → D) : ∀ {xs : List D}, (∀ x ∈ xs, ∃ e1, g x e = .ok e1 ∧ t e1 = .ok true ∧ f e1 = .ok (F x)) → cLoop g t f e xs = .ok (xs.map F)
  | [], _ => rfl
  | x :: xs, h => by
    obtain ⟨e1, h1, h2, h3⟩ := h x List.mem_cons_self
    unfold cLoop
    rw [h1, R.calm_ok, R.bind_ok, h2, R.calm_ok, R.bind_ok, if_pos rfl, h3, R.calm_ok, R.bind_ok, cLoop_map F (xs := xs) fun y hy => h y (List.mem_cons_of_mem _ hy)]
    rfl
theorem cmp_map (F : D → D) {xs : List D} (hi : it e = .ok xs) (hl : xs.length ≤ szL) (h : ∀ x ∈ xs, ∃ e1, g x (wip vs e) = .ok e1 ∧ t e1 = .ok true ∧ f e1 = .ok (F x)) : cmp it vs g t f e = .ok (xs.map F) := by
  unfold cmp
  rw [hi, R.bind_ok, if_pos hl]
  exact cLoop_map F h
/-- each element answers something of that kind -/
theorem cmp_all (P : D → Prop) {xs : List D} (hi : it e = .ok xs) (hl : xs.length ≤ szL) (h : ∀ x ∈ xs, ∃ e1 d, g x (wip vs e) = .ok e1 ∧ t e1 = .ok true ∧ f e1 = .ok d ∧ P d) : ∃ ds, cmp it vs g t f e = .ok ds ∧ ds.length = xs.length ∧ ∀ d ∈ ds, P d := by
  have h' : ∀ x : D, ∃ d, x ∈ xs → ∃ e1, g x (wip vs e) = .ok e1 ∧ t e1 = .ok true ∧ f e1 = .ok d ∧ P d := fun x => by
    by_cases hx : x ∈ xs
    · obtain ⟨e1, d, h1⟩ := h x hx
      exact ⟨d, fun _ => ⟨e1, h1⟩⟩
    · exact ⟨.none, fun q => absurd q hx⟩
  have hF : ∀ x ∈ xs, ∃ e1, g x (wip vs e) = .ok e1 ∧ t e1 = .ok true ∧ f e1 = .ok (Classical.choose (h' x)) ∧ P (Classical.choose (h' x)) := fun x hx => Classical.choose_spec (h' x) hx
  refine ⟨xs.map fun x => Classical.choose (h' x), cmp_map _ hi hl fun x hx => ?_, List.length_map _, fun d hd => ?_⟩
  · obtain ⟨e1, h1, h2, h3, _⟩ := hF x hx
    exact ⟨e1, h1, h2, h3⟩
  · obtain ⟨x, hx, rfl⟩ := List.mem_map.mp hd
    obtain ⟨e1, _, _, _, h4⟩ := hF x hx
    exact h4
end
/-! ### values -/
theorem mulB_l {a b : Int} (h1 : -(2 ^ 64) < a) (h2 : a < 2 ^ 64) : mulB a b = true := by unfold mulB; rw [decide_eq_true (show -(2 ^ 64) < a ∧ a < 2 ^ 64 from ⟨h1, h2⟩)]; rfl
theorem mulB_r {a b : Int} (h1 : -(2 ^ 64) < b) (h2 : b < 2 ^ 64) : mulB a b = true := by unfold mulB; rw [decide_eq_true (show -(2 ^ 64) < b ∧ b < 2 ^ 64 from ⟨h1, h2⟩), Bool.or_true]; rfl
theorem mul_l {a b : Int} (h1 : -(2 ^ 64) < a) (h2 : a < 2 ^ 64) : opMul (.int a) (.int b) = .ok (.int (a * b)) := if_pos (mulB_l h1 h2)
theorem mul_r {a b : Int} (h1 : -(2 ^ 64) < b) (h2 : b < 2 ^ 64) : opMul (.int a) (.int b) = .ok (.int (a * b)) := if_pos (mulB_r h1 h2)
theorem mod_ok {a b : Int} (h : 0 < b) : opMod (.int a) (.int b) = .ok (.int (a % b)) := if_pos h
theorem div_ok {a b : Int} (h : 0 < b) (h2 : b < 2 ^ 200) : opDiv (.int a) (.int b) = .ok (.int (a / b)) := if_pos ⟨h, by
  have : b.natAbs < 2 ^ 200 := by omega
  have := (Nat.log2_lt (by omega)).mpr this
  omega⟩
theorem eqD_int (a b : Int) : eqD (.int a) (.int b) = .ok (decide (a = b)) := by
  unfold eqD same lowD isDic flatD
  by_cases h : a = b
  · simp [h]
  · simp [h, PyData.eqv]
theorem eq_int (a b : Int) : opEq (.int a) (.int b) = .ok (.bool (decide (a = b))) := by unfold opEq; rw [eqD_int]; rfl
theorem ne_int (a b : Int) : opNe (.int a) (.int b) = .ok (.bool (!decide (a = b))) := by unfold opNe; rw [eqD_int]; rfl
abbrev intL (xs : List Int) : D := .list (xs.map .int)
theorem asIs_map : ∀ xs : List Int, asIs (xs.map PyData.int) = .ok xs
  | [] => rfl
  | x :: xs => by show (asIs (xs.map PyData.int)).bind _ = _; rw [asIs_map xs]; rfl
theorem asBs_map : ∀ xs : List Bool, asBs (xs.map PyData.bool) = .ok xs
  | [] => rfl
  | x :: xs => by show (asBs (xs.map PyData.bool)).bind _ = _; rw [asBs_map xs]; rfl
theorem sum_ints (xs : List Int) : bSum [intL xs] = .ok (.int xs.sum) := by
  show (asIs (xs.map PyData.int)).bind _ = _
  rw [asIs_map]; rfl
theorem all_bools {A : Type} (xs : List A) (p : A → Bool) : bAll [.list (xs.map fun x => .bool (p x))] = .ok (.bool (xs.all p)) := by
  have e : (xs.map fun x => PyData.bool (p x)) = (xs.map p).map PyData.bool := by rw [List.map_map]; rfl
  rw [e]
  show (asBs ((xs.map p).map PyData.bool)).bind _ = _
  rw [asBs_map]
  show R.ok (PyData.bool ((xs.map p).all id)) = _
  rw [List.all_map]
  rfl
/-! ### checks -/
def isWh : D → Bool | .int _ => true | _ => false
theorem m_whole {d : D} (h : isScr d = false) : m_is_whole [d] = .ok (.bool (isWh d)) := by
  have h1 : bIsi .int [d] = .ok (.bool (isTy .int d)) := by
    show (if isScr d = true then R.stk else _) = _
    rw [h]; rfl
  have h2 : bIsi .bool [d] = .ok (.bool (isTy .bool d)) := by
    show (if isScr d = true then R.stk else _) = _
    rw [h]; rfl
  refine fn_ret (ret_to (eand (cl1 rfl h1) fun _ => enot (cl1 rfl h2)) ?_)
  cases d <;> rfl
def arW (n : Int) : D → Bool | .list xs => decide ((xs.length : Int) = n) && xs.all isWh | _ => false
def noScr : D → Prop | .list xs => xs.length ≤ szL ∧ ∀ x ∈ xs, isScr x = false | .dict (_ :: _) => False | _ => True
theorem m_arew {d : D} {n : Int} (h : noScr d) : m_are_whole [d, .int n] = .ok (.bool (arW n d)) := by
  have hs : isScr d = false := by
    cases d with
    | dict kvs => cases kvs with | nil => rfl | cons => exact h.elim
    | _ => rfl
  have h1 : bIsi .list [d] = .ok (.bool (isTy .list d)) := by
    show (if isScr d = true then R.stk else _) = _
    rw [hs]; rfl
  cases d with
  | list xs =>
    refine fn_ret (ret_to (eand (cl1 rfl h1) fun _ => eand (op2 (cl1 rfl rfl) rfl (eq_int _ _)) fun _ => cl1 (el (cmp_map (fun x => .bool (isWh x)) (il rfl) h.1 fun x hx => ⟨_, rfl, rfl, cl1 rfl (m_whole (h.2 x hx))⟩)) (all_bools xs isWh)) ?_)
    rfl
  | dict kvs => exact fn_ret (ret_to (eand (j := false) (cl1 rfl h1) fun q => Bool.noConfusion (show false = true from q)) rfl)
  | _ => exact fn_ret (ret_to (eand (j := false) (cl1 rfl h1) fun q => Bool.noConfusion (show false = true from q)) rfl)

/-! ### good loops -/
def Row (m : Int) (d : D) : Prop := ∃ xs : List Int, d = intL xs ∧ (xs.length : Int) = m + 1 ∧ ∀ x ∈ xs, -1000 ≤ x ∧ x ≤ 1000
def Way (m : Int) (d : D) : Prop := ∃ asks gives : List D, d = .tuple [.list asks, .list gives] ∧ asks.length ≤ 4 ∧ (gives.length : Int) = m ∧ (∀ r ∈ asks, Row m r) ∧ ∀ r ∈ gives, Row m r
def Loop (m : Int) (ws : List D) : Prop := 1 ≤ m ∧ m ≤ 3 ∧ 1 ≤ ws.length ∧ ws.length ≤ 3 ∧ ∀ w ∈ ws, Way m w
abbrev lp (m : Int) (ws : List D) : D := .tuple [.int m, .list ws]
theorem noScr_ints {xs : List Int} (h : xs.length ≤ szL) : noScr (intL xs) := ⟨by rw [List.length_map]; exact h, fun x hx => by obtain ⟨y, _, rfl⟩ := List.mem_map.mp hx; rfl⟩
theorem isWh_ints (xs : List Int) : (xs.map PyData.int).all isWh = true := by
  rw [List.all_eq_true]; intro x hx; obtain ⟨y, _, rfl⟩ := List.mem_map.mp hx; rfl
theorem arW_ints (xs : List Int) (n : Int) : arW n (intL xs) = decide ((xs.length : Int) = n) := by
  show (decide (((xs.map PyData.int).length : Int) = n) && (xs.map PyData.int).all isWh) = _
  rw [isWh_ints, Bool.and_true, List.length_map]
theorem all_true {A : Type} (xs : List A) : bAll [.list (xs.map fun _ => .bool true)] = .ok (.bool true) := (all_bools xs fun _ => true).trans (by rw [List.all_eq_true.mpr fun _ _ => rfl])
theorem m_row_ok {m : Int} {d : D} (h : Row m d) (hm : m ≤ 3) : m_is_row [d, .int m] = .ok (.bool true) := by
  obtain ⟨xs, rfl, hl, hx⟩ := h
  have hsz : xs.length ≤ szL := by unfold szL; omega
  refine fn_ret (ret_to (eand (cl2 rfl (op2 rfl rfl rfl) (m_arew (noScr_ints hsz))) fun _ => cl1 (el (cmp_map (fun _ => .bool true) (il rfl) (by rw [List.length_map]; exact hsz) fun x hx' => ?_)) (all_true _)) ?_)
  · obtain ⟨z, hz, rfl⟩ := List.mem_map.mp hx'
    have := hx z hz
    exact ⟨_, rfl, rfl, (ch2 (op2 rfl rfl rfl) rfl rfl fun _ => ⟨rfl, rfl⟩).trans (by rw [decide_eq_true (by omega), decide_eq_true (by omega)]; rfl)⟩
  · rw [arW_ints, decide_eq_true hl]; rfl
theorem m_rows_ok {m : Int} {rs : List D} (h : ∀ r ∈ rs, Row m r) (hm : m ≤ 3) (hl : rs.length ≤ szL) : m_are_rows [.list rs, .int m] = .ok (.bool true) := by
  refine fn_ret (ret_to (eand (cl1 rfl rfl) fun _ => cl1 (el (cmp_map (fun _ => .bool true) (il rfl) hl fun x hx' => ?_)) (all_true _)) rfl)
  exact ⟨_, rfl, rfl, cl2 rfl rfl (m_row_ok (h x hx') hm)⟩
theorem bLenL (xs : List D) : bLen [.list xs] = .ok (.int xs.length) := rfl
theorem m_way_ok {m : Int} {w : D} (h : Way m w) (h1 : 1 ≤ m) (hm : m ≤ 3) : m_is_way [w, .int m] = .ok (.bool true) := by
  obtain ⟨asks, gives, rfl, h2, h3, h4, h5⟩ := h
  have z1 : asks.length ≤ szL := by unfold szL; omega
  have z2 : gives.length ≤ szL := by unfold szL; omega
  refine fn_ret ((seq_next (if_f ?_)).trans ((seq_next (if_f ?_)).trans (ret_to (eand (op2 (cl1 (op2 rfl rfl rfl) rfl) rfl rfl) fun _ => op2 (cl1 (op2 rfl rfl rfl) rfl) rfl (eq_int _ _)) ?_)))
  · exact (qor (qnot (qv (cl1 rfl rfl))) fun _ => qv (op2 (cl1 rfl rfl) rfl (ne_int _ _))).trans rfl
  · exact (qor (qnot (qv (cl2 (op2 rfl rfl rfl) rfl (m_rows_ok h4 hm z1)))) fun _ => qnot (qv (cl2 (op2 rfl rfl rfl) rfl (m_rows_ok h5 hm z2)))).trans rfl
  · rw [decide_eq_true (show (asks.length : Int) ≤ 4 by omega), decide_eq_true h3]; rfl
theorem m_loop_ok {m : Int} {ws : List D} (h : Loop m ws) : m_is_loop [lp m ws] = .ok (.bool true) := by
  obtain ⟨h1, h2, h3, h4, h5⟩ := h
  have z1 : ws.length ≤ szL := by unfold szL; omega
  refine fn_ret ((seq_next (if_f ?_)).trans ((seq_next (if_f ?_)).trans (ret_ok (cl1 (el (cmp_map (fun _ => .bool true) (il (op2 rfl rfl rfl)) z1 fun x hx' => ?_)) (all_true _)))))
  · exact (qor (qnot (qv (cl1 rfl rfl))) fun _ => qor (qv (op2 (cl1 rfl rfl) rfl (ne_int _ _))) fun _ => qor (qnot (qv (cl1 (op2 rfl rfl rfl) (m_whole rfl)))) fun _ => qnot (qv (cl1 (op2 rfl rfl rfl) rfl))).trans rfl
  · refine (qor (qnot (qv (ch2 rfl (op2 rfl rfl rfl) rfl fun _ => ⟨rfl, rfl⟩))) fun _ => qnot (qv (ch2 rfl (cl1 (op2 rfl rfl rfl) rfl) rfl fun _ => ⟨rfl, rfl⟩))).trans ?_
    rw [decide_eq_true h1, decide_eq_true h2, decide_eq_true (show (1 : Int) ≤ (ws.length : Int) by omega), decide_eq_true (show (ws.length : Int) ≤ 3 by omega)]; rfl
  · exact ⟨_, rfl, rfl, cl2 rfl (op2 rfl rfl rfl) (m_way_ok (h5 x hx') h1 h2)⟩
theorem m_need_ok {m : Int} {ws : List D} (h : Loop m ws) : m_need_loop [lp m ws] = .ok .none := fn_next (if_f (qnot (qv (cl1 rfl (m_loop_ok h)))))
end PL

namespace PL
open PySem
/-! ### worths, states, gauges -/
abbrev sml (z : Int) : Prop := z.natAbs < 2 ^ 200
theorem mul_s {a b : Int} (ha : sml a) (hb : sml b) : opMul (.int a) (.int b) = .ok (.int (a * b)) := by
  refine if_pos ?_
  unfold mulB
  have h1 : a.natAbs.log2 < 200 := by
    by_cases h : a.natAbs = 0
    · rw [h]; decide
    · exact (Nat.log2_lt h).mpr ha
  have h2 : b.natAbs.log2 < 200 := by
    by_cases h : b.natAbs = 0
    · rw [h]; decide
    · exact (Nat.log2_lt h).mpr hb
  rw [decide_eq_true (show a.natAbs.log2 + b.natAbs.log2 < 1000000 by omega), Bool.or_true]
theorem sml_of {z : Int} (h1 : -1000000000000 ≤ z) (h2 : z ≤ 1000000000000) : sml z := by
  have : z.natAbs < 2 ^ 60 := by omega
  exact Nat.lt_trans this (by decide)
def mulD : D → D | .tuple [.int a, .int b] => .int (a * b) | _ => .none
def dotL (xs ys : List Int) : List Int := List.zipWith (· * ·) xs ys
theorem zip_mul : ∀ (xs ys : List Int), (zipD (xs.map .int) (ys.map .int)).map mulD = (dotL xs ys).map .int
  | [], _ => by cases ‹List Int› <;> rfl
  | _ :: _, [] => rfl
  | x :: xs, y :: ys => by
    show mulD (.tuple [.int x, .int y]) :: (zipD (xs.map .int) (ys.map .int)).map mulD = _
    rw [zip_mul xs ys]; rfl
theorem zip_mem : ∀ {xs ys : List Int} {d : D}, d ∈ zipD (xs.map .int) (ys.map .int) → ∃ a b, d = .tuple [.int a, .int b] ∧ a ∈ xs ∧ b ∈ ys
  | [], ys, d, h => by cases ys <;> cases h
  | _ :: _, [], d, h => by cases h
  | x :: xs, y :: ys, d, h => by
    rcases List.mem_cons.mp h with rfl | h
    · exact ⟨x, y, rfl, List.mem_cons_self, List.mem_cons_self⟩
    · obtain ⟨a, b, h1, h2, h3⟩ := zip_mem (xs := xs) (ys := ys) h
      exact ⟨a, b, h1, List.mem_cons_of_mem _ h2, List.mem_cons_of_mem _ h3⟩
theorem zip_len : ∀ (xs ys : List Int), (zipD (xs.map .int) (ys.map .int)).length ≤ xs.length
  | [], ys => by cases ys <;> exact Nat.le_refl _
  | _ :: _, [] => Nat.zero_le _
  | x :: xs, y :: ys => Nat.succ_le_succ (zip_len xs ys)
def dot (xs ys : List Int) : Int := (dotL xs ys).sum
theorem ix_last (l : List D) (d : D) : opIx (.list (l ++ [d])) (.int (-1)) = .ok d := by
  show toR ((ixN (l ++ [d]).length (-1)).bind fun j => (l ++ [d])[j]?) = _
  have e : ixN (l ++ [d]).length (-1) = some l.length := by
    unfold ixN
    rw [if_neg (by omega), if_pos (by rw [List.length_append]; simp; omega)]
    congr 1
    rw [List.length_append]; simp; omega
  rw [e]
  show toR ((l ++ [d])[l.length]?) = _
  rw [List.getElem?_append_right (Nat.le_refl _), Nat.sub_self]; rfl
theorem m_worth_ok {xs ys : List Int} {z : Int} (h1 : ∀ a ∈ xs, sml a) (h2 : ∀ b ∈ ys, sml b) (hz : sml z) (hl : ys.length ≤ xs.length) (hs : xs.length ≤ 1000) : m_worth [intL (xs ++ [z]), intL ys] = .ok (.int (dot (xs ++ [z]) ys + z)) := by
  have hz' : ∀ a ∈ xs ++ [z], sml a := fun a ha => by
    rcases List.mem_append.mp ha with h | h
    · exact h1 a h
    · rw [List.mem_singleton.mp h]; exact hz
  have hc : cmp (iZ (eB 0) (eB 1)) [3, 4] (gT [(gN 3), (gN 4)]) qY (e2 opMul (eB 3) (eB 4)) [.sh (intL (xs ++ [z])), .sh (intL ys), .no, .no, .no] = .ok ((dotL (xs ++ [z]) ys).map .int) := by
    rw [← zip_mul]
    refine cmp_map mulD rfl ?_ fun d hd => ?_
    · have := zip_len (xs ++ [z]) ys
      rw [List.length_append] at this
      unfold szL
      simp at this ⊢
      omega
    · obtain ⟨a, b, rfl, ha, hb⟩ := zip_mem hd
      exact ⟨_, rfl, rfl, op2 rfl rfl (mul_s (hz' a ha) (h2 b hb))⟩
  have hi : opIx (intL (xs ++ [z])) (.int (-1)) = .ok (.int z) := by
    show opIx (.list ((xs ++ [z]).map .int)) _ = _
    rw [List.map_append]
    exact ix_last (xs.map .int) (.int z)
  have hlt : decide (((ys.map PyData.int).length : Int) < (((xs ++ [z]).map PyData.int).length : Int)) = true := by
    rw [decide_eq_true]
    rw [List.length_map, List.length_map, List.length_append]
    simp
    omega
  refine fn_ret ((seq_next (set_ok (d := .int (dot (xs ++ [z]) ys)) (cl1 (el hc) (sum_ints _)))).trans ((seq_next ((if_t ?_).trans (set_ok (d := .int (dot (xs ++ [z]) ys + z)) (op2 (x := .int (dot (xs ++ [z]) ys)) (y := .int z) rfl (op2 rfl (op1 (o := opNeg) (x := .int 1) rfl rfl) hi) rfl)))).trans (ret_ok rfl)))
  exact (qv (op2 (cl1 rfl rfl) (cl1 rfl rfl) rfl)).trans (by rw [hlt])
theorem m_state_ok {m : Int} {ws : List D} {d : D} (h : noScr d) (ha : arW m d = true) : m_need_state [lp m ws, d] = .ok .none :=
  fn_next (if_f ((qnot (qv (cl2 rfl (op2 rfl rfl rfl) (m_arew h)))).trans (by rw [ha]; rfl)))
theorem m_state_bad {m : Int} {ws : List D} {d : D} (h : noScr d) (ha : arW m d = false) : m_need_state [lp m ws, d] = .err "BadState" :=
  fn_err ((if_t ((qnot (qv (cl2 rfl (op2 rfl rfl rfl) (m_arew h)))).trans (by rw [ha]; rfl))).trans rfl)
end PL

namespace PL
open PySem
/-! ### what the law draws -/
theorem ints_of : ∀ {ds : List D} {P : Int → Prop}, (∀ d ∈ ds, ∃ z, d = .int z ∧ P z) → ∃ zs : List Int, ds = zs.map .int ∧ ∀ z ∈ zs, P z
  | [], _, _ => ⟨[], rfl, fun _ h => by cases h⟩
  | d :: ds, P, h => by
    obtain ⟨z, rfl, hz⟩ := h d List.mem_cons_self
    obtain ⟨zs, rfl, hzs⟩ := ints_of (ds := ds) (P := P) fun d hd => h d (List.mem_cons_of_mem _ hd)
    exact ⟨z :: zs, rfl, fun y hy => by
      rcases List.mem_cons.mp hy with rfl | hy
      · exact hz
      · exact hzs y hy⟩
theorem cmp_ints {g : GF} {t : TF} {f : EF} {e : Env} {it : LF} {vs : List Nat} (P : Int → Prop) {xs : List D} (hi : it e = .ok xs) (hl : xs.length ≤ 1000) (h : ∀ x ∈ xs, ∃ e1 z, g x (wip vs e) = .ok e1 ∧ t e1 = .ok true ∧ f e1 = .ok (.int z) ∧ P z) :
    ∃ zs : List Int, cmp it vs g t f e = .ok (zs.map .int) ∧ zs.length = xs.length ∧ ∀ z ∈ zs, P z := by
  obtain ⟨ds, h1, h2, h3⟩ := cmp_all (fun d => ∃ z, d = .int z ∧ P z) hi (Nat.le_trans hl (by decide)) fun x hx => by
    obtain ⟨e1, z, a1, a2, a3, a4⟩ := h x hx
    exact ⟨e1, .int z, a1, a2, a3, z, rfl, a4⟩
  obtain ⟨zs, rfl, h4⟩ := ints_of h3
  exact ⟨zs, h1, by rw [← h2, List.length_map], h4⟩
theorem ix_of {A : Type} {xs : List A} {k : Int} (h1 : 0 ≤ k) (h2 : k < xs.length) : ∃ a, xs[k.toNat]? = some a ∧ a ∈ xs ∧ atI xs k = some a := by
  have hk : k.toNat < xs.length := by omega
  refine ⟨xs[k.toNat], List.getElem?_eq_getElem hk, List.getElem_mem hk, ?_⟩
  unfold atI ixN
  rw [if_pos h1, if_pos h2]
  exact List.getElem?_eq_getElem hk
theorem ix_list {xs : List D} {k : Int} (h1 : 0 ≤ k) (h2 : k < xs.length) : ∃ d, xs[k.toNat]? = some d ∧ d ∈ xs ∧ opIx (.list xs) (.int k) = .ok d := by
  obtain ⟨a, h3, h4, h5⟩ := ix_of h1 h2
  exact ⟨a, h3, h4, by show toR (atI xs k) = _; rw [h5]; rfl⟩
theorem ix_ints {xs : List Int} {k : Int} (h1 : 0 ≤ k) (h2 : k < xs.length) : ∃ z, xs[k.toNat]? = some z ∧ z ∈ xs ∧ opIx (intL xs) (.int k) = .ok (.int z) := by
  obtain ⟨a, h3, h4, h5⟩ := ix_list (xs := xs.map .int) h1 (by rw [List.length_map]; exact h2)
  obtain ⟨z, hz, rfl⟩ := List.mem_map.mp h4
  rw [List.getElem?_map] at h3
  cases e : xs[k.toNat]? with
  | none => rw [e] at h3; cases h3
  | some y => rw [e] at h3; cases h3; exact ⟨z, rfl, hz, h5⟩
theorem add_list {xs ys : List D} (h : xs.length + ys.length ≤ 1000) : opAdd (.list xs) (.list ys) = .ok (.list (xs ++ ys)) := if_pos (Nat.le_trans h (by decide))
theorem fLoop_inv {g : GF} {b : SF} (I : Nat → Env → Prop) {xs : List D} {e : Env} (h0 : I 0 e) (step : ∀ i (hi : i < xs.length) e, I i e → ∃ e1 e2, g xs[i] e = .ok e1 ∧ b e1 = .next e2 ∧ I (i + 1) e2) : ∃ e', fLoop g b xs e = .next e' ∧ I xs.length e' := by
  suffices h : ∀ (ys : List D) (i : Nat) (e : Env), xs.drop i = ys → i ≤ xs.length → I i e → ∃ e', fLoop g b ys e = .next e' ∧ I xs.length e' from h xs 0 e rfl (Nat.zero_le _) h0
  intro ys
  induction ys with
  | nil =>
    intro i e h1 h2 h3
    have : i = xs.length := by
      have := List.drop_eq_nil_iff.mp h1
      omega
    exact ⟨e, rfl, this ▸ h3⟩
  | cons y ys ih =>
    intro i e h1 h2 h3
    have hlt : i < xs.length := by
      by_cases q : i < xs.length
      · exact q
      · rw [List.drop_eq_nil_of_le (by omega)] at h1; cases h1
    rw [List.drop_eq_getElem_cons hlt] at h1
    cases h1
    obtain ⟨e1, e2, a1, a2, a3⟩ := step i hlt e h3
    obtain ⟨e', b1, b2⟩ := ih (i + 1) e2 rfl hlt a3
    refine ⟨e', ?_, b2⟩
    unfold fLoop
    rw [a1]
    show (match b e1 with | .next e2 => _ | .cont e2 => _ | .brk e2 => _ | .ret d => _ | .err c => _ | .stk => _) = _
    rw [a2]
    exact b1
def draw (s k : Int) : Int := (((s + 101 * k + 7) * 48271 % 2147483647 / 7 + k) * 16807 % 2147483647) / 64
theorem draw_pos (s k : Int) : 0 ≤ draw s k := by unfold draw; omega
theorem m_drawn (s k : Int) : m_law_drawn [.int s, .int k] = .ok (.int (draw s k)) :=
  fn_ret ((seq_next (set_ok (op2 (op2 (op2 (op2 rfl (op2 rfl rfl (mul_l (by decide) (by decide))) rfl) rfl rfl) rfl (mul_r (by decide) (by decide))) rfl (mod_ok (by decide))))).trans
    (ret_ok (op2 (op2 (op2 (op2 (op2 rfl rfl (div_ok (by decide) (by decide))) rfl rfl) rfl (mul_r (by decide) (by decide))) rfl (mod_ok (by decide))) rfl (div_ok (by decide) (by decide)))))
def cell (ns : List Int) (k : Int) : Int := ns.getD k.toNat 0
abbrev scri (ns : List Int) : D := scr (ns.map .int)
theorem m_cell {ns : List Int} {k : Int} (h : 0 ≤ k) : m_law_cell_at [scri ns, .int k] = .ok (.int (cell ns k)) := by
  have hq : qV (e2 opLt (eB 1) (eC bLen (aC (eB 0) aN))) ([PyData.dict [(.none, .list (ns.map .int))], .int k].map SV.sh ++ []) = .ok (decide (k < (ns.map PyData.int).length)) := qv (op2 rfl (cl1 rfl rfl) rfl)
  by_cases c : k < (ns.map PyData.int).length
  · have hl : k < ns.length := by rw [List.length_map] at c; exact c
    obtain ⟨z, h3, _, h5⟩ := ix_ints h hl
    refine fn_ret (seq_ret ((if_t (hq.trans (by rw [decide_eq_true c]))).trans (ret_ok (op2 rfl rfl ?_))))
    show opIx (intL ns) (.int k) = _
    rw [h5]
    unfold cell
    rw [List.getD_eq_getElem?_getD, h3]; rfl
  · refine fn_ret ((seq_next (if_f (hq.trans (by rw [decide_eq_false c])))).trans (ret_to rfl ?_))
    unfold cell
    rw [List.getD_eq_getElem?_getD, List.getElem?_eq_none (by rw [List.length_map] at c; omega)]; rfl
/-- numbers of a row -/
abbrev near (z : Int) : Prop := -1000 ≤ z ∧ z ≤ 1000
theorem row_of {m : Int} {zs : List Int} (h : (zs.length : Int) = m + 1) (h2 : ∀ z ∈ zs, near z) : Row m (intL zs) := ⟨zs, rfl, h, h2⟩
theorem m_row_by {c k m : Int} (h1 : 1 ≤ m) (h3 : m ≤ 3) : ∃ d, m_law_row_by [.int c, .int k, .int m] = .ok d ∧ Row m d := by
  have hd : ∀ (e : Env) (f : EF) (j : Int), f e = .ok (.int j) → eV 0 e = .ok (.int c) → eC m_law_drawn (aC (eV 0) (aC f aN)) e = .ok (.int (draw c j)) := fun e f j hj h0 => cl2 h0 hj (m_drawn c j)
  have q : qV (e2 opEq (e2 opMod (eC m_law_drawn (aC (eV 0) (aC (e2 opAdd (e2 opMul (eK (.int 10)) (eB 1)) (eK (.int 9))) aN))) (eK (.int 8))) (eK (.int 3))) [.sh (.int c), .sh (.int k), .sh (.int m), .no] = .ok (decide (draw c (10 * k + 9) % 8 = 3)) :=
    qv (op2 (op2 (hd _ _ _ (op2 (op2 rfl rfl (mul_l (by decide) (by decide))) rfl rfl) rfl) rfl (mod_ok (by decide))) rfl (eq_int _ _))
  by_cases cc : draw c (10 * k + 9) % 8 = 3
  · obtain ⟨zs, a1, a2, a3⟩ := cmp_ints (it := iR1 (e2 opAdd (eB 2) (eK (.int 1)))) (vs := [3]) (g := gN 3) (t := qY) (f := e2 opSub (e2 opMod (eC m_law_drawn (aC (eV 0) (aC (e2 opAdd (e2 opMul (eK (.int 10)) (eB 1)) (eB 3)) aN))) (eK (.int 2001))) (eK (.int 1000))) (e := [.sh (.int c), .sh (.int k), .sh (.int m), .no]) near
      (ir1 (op2 rfl rfl rfl) (by omega) (by omega)) (by rw [rng_length]; omega) fun x hx => by
        obtain ⟨j, rfl, _, _⟩ := rng_mem hx
        exact ⟨_, _, rfl, rfl, op2 (op2 (hd _ _ _ (op2 (op2 rfl rfl (mul_l (by decide) (by decide))) rfl rfl) rfl) rfl (mod_ok (by decide))) rfl rfl, by unfold near; omega⟩
    refine ⟨intL zs, fn_ret (seq_ret ((if_t (q.trans (by rw [decide_eq_true cc]))).trans (ret_ok (el a1)))), row_of ?_ a3⟩
    rw [a2, rng_length]; omega
  · obtain ⟨zs, a1, a2, a3⟩ := cmp_ints (it := iR1 (eV 2)) (vs := [3]) (g := gN 3) (t := qY) (f := e2 opSub (e2 opMod (eC m_law_drawn (aC (eV 0) (aC (e2 opAdd (e2 opMul (eK (.int 10)) (eB 1)) (eB 3)) aN))) (eK (.int 5))) (eK (.int 2))) (e := [.sh (.int c), .sh (.int k), .sh (.int m), .no]) near
      (ir1 rfl (by omega) (by omega)) (by rw [rng_length]; omega) fun x hx => by
        obtain ⟨j, rfl, _, _⟩ := rng_mem hx
        exact ⟨_, _, rfl, rfl, op2 (op2 (hd _ _ _ (op2 (op2 rfl rfl (mul_l (by decide) (by decide))) rfl rfl) rfl) rfl (mod_ok (by decide))) rfl rfl, by unfold near; omega⟩
    have hl : zs.length = m.toNat := by rw [a2, rng_length]; omega
    refine ⟨intL (zs ++ [draw c (10 * k + 7) % 13 - 6]), fn_ret ((seq_next (if_f (q.trans (by rw [decide_eq_false cc])))).trans (ret_to (op2 (el a1) (el (ac (op2 (op2 (hd _ _ _ (op2 (op2 rfl rfl (mul_l (by decide) (by decide))) rfl rfl) rfl) rfl (mod_ok (by decide))) rfl rfl) rfl)) (add_list ?_)) ?_)), row_of ?_ fun z hz => ?_⟩
    · rw [List.length_map]; simp; omega
    · show _ = PyData.list ((zs ++ [draw c (10 * k + 7) % 13 - 6]).map .int)
      rw [List.map_append]; rfl
    · rw [List.length_append, hl]; simp; omega
    · rcases List.mem_append.mp hz with h | h
      · exact a3 z h
      · rw [List.mem_singleton.mp h]; unfold near; omega
end PL

namespace PL
open PySem
theorem reps_zero (m : Nat) : reps [.int 0] (m : Int) = (List.replicate m (0 : Int)).map .int := by
  unfold reps
  rw [Int.toNat_natCast]
  induction m with
  | zero => rfl
  | succ n ih => rw [List.replicate_succ, List.flatten_cons, ih, List.replicate_succ]; rfl
theorem mul_list {m : Int} (h1 : 0 ≤ m) (h2 : m ≤ 1000) : opMul (.list [.int 0]) (.int m) = .ok (intL (List.replicate m.toNat 0)) := by
  have e : reps [.int 0] m = (List.replicate m.toNat (0 : Int)).map .int := by
    have := reps_zero m.toNat
    rw [Int.toNat_of_nonneg h1] at this
    exact this
  show (if -(2 ^ 62) ≤ m ∧ m < 2 ^ 62 ∧ [PyData.int 0].length * m.toNat ≤ szL then R.ok (PyData.list (reps [.int 0] m)) else .stk) = _
  rw [if_pos ⟨by omega, by omega, by unfold szL; simp; omega⟩, e]
theorem sl_from {xs : List D} {m : Int} (h1 : 0 ≤ m) : opSl (.list xs) (some m) none = .ok (.list (xs.drop m.toNat)) := by
  show R.ok (PyData.list ((xs.drop (sIx xs.length 0 (some m))).take (sIx xs.length xs.length none - sIx xs.length 0 (some m)))) = _
  have e : sIx xs.length 0 (some m) = min m.toNat xs.length := by
    show (if m < 0 then (m + (xs.length : Int)).toNat else min m.toNat xs.length) = _
    rw [if_neg (by omega)]
  have e2 : sIx xs.length xs.length none = xs.length := rfl
  rw [e, e2]
  congr 2
  rcases Nat.le_total m.toNat xs.length with h | h
  · rw [Nat.min_eq_left h, List.take_of_length_le (by rw [List.length_drop]; omega)]
  · rw [Nat.min_eq_right h, List.drop_length, List.drop_eq_nil_of_le h, List.take_nil]
theorem esl_from {f g : EF} {e : Env} {xs : List D} {m : Int} (h : f e = .ok (.list xs)) (h2 : g e = .ok (.int m)) (h1 : 0 ≤ m) : eSl f (oS g) oN e = .ok (.list (xs.drop m.toNat)) := by
  unfold eSl oS oN
  rw [h, R.bind_ok, h2]
  exact sl_from h1
section
variable {c m : Int}
theorem m_way_by (h1 : 1 ≤ m) (h3 : m ≤ 3) : ∃ d, m_law_way_by [.int c, .int m] = .ok d ∧ Way m d := by
  have hd : ∀ (e : Env) (f : EF) (j : Int), f e = .ok (.int j) → eV 0 e = .ok (.int c) → eC m_law_drawn (aC (eV 0) (aC f aN)) e = .ok (.int (draw c j)) := fun e f j hj h0 => cl2 h0 hj (m_drawn c j)
  -- the asks
  have r4 : 0 ≤ draw c 4 % 4 ∧ draw c 4 % 4 < 4 := by omega
  obtain ⟨as1, a1, a2, a3⟩ := cmp_all (it := iR1 (e2 opMod (eC m_law_drawn (aC (eV 0) (aC (eK (.int 4)) aN))) (eK (.int 4)))) (vs := [4]) (g := gN 4) (t := qY) (f := eC m_law_row_by (aC (eV 0) (aC (e2 opAdd (eK (.int 2)) (eB 4)) (aC (eV 1) aN))))
    (e := [.sh (.int c), .sh (.int m), .sh (.int (draw c 3 % 4)), .no, .no, .no, .no, .no, .no, .no]) (Row m) (ir1 (op2 (hd _ _ _ rfl rfl) rfl (mod_ok (by decide))) (by omega) (by omega)) (by rw [rng_length]; unfold szL; omega) fun x hx => by
      obtain ⟨j, rfl, _, _⟩ := rng_mem hx
      obtain ⟨d, q1, q2⟩ := m_row_by (c := c) (k := 2 + j) h1 h3
      exact ⟨_, d, rfl, rfl, cl3 rfl (op2 rfl rfl rfl) rfl q1, q2⟩
  have a2' : as1.length ≤ 3 := by rw [a2, rng_length]; omega
  -- the gives
  obtain ⟨gs1, b1, b2, b3⟩ := cmp_all (it := iR1 (eV 1)) (vs := [4]) (g := gN 4) (t := qY) (f := eC m_law_row_by (aC (eV 0) (aC (e2 opAdd (eK (.int 6)) (eB 4)) (aC (eV 1) aN))))
    (e := [.sh (.int c), .sh (.int m), .sh (.int (draw c 3 % 4)), .sh (.list as1), .no, .no, .no, .no, .no, .no]) (Row m) (ir1 rfl (by omega) (by omega)) (by rw [rng_length]; unfold szL; omega) fun x hx => by
      obtain ⟨j, rfl, _, _⟩ := rng_mem hx
      obtain ⟨d, q1, q2⟩ := m_row_by (c := c) (k := 6 + j) h1 h3
      exact ⟨_, d, rfl, rfl, cl3 rfl (op2 rfl rfl rfl) rfl q1, q2⟩
  have b2' : (gs1.length : Int) = m := by rw [b2, rng_length]; omega
  -- the steps
  obtain ⟨st, s1, s2, s3⟩ := cmp_ints (it := iR1 (eV 1)) (vs := [4]) (g := gN 4) (t := qY) (f := e2 opSub (e2 opMod (eC m_law_drawn (aC (eV 0) (aC (e2 opAdd (eK (.int 100)) (eB 4)) aN))) (eK (.int 7))) (eK (.int 3)))
    (e := [.sh (.int c), .sh (.int m), .sh (.int (draw c 3 % 4)), .sh (.list as1), .no, .sh (.list gs1), .no, .no, .no, .no]) (fun z => -3 ≤ z ∧ z ≤ 3) (ir1 rfl (by omega) (by omega)) (by rw [rng_length]; omega) fun x hx => by
      obtain ⟨j, rfl, _, _⟩ := rng_mem hx
      exact ⟨_, _, rfl, rfl, op2 (op2 (hd _ _ _ (op2 rfl rfl rfl) rfl) rfl (mod_ok (by decide))) rfl rfl, by omega⟩
  have s2' : (st.length : Int) = m := by rw [s2, rng_length]; omega
  -- mode 1 or 2
  have g2 : ∃ gs2 : List D, (gs2.length : Int) = m ∧ (∀ r ∈ gs2, Row m r) ∧ sIf (qOr (qV (e2 opEq (eB 2) (eK (.int 1)))) (qV (e2 opEq (eB 2) (eK (.int 2))))) (sSet (gN 5) (eL (cmp (iR1 (eV 1)) [4] (gN 4) qY (e2 opAdd (eL (cmp (iR1 (eV 1)) [7] (gN 7) qY (eC bInt (aC (e2 opEq (eB 7) (eB 4)) aN)))) (eL (aC (e2 opIx (eB 6) (eV 4)) aN)))))) sNil
      [.sh (.int c), .sh (.int m), .sh (.int (draw c 3 % 4)), .sh (.list as1), .no, .sh (.list gs1), .sh (intL st), .no, .no, .no] = .next [.sh (.int c), .sh (.int m), .sh (.int (draw c 3 % 4)), .sh (.list as1), .no, .sh (.list gs2), .sh (intL st), .no, .no, .no] := by
    by_cases q : draw c 3 % 4 = 1 ∨ draw c 3 % 4 = 2
    · obtain ⟨gs2, c1, c2, c3⟩ := cmp_all (it := iR1 (eV 1)) (vs := [4]) (g := gN 4) (t := qY) (f := e2 opAdd (eL (cmp (iR1 (eV 1)) [7] (gN 7) qY (eC bInt (aC (e2 opEq (eB 7) (eB 4)) aN)))) (eL (aC (e2 opIx (eB 6) (eV 4)) aN)))
        (e := [.sh (.int c), .sh (.int m), .sh (.int (draw c 3 % 4)), .sh (.list as1), .no, .sh (.list gs1), .sh (intL st), .no, .no, .no]) (Row m) (ir1 rfl (by omega) (by omega)) (by rw [rng_length]; unfold szL; omega) fun x hx => by
          obtain ⟨j, rfl, j1, j2⟩ := rng_mem hx
          obtain ⟨zs, d1, d2, d3⟩ := cmp_ints (it := iR1 (eV 1)) (vs := [7]) (g := gN 7) (t := qY) (f := eC bInt (aC (e2 opEq (eB 7) (eB 4)) aN)) (e := [.sh (.int c), .sh (.int m), .sh (.int (draw c 3 % 4)), .sh (.list as1), .sh (.int j), .sh (.list gs1), .sh (intL st), .no, .no, .no]) near
            (ir1 rfl (by omega) (by omega)) (by rw [rng_length]; omega) fun x hx => by
              obtain ⟨i, rfl, _, _⟩ := rng_mem hx
              refine ⟨_, _, rfl, rfl, cl1 (op2 rfl rfl (eq_int _ _)) rfl, ?_⟩
              by_cases ij : i = j <;> simp [ij, near]
          obtain ⟨z, _, hz, f1⟩ := ix_ints (xs := st) (k := j) j1 (by omega)
          refine ⟨_, intL (zs ++ [z]), rfl, rfl, op2 (el d1) (el (ac (op2 rfl rfl f1) rfl)) ((add_list ?_).trans ?_), row_of ?_ fun y hy => ?_⟩
          · rw [List.length_map, d2, rng_length]; simp; omega
          · show R.ok (PyData.list (zs.map .int ++ [.int z])) = .ok (.list ((zs ++ [z]).map .int))
            rw [List.map_append]; rfl
          · rw [List.length_append, d2, rng_length]; simp; omega
          · rcases List.mem_append.mp hy with h | h
            · exact d3 y h
            · rw [List.mem_singleton.mp h]; have := s3 z hz; unfold near; omega
      refine ⟨gs2, by rw [c2, rng_length]; omega, c3, (if_t ((qor (qv (op2 rfl rfl (eq_int _ _))) fun _ => qv (op2 rfl rfl (eq_int _ _))).trans ?_)).trans (set_ok (el c1))⟩
      rcases q with q | q <;> simp [q]
    · refine ⟨gs1, b2', b3, (if_f ((qor (qv (op2 rfl rfl (eq_int _ _))) fun _ => qv (op2 rfl rfl (eq_int _ _))).trans ?_)).trans rfl⟩
      rw [decide_eq_false fun h => q (.inl h), decide_eq_false fun h => q (.inr h)]; rfl
  obtain ⟨gs2, g2a, g2b, g2c⟩ := g2
  -- mode 2
  have g3 : ∃ as2 : List D, as2.length ≤ 4 ∧ (∀ r ∈ as2, Row m r) ∧ sIf (qV (e2 opEq (eB 2) (eK (.int 2)))) (sSet (gN 3) (e2 opAdd (eB 3) (eL (aC (e2 opAdd (eL (cmp (iL (eB 6)) [8] (gN 8) qY (e2 opSub (eK (.int 0)) (eB 8)))) (eL (aC (e2 opMod (eC m_law_drawn (aC (eV 0) (aC (eK (.int 110)) aN))) (eK (.int 9))) aN))) aN)))) sNil
      [.sh (.int c), .sh (.int m), .sh (.int (draw c 3 % 4)), .sh (.list as1), .no, .sh (.list gs2), .sh (intL st), .no, .no, .no] = .next [.sh (.int c), .sh (.int m), .sh (.int (draw c 3 % 4)), .sh (.list as2), .no, .sh (.list gs2), .sh (intL st), .no, .no, .no] := by
    by_cases q : draw c 3 % 4 = 2
    · obtain ⟨zs, d1, d2, d3⟩ := cmp_ints (it := iL (eB 6)) (vs := [8]) (g := gN 8) (t := qY) (f := e2 opSub (eK (.int 0)) (eB 8)) (e := [.sh (.int c), .sh (.int m), .sh (.int (draw c 3 % 4)), .sh (.list as1), .no, .sh (.list gs2), .sh (intL st), .no, .no, .no]) near
        (il rfl) (by rw [List.length_map]; omega) fun x hx => by
          obtain ⟨i, hi, rfl⟩ := List.mem_map.mp hx
          refine ⟨_, _, rfl, rfl, op2 rfl rfl rfl, ?_⟩
          have := s3 i hi
          unfold near; omega
      rw [List.length_map] at d2
      refine ⟨as1 ++ [intL (zs ++ [draw c 110 % 9])], by rw [List.length_append]; simp; omega, fun r hr => ?_, (if_t ((qv (op2 rfl rfl (eq_int _ _))).trans ?_)).trans (set_ok (op2 rfl (el (ac (op2 (el d1) (el (ac (op2 (hd _ _ _ rfl rfl) rfl (mod_ok (by decide))) rfl)) ((add_list ?_).trans ?_)) rfl)) (add_list ?_)))⟩
      · rcases List.mem_append.mp hr with h | h
        · exact a3 r h
        · rw [List.mem_singleton.mp h]
          refine row_of ?_ fun y hy => ?_
          · rw [List.length_append, d2]; simp; omega
          · rcases List.mem_append.mp hy with h | h
            · exact d3 y h
            · rw [List.mem_singleton.mp h]; unfold near; omega
      · rw [decide_eq_true q]
      · rw [List.length_map, d2]; simp; omega
      · show R.ok (PyData.list (zs.map .int ++ [.int (draw c 110 % 9)])) = .ok (.list ((zs ++ [draw c 110 % 9]).map .int))
        rw [List.map_append]; rfl
      · simp; omega
    · refine ⟨as1, by omega, a3, (if_f ((qv (op2 rfl rfl (eq_int _ _))).trans ?_)).trans rfl⟩
      rw [decide_eq_false q]
  obtain ⟨as2, g3a, g3b, g3c⟩ := g3
  -- mode 3
  have g4 : ∃ gs3 : List D, (gs3.length : Int) = m ∧ (∀ r ∈ gs3, Row m r) ∧ sIf (qV (e2 opEq (eB 2) (eK (.int 3)))) (sSet (gN 5) (eL (cmp (iL (eB 5)) [9] (gN 9) qY (e2 opAdd (e2 opMul (eL (aC (eK (.int 0)) aN)) (eB 1)) (eSl (eB 9) (oS (eV 1)) oN))))) sNil
      [.sh (.int c), .sh (.int m), .sh (.int (draw c 3 % 4)), .sh (.list as2), .no, .sh (.list gs2), .sh (intL st), .no, .no, .no] = .next [.sh (.int c), .sh (.int m), .sh (.int (draw c 3 % 4)), .sh (.list as2), .no, .sh (.list gs3), .sh (intL st), .no, .no, .no] := by
    by_cases q : draw c 3 % 4 = 3
    · obtain ⟨gs3, c1, c2, c3⟩ := cmp_all (it := iL (eB 5)) (vs := [9]) (g := gN 9) (t := qY) (f := e2 opAdd (e2 opMul (eL (aC (eK (.int 0)) aN)) (eB 1)) (eSl (eB 9) (oS (eV 1)) oN))
        (e := [.sh (.int c), .sh (.int m), .sh (.int (draw c 3 % 4)), .sh (.list as2), .no, .sh (.list gs2), .sh (intL st), .no, .no, .no]) (Row m) (il rfl) (by unfold szL; omega) fun x hx => by
          obtain ⟨xs, rfl, l1, l2⟩ := g2b x hx
          refine ⟨_, intL (List.replicate m.toNat 0 ++ xs.drop m.toNat), rfl, rfl, op2 (op2 (el rfl) rfl (mul_list (by omega) (by omega))) (esl_from (xs := xs.map .int) rfl rfl (by omega)) ((add_list ?_).trans ?_), row_of ?_ fun y hy => ?_⟩
          · rw [List.length_map, List.length_replicate, List.length_drop, List.length_map]; omega
          · show R.ok (PyData.list ((List.replicate m.toNat (0 : Int)).map .int ++ (xs.map .int).drop m.toNat)) = .ok (.list ((List.replicate m.toNat 0 ++ xs.drop m.toNat).map .int))
            rw [List.map_append, List.map_drop]
          · rw [List.length_append, List.length_replicate, List.length_drop]; omega
          · rcases List.mem_append.mp hy with h | h
            · rw [(List.mem_replicate.mp h).2]; unfold near; omega
            · exact l2 y (List.mem_of_mem_drop h)
      exact ⟨gs3, by rw [c2]; exact g2a, c3, (if_t ((qv (op2 rfl rfl (eq_int _ _))).trans (by rw [decide_eq_true q]))).trans (set_ok (el c1))⟩
    · exact ⟨gs2, g2a, g2b, (if_f ((qv (op2 rfl rfl (eq_int _ _))).trans (by rw [decide_eq_false q]))).trans rfl⟩
  obtain ⟨gs3, g4a, g4b, g4c⟩ := g4
  refine ⟨.tuple [.list as2, .list gs3], fn_ret ?_, as2, gs3, rfl, g3a, g4a, g3b, g4b⟩
  refine (seq_next (set_ok (op2 (hd _ _ _ rfl rfl) rfl (mod_ok (by decide))))).trans ?_
  refine (seq_next (set_ok (el a1))).trans ?_
  refine (seq_next (set_ok (el b1))).trans ?_
  refine (seq_next (set_ok (el s1))).trans ?_
  refine (seq_next g2c).trans ((seq_next g3c).trans ((seq_next g4c).trans (ret_ok (et (ac rfl (ac rfl rfl))))))
end
end PL

namespace PL
open PySem
theorem m_far {m : Int} {d : D} (h : Row m d) (h3 : m ≤ 3) : ∃ d', m_law_far [d] = .ok d' ∧ Row m d' := by
  obtain ⟨xs, rfl, l1, l2⟩ := h
  obtain ⟨zs, d1, d2, d3⟩ := cmp_ints (it := iL (eB 0)) (vs := [1]) (g := gN 1) (t := qY) (f := eC bMax2 (aC (e1 opNeg (eK (.int 1000))) (aC (eC bMin2 (aC (eK (.int 1000)) (aC (e2 opMul (eK (.int 250)) (eB 1)) aN))) aN))) (e := [.sh (intL xs), .no]) near
    (il rfl) (by rw [List.length_map]; omega) fun x hx => by
      obtain ⟨i, hi, rfl⟩ := List.mem_map.mp hx
      refine ⟨_, _, rfl, rfl, cl2 (op1 (o := opNeg) (x := .int 1000) rfl rfl) (cl2 rfl (op2 rfl rfl (mul_l (by decide) (by decide))) rfl) rfl, ?_⟩
      unfold near
      split <;> split <;> omega
  rw [List.length_map] at d2
  exact ⟨intL zs, fn_ret (ret_ok (el d1)), row_of (by rw [d2]; exact l1) d3⟩
theorem m_fars {m : Int} {e : Env} {f : EF} {i : Nat} {rs : List D} (h : ∀ r ∈ rs, Row m r) (h3 : m ≤ 3) (hl : rs.length ≤ 1000) (hf : f e = .ok (.list rs)) (hi : ∀ x, eV i ((wip [i] e).set i (.sh x)) = .ok x) : ∃ rs', cmp (iL f) [i] (gN i) qY (eC m_law_far (aC (eV i) aN)) e = .ok rs' ∧ rs'.length = rs.length ∧ ∀ r ∈ rs', Row m r :=
  cmp_all (Row m) (il hf) (Nat.le_trans hl (by decide)) fun x hx => by
    obtain ⟨d, q1, q2⟩ := m_far (h x hx) h3
    exact ⟨_, d, rfl, rfl, cl1 (hi x) q1, q2⟩
theorem many_of {i : Int} (h1 : 0 ≤ i) (h2 : i < 8) : ∃ z : Int, opIx (intL [1, 2, 3, 1, 2, 2, 1, 3]) (.int i) = .ok (.int z) ∧ 1 ≤ z ∧ z ≤ 3 := by
  obtain ⟨z, _, hz, h⟩ := ix_ints (xs := [1, 2, 3, 1, 2, 2, 1, 3]) h1 h2
  have : ∀ z ∈ ([1, 2, 3, 1, 2, 2, 1, 3] : List Int), 1 ≤ z ∧ z ≤ 3 := by decide
  exact ⟨z, h, this z hz⟩
theorem size_of {i : Int} (h1 : 0 ≤ i) (h2 : i < 7) : ∃ z : Int, opIx (intL [1, 2, 1, 1, 2, 1, 3]) (.int i) = .ok (.int z) ∧ 1 ≤ z ∧ z ≤ 3 := by
  obtain ⟨z, _, hz, h⟩ := ix_ints (xs := [1, 2, 1, 1, 2, 1, 3]) h1 h2
  have : ∀ z ∈ ([1, 2, 1, 1, 2, 1, 3] : List Int), 1 ≤ z ∧ z ≤ 3 := by decide
  exact ⟨z, h, this z hz⟩
theorem m_loop_by {ns : List Int} {at_ : Int} (h0 : 0 ≤ at_) : ∃ m ws, m_law_loop_by [scri ns, .int at_] = .ok (lp m ws) ∧ Loop m ws := by
  obtain ⟨m, mq, m1, m3⟩ := many_of (i := cell ns at_ % 8) (by omega) (by omega)
  obtain ⟨k, kq, k1, k3⟩ := size_of (i := cell ns at_ / 8 % 7) (by omega) (by omega)
  obtain ⟨ws, a1, a2, a3⟩ := cmp_all (it := iR1 (eV 4)) (vs := [6]) (g := gN 6) (t := qY) (f := eC m_law_way_by (aC (eC m_law_cell_at (aC (eV 0) (aC (e2 opAdd (e2 opAdd (eB 1) (eK (.int 1))) (eB 6)) aN))) (aC (eV 3) aN)))
    (e := [.sh (scri ns), .sh (.int at_), .sh (.int (cell ns at_)), .sh (.int m), .sh (.int k), .no, .no, .no, .no, .no, .no]) (Way m) (ir1 rfl (by omega) (by omega)) (by rw [rng_length]; unfold szL; omega) fun x hx => by
      obtain ⟨j, rfl, j1, _⟩ := rng_mem hx
      obtain ⟨d, q1, q2⟩ := m_way_by (c := cell ns (at_ + 1 + j)) m1 m3
      exact ⟨_, d, rfl, rfl, cl2 (cl2 rfl (op2 (op2 rfl rfl rfl) rfl rfl) (m_cell (by omega))) rfl q1, q2⟩
  rw [rng_length] at a2
  have g5 : ∃ ws2 v7 v8 v9 : _, ws2.length = ws.length ∧ (∀ w ∈ ws2, Way m w) ∧ sIf (qV (e2 opEq (e2 opMod (e2 opDiv (eB 2) (eK (.int 56))) (eK (.int 8))) (eK (.int 5)))) (sSeq (sOwn 7 aN)
  (sSeq (sFor (iL (eV 5)) (gT [(gN 8), (gN 9)]) (sApp 7 (eT (aC (eL (cmp (iL (eB 8)) [10] (gN 10) qY (eC m_law_far (aC (eV 10) aN)))) (aC (eL (cmp (iL (eB 9)) [10] (gN 10) qY (eC m_law_far (aC (eV 10) aN)))) aN)))))
  (sFrz 7 (sSet (gN 5) (eV 7))))) sNil [.sh (scri ns), .sh (.int at_), .sh (.int (cell ns at_)), .sh (.int m), .sh (.int k), .sh (.list ws), .no, .no, .no, .no, .no] = .next [.sh (scri ns), .sh (.int at_), .sh (.int (cell ns at_)), .sh (.int m), .sh (.int k), .sh (.list ws2), .no, v7, v8, v9, .no] := by
    by_cases q : cell ns at_ / 56 % 8 = 5
    · obtain ⟨e', l1, acc, v8, v9, l2, l3, l4⟩ := fLoop_inv (g := gT [(gN 8), (gN 9)]) (b := sApp 7 (eT (aC (eL (cmp (iL (eB 8)) [10] (gN 10) qY (eC m_law_far (aC (eV 10) aN)))) (aC (eL (cmp (iL (eB 9)) [10] (gN 10) qY (eC m_law_far (aC (eV 10) aN)))) aN))))
        (fun i e => ∃ (acc : List D) (v8 v9 : SV), acc.length = i ∧ (∀ w ∈ acc, Way m w) ∧ e = [.sh (scri ns), .sh (.int at_), .sh (.int (cell ns at_)), .sh (.int m), .sh (.int k), .sh (.list ws), .no, .ow acc, v8, v9, .no])
        (xs := ws) (e := [.sh (scri ns), .sh (.int at_), .sh (.int (cell ns at_)), .sh (.int m), .sh (.int k), .sh (.list ws), .no, .ow [], .no, .no, .no]) ⟨[], .no, .no, rfl, (fun _ h => by cases h), rfl⟩ fun i hi e ⟨acc, v8, v9, h1, h2, h3⟩ => by
          subst h3
          obtain ⟨asks, gives, ew, w1, w2, w3, w4⟩ := a3 _ (List.getElem_mem hi)
          obtain ⟨as', f1, f2, f3⟩ := m_fars (i := 10) (f := eB 8) (e := [.sh (scri ns), .sh (.int at_), .sh (.int (cell ns at_)), .sh (.int m), .sh (.int k), .sh (.list ws), .no, .ow acc, .sh (.list asks), .sh (.list gives), .no]) w3 m3 (by omega) rfl fun _ => rfl
          obtain ⟨gs', f4, f5, f6⟩ := m_fars (i := 10) (f := eB 9) (e := [.sh (scri ns), .sh (.int at_), .sh (.int (cell ns at_)), .sh (.int m), .sh (.int k), .sh (.list ws), .no, .ow acc, .sh (.list asks), .sh (.list gives), .no]) w4 m3 (by omega) rfl fun _ => rfl
          refine ⟨[.sh (scri ns), .sh (.int at_), .sh (.int (cell ns at_)), .sh (.int m), .sh (.int k), .sh (.list ws), .no, .ow acc, .sh (.list asks), .sh (.list gives), .no], _, by rw [ew]; rfl, ?_, acc ++ [.tuple [.list as', .list gs']], .sh (.list asks), .sh (.list gives), by rw [List.length_append, h1]; rfl, fun w hw => ?_, rfl⟩
          · show (eT (aC (eL (cmp (iL (eB 8)) [10] (gN 10) qY (eC m_law_far (aC (eV 10) aN)))) (aC (eL (cmp (iL (eB 9)) [10] (gN 10) qY (eC m_law_far (aC (eV 10) aN)))) aN)) _).out _ = _
            rw [et (ac (el f1) (ac (el f4) rfl))]
            show (if acc.length < szL then _ else _) = _
            rw [if_pos (by unfold szL; omega)]
            rfl
          · rcases List.mem_append.mp hw with h | h
            · exact h2 w h
            · rw [List.mem_singleton.mp h]
              exact ⟨as', gs', rfl, by omega, by omega, f3, f6⟩
      refine ⟨acc, .sh (.list acc), v8, v9, l2, l3, (if_t ((qv (op2 (op2 (op2 rfl rfl (div_ok (by decide) (by decide))) rfl (mod_ok (by decide))) rfl (eq_int _ _))).trans (by rw [decide_eq_true q]))).trans ?_⟩
      refine (seq_next rfl).trans ((seq_next (e' := e') ?_).trans ?_)
      · show (iL (eV 5) _).out _ = _
        rw [il (xs := ws) rfl]
        exact l1
      · rw [l4]; rfl
    · exact ⟨ws, .no, .no, .no, rfl, a3, (if_f ((qv (op2 (op2 (op2 rfl rfl (div_ok (by decide) (by decide))) rfl (mod_ok (by decide))) rfl (eq_int _ _))).trans (by rw [decide_eq_false q]))).trans rfl⟩
  obtain ⟨ws2, v7, v8, v9, b1, b2, b3⟩ := g5
  refine ⟨m, ws2, fn_ret ?_, m1, m3, by omega, by omega, b2⟩
  refine (seq_next (set_ok (cl2 rfl rfl (m_cell h0)))).trans ?_
  refine (seq_next (set_ok (op2 (el rfl) (op2 rfl rfl (mod_ok (by decide))) mq))).trans ?_
  refine (seq_next (set_ok (op2 (el rfl) (op2 (op2 rfl rfl (div_ok (by decide) (by decide))) rfl (mod_ok (by decide))) kq))).trans ?_
  refine (seq_next (set_ok (el a1))).trans ((seq_next b3).trans (ret_ok (et (ac rfl (ac rfl rfl)))))
end PL

namespace PL
open PySem
/-! ### copies -/
def cpy : Nat → D → Prop
  | 0, _ => False
  | n + 1, d => match d with
    | .list xs => xs.length ≤ szL ∧ ∀ x ∈ xs, cpy n x
    | .tuple xs => xs.length ≤ szL ∧ ∀ x ∈ xs, cpy n x
    | .dict (_ :: _) => False
    | _ => True
theorem m_copied : ∀ {n : Nat} {d : D}, cpy n d → m_law_copied n [d] = .ok d
  | 0, _, h => h.elim
  | n + 1, d, h => by
    show fnR 2 (b_law_copied (m_law_copied n)) [d] = _
    have hs : isScr d = false := by
      cases d with
      | dict kvs => cases kvs with | nil => rfl | cons => exact (show False from h).elim
      | _ => rfl
    have h1 : bIsi .list [d] = .ok (.bool (isTy .list d)) := by
      show (if isScr d = true then R.stk else _) = _
      rw [hs]; rfl
    have h2 : bIsi .tuple [d] = .ok (.bool (isTy .tuple d)) := by
      show (if isScr d = true then R.stk else _) = _
      rw [hs]; rfl
    have comp : ∀ (xs : List D) (it : LF) (e : Env), xs.length ≤ szL → (∀ x ∈ xs, cpy n x) → it e = .ok xs → (∀ x, eV 1 ((wip [1] e).set 1 (.sh x)) = .ok x) → cmp it [1] (gN 1) qY (eC (m_law_copied n) (aC (eV 1) aN)) e = .ok xs := fun xs it e hl hx hf he => by
      have := cmp_map (it := it) (vs := [1]) (g := gN 1) (t := qY) (f := eC (m_law_copied n) (aC (eV 1) aN)) (e := e) (fun d => d) hf hl fun x hx' => ⟨_, rfl, rfl, cl1 (he x) (m_copied (hx x hx'))⟩
      rw [this, List.map_id']
    cases d with
    | list xs => exact fn_ret (seq_ret ((if_t (qv (cl1 rfl h1))).trans (ret_ok (el (comp xs _ _ h.1 h.2 rfl fun _ => rfl)))))
    | tuple xs => exact fn_ret ((seq_next ((if_f (qv (cl1 rfl h1))).trans rfl)).trans (seq_ret ((if_t (qv (cl1 rfl h2))).trans (ret_ok (cl1 (el (comp xs (iT (eV 0)) _ h.1 h.2 rfl fun _ => rfl)) rfl)))))
    | _ => exact fn_ret ((seq_next ((if_f (qv (cl1 rfl h1))).trans rfl)).trans ((seq_next ((if_f (qv (cl1 rfl h2))).trans rfl)).trans (ret_ok rfl)))
mutual
theorem same_refl : ∀ (n : Nat) (d : D), cpy n d → same d d = true
  | 0, _, h => h.elim
  | n + 1, .list xs, h => by unfold same; exact sameAll_refl n xs h.2
  | n + 1, .tuple xs, h => by unfold same; exact sameAll_refl n xs h.2
  | n + 1, .dict [], _ => by unfold same; rfl
  | n + 1, .dict (_ :: _), h => h.elim
  | n + 1, .none, _ => by unfold same; rfl
  | n + 1, .bool b, _ => by unfold same; simp
  | n + 1, .int b, _ => by unfold same; simp
  | n + 1, .str b, _ => by unfold same; simp
theorem sameAll_refl : ∀ (n : Nat) (xs : List D), (∀ x ∈ xs, cpy n x) → sameAll xs xs = true
  | _, [], _ => by unfold sameAll; rfl
  | n, x :: xs, h => by
    unfold sameAll
    rw [same_refl n x (h x List.mem_cons_self), sameAll_refl n xs fun y hy => h y (List.mem_cons_of_mem _ hy)]; rfl
end
mutual
theorem low_of : ∀ (n k : Nat) (d : D), cpy n d → n ≤ k → lowD k d = true
  | 0, _, _, h, _ => h.elim
  | n + 1, k + 1, .list xs, h, hk => by unfold lowD; exact lowAll_of n k xs h.2 (Nat.le_of_succ_le_succ hk)
  | n + 1, k + 1, .tuple xs, h, hk => by unfold lowD; exact lowAll_of n k xs h.2 (Nat.le_of_succ_le_succ hk)
  | n + 1, k + 1, .dict [], _, _ => by unfold lowD; rfl
  | n + 1, _, .dict (_ :: _), h, _ => h.elim
  | n + 1, k + 1, .none, _, _ => by unfold lowD; rfl
  | n + 1, k + 1, .bool b, _, _ => by unfold lowD; rfl
  | n + 1, k + 1, .int b, _, _ => by unfold lowD; rfl
  | n + 1, k + 1, .str b, _, _ => by unfold lowD; rfl
theorem lowAll_of : ∀ (n k : Nat) (xs : List D), (∀ x ∈ xs, cpy n x) → n ≤ k → lowAll k xs = true
  | _, _, [], _, _ => by unfold lowAll; rfl
  | n, k, x :: xs, h, hk => by
    unfold lowAll
    rw [low_of n k x (h x List.mem_cons_self) hk, lowAll_of n k xs (fun y hy => h y (List.mem_cons_of_mem _ hy)) hk]; rfl
end
theorem eqD_refl {n : Nat} {d : D} (h : cpy n d) (hn : n ≤ 20) (hd : isDic d = false) : eqD d d = .ok true := by
  unfold eqD
  rw [same_refl n d h, low_of n 20 d h hn, hd]; rfl
theorem ne_refl {n : Nat} {d : D} (h : cpy n d) (hn : n ≤ 20) (hd : isDic d = false) : opNe d d = .ok (.bool false) := by
  unfold opNe; rw [eqD_refl h hn hd]; rfl
theorem cpy_ints {xs : List Int} {n : Nat} (h : xs.length ≤ 1000) : cpy (n + 2) (intL xs) := ⟨by rw [List.length_map]; exact Nat.le_trans h (by decide), fun x hx => by obtain ⟨y, _, rfl⟩ := List.mem_map.mp hx; trivial⟩
theorem cpy_row {m : Int} {d : D} {n : Nat} (h : Row m d) (h3 : m ≤ 3) : cpy (n + 2) d := by
  obtain ⟨xs, rfl, l1, l2⟩ := h
  exact cpy_ints (by omega)
theorem cpy_way {m : Int} {d : D} {n : Nat} (h : Way m d) (h3 : m ≤ 3) : cpy (n + 4) d := by
  obtain ⟨asks, gives, rfl, h1, h2, h4, h5⟩ := h
  refine ⟨(by decide : 2 ≤ 16777216), fun x hx => ?_⟩
  rcases List.mem_cons.mp hx with rfl | hx
  · exact ⟨by unfold szL; omega, fun r hr => cpy_row (h4 r hr) h3⟩
  · rw [List.mem_singleton.mp hx]
    exact ⟨by unfold szL; omega, fun r hr => cpy_row (h5 r hr) h3⟩
theorem cpy_loop {m : Int} {ws : List D} {n : Nat} (h : Loop m ws) : cpy (n + 6) (lp m ws) := by
  refine ⟨(by decide : 2 ≤ 16777216), fun x hx => ?_⟩
  rcases List.mem_cons.mp hx with rfl | hx
  · trivial
  · rw [List.mem_singleton.mp hx]
    exact ⟨by have := h.2.2.2.1; unfold szL; omega, fun r hr => cpy_way (h.2.2.2.2 r hr) h.2.1⟩
end PL

namespace PL
open PySem
/-- what is none of the five -/
def Odd (d : D) : Prop := noScr d ∧ isScr d = false ∧ isWh d = false
def BadS (m : Int) (d : D) : Prop := noScr d ∧ arW m d = false
theorem odd_of {i : Int} (h1 : 0 ≤ i) (h2 : i < 6) : ∃ o, opIx (.list [.none, .bool true, .str "0", .list [.int 0], .tuple [.int 0], .bool false]) (.int i) = .ok o ∧ Odd o := by
  obtain ⟨o, _, ho, h⟩ := ix_list (xs := [.none, .bool true, .str "0", .list [.int 0], .tuple [.int 0], .bool false]) h1 h2
  refine ⟨o, h, ?_⟩
  simp only [List.mem_cons, List.not_mem_nil, or_false] at ho
  rcases ho with rfl | rfl | rfl | rfl | rfl | rfl
  · exact ⟨trivial, rfl, rfl⟩
  · exact ⟨trivial, rfl, rfl⟩
  · exact ⟨trivial, rfl, rfl⟩
  · exact ⟨⟨by decide, by intro x hx; simp at hx; subst hx; rfl⟩, rfl, rfl⟩
  · exact ⟨trivial, rfl, rfl⟩
  · exact ⟨trivial, rfl, rfl⟩
theorem arW_len {n : Int} {xs : List D} (h : (xs.length : Int) ≠ n) : arW n (.list xs) = false := by
  show (decide ((xs.length : Int) = n) && _) = false
  rw [decide_eq_false h]; rfl
theorem arW_odd {n : Int} {xs : List D} {o : D} (h : o ∈ xs) (ho : Odd o) : arW n (.list xs) = false := by
  show (_ && xs.all isWh) = false
  have : xs.all isWh = false := by
    rw [List.all_eq_false]
    exact ⟨o, h, by rw [ho.2.2]; decide⟩
  rw [this, Bool.and_false]
theorem noScr_mem {xs : List D} (h : xs.length ≤ 1000) (h2 : ∀ x ∈ xs, isScr x = false) : noScr (.list xs) := ⟨Nat.le_trans h (by decide), h2⟩
theorem scr_ints {xs : List Int} : ∀ x ∈ xs.map PyData.int, isScr x = false := fun x hx => by obtain ⟨y, _, rfl⟩ := List.mem_map.mp hx; rfl
theorem esl_to {f g : EF} {e : Env} {xs : List D} {m : Int} (h : f e = .ok (.list xs)) (h2 : g e = .ok (.int m)) (h1 : 0 ≤ m) : eSl f oN (oS g) e = .ok (.list (xs.take m.toNat)) := by
  unfold eSl oS oN
  rw [h, R.bind_ok, R.bind_ok, h2]
  show R.ok (PyData.list ((xs.drop (sIx xs.length 0 none)).take (sIx xs.length xs.length (some m) - sIx xs.length 0 none))) = _
  have e : sIx xs.length xs.length (some m) = min m.toNat xs.length := by
    show (if m < 0 then (m + (xs.length : Int)).toNat else min m.toNat xs.length) = _
    rw [if_neg (by omega)]
  have e2 : sIx xs.length 0 none = 0 := rfl
  rw [e, e2, Nat.sub_zero, List.drop_zero]
  congr 2
  rcases Nat.le_total m.toNat xs.length with h | h
  · rw [Nat.min_eq_left h]
  · rw [Nat.min_eq_right h, List.take_length, List.take_of_length_le h]
theorem eq_str {a b : Str} (h : eqD (.str a) (.str b) = .ok true) : opEq (.str a) (.str b) = .ok (.bool true) ∧ opNe (.str a) (.str b) = .ok (.bool false) := by
  unfold opEq opNe; rw [h]; exact ⟨rfl, rfl⟩
theorem eq_self (a : Str) : eqD (.str a) (.str a) = .ok true := eqD_refl (n := 1) trivial (by decide) rfl
end PL

namespace PL
open PySem
theorem for_ok {it : LF} {g : GF} {b : SF} {e : Env} {xs : List D} {o : Out} (h : it e = .ok xs) (h2 : fLoop g b xs e = o) : sFor it g b e = o := by unfold sFor; rw [h]; exact h2
/-! ### worths and where a way leads -/
def wd (d : D) (ys : List Int) : Int := match m_worth [d, intL ys] with | .ok (.int w) => w | _ => 0
abbrev St_ (m : Int) (ys : List Int) : Prop := (ys.length : Int) = m
theorem row_split {m : Int} {d : D} (h : Row m d) (h1 : 1 ≤ m) : ∃ xs z, d = intL (xs ++ [z]) ∧ (xs.length : Int) = m ∧ ∀ a ∈ xs ++ [z], near a := by
  obtain ⟨rs, rfl, l1, l2⟩ := h
  obtain ⟨xs, z, rfl⟩ : ∃ xs z, rs = xs ++ [z] := by
    cases h : rs.reverse with
    | nil => rw [List.reverse_eq_nil_iff.mp h] at l1; simp at l1; omega
    | cons z r => exact ⟨r.reverse, z, by rw [← List.reverse_reverse rs, h, List.reverse_cons]⟩
  exact ⟨xs, z, rfl, by rw [List.length_append] at l1; simp at l1; omega, l2⟩
theorem take_sum {l : List Int} {i : Nat} (h : i < l.length) : (l.take (i + 1)).sum = (l.take i).sum + l[i] := by
  rw [← List.take_concat_get h, List.concat_eq_append, List.sum_append]; simp
theorem dotL_get {xs ys : List Int} {i : Nat} (h1 : i < xs.length) (h2 : i < ys.length) : ∃ h : i < (dotL xs ys).length, (dotL xs ys)[i] = xs[i] * ys[i] := by
  refine ⟨by unfold dotL; rw [List.length_zipWith]; omega, ?_⟩
  unfold dotL
  rw [List.getElem_zipWith]
theorem m_worth_near {xs ys : List Int} {z : Int} (hz' : ∀ a ∈ xs ++ [z], near a) (hl : ys.length ≤ xs.length) (hs : xs.length ≤ 1000) : m_worth [intL (xs ++ [z]), intL ys] = .ok (.int (dot (xs ++ [z]) ys + z)) := by
  have hc : cmp (iZ (eB 0) (eB 1)) [3, 4] (gT [(gN 3), (gN 4)]) qY (e2 opMul (eB 3) (eB 4)) [.sh (intL (xs ++ [z])), .sh (intL ys), .no, .no, .no] = .ok ((dotL (xs ++ [z]) ys).map .int) := by
    rw [← zip_mul]
    refine cmp_map mulD rfl ?_ fun d hd => ?_
    · have := zip_len (xs ++ [z]) ys
      rw [List.length_append] at this
      unfold szL
      simp at this ⊢
      omega
    · obtain ⟨a, b, rfl, ha, hb⟩ := zip_mem hd
      have := hz' a ha
      exact ⟨_, rfl, rfl, op2 rfl rfl (mul_l (by omega) (by omega))⟩
  have hi : opIx (intL (xs ++ [z])) (.int (-1)) = .ok (.int z) := by
    show opIx (.list ((xs ++ [z]).map .int)) _ = _
    rw [List.map_append]
    exact ix_last (xs.map .int) (.int z)
  have hlt : decide (((ys.map PyData.int).length : Int) < (((xs ++ [z]).map PyData.int).length : Int)) = true := by
    rw [decide_eq_true]
    rw [List.length_map, List.length_map, List.length_append]
    simp
    omega
  refine fn_ret ((seq_next (set_ok (d := .int (dot (xs ++ [z]) ys)) (cl1 (el hc) (sum_ints _)))).trans ((seq_next ((if_t ?_).trans (set_ok (d := .int (dot (xs ++ [z]) ys + z)) (op2 (x := .int (dot (xs ++ [z]) ys)) (y := .int z) rfl (op2 rfl (op1 (o := opNeg) (x := .int 1) rfl rfl) hi) rfl)))).trans (ret_ok rfl)))
  exact (qv (op2 (cl1 rfl rfl) (cl1 rfl rfl) rfl)).trans (by rw [hlt])
theorem m_lworth {xs ys : List Int} {z : Int} (hz' : ∀ a ∈ xs ++ [z], near a) (hl : ys.length ≤ xs.length) (hs : xs.length ≤ 1000) : m_law_worth [intL (xs ++ [z]), intL ys] = .ok (.int (dot (xs ++ [z]) ys + z)) := by
  have hi : opIx (intL (xs ++ [z])) (.int (-1)) = .ok (.int z) := by
    show opIx (.list ((xs ++ [z]).map .int)) _ = _
    rw [List.map_append]
    exact ix_last (xs.map .int) (.int z)
  have ll : (dotL (xs ++ [z]) ys).length = ys.length := by
    unfold dotL
    rw [List.length_zipWith, List.length_append]
    simp
    omega
  obtain ⟨e', f1, v3, f2⟩ := fLoop_inv (g := gN 3) (b := sSet (gN 2) (e2 opAdd (eB 2) (e2 opMul (e2 opIx (eB 0) (eV 3)) (e2 opIx (eB 1) (eV 3)))))
    (fun i e => ∃ v3, e = [.sh (intL (xs ++ [z])), .sh (intL ys), .sh (.int (((dotL (xs ++ [z]) ys).take i).sum + z)), v3]) (xs := rng 0 ys.length) (e := [.sh (intL (xs ++ [z])), .sh (intL ys), .sh (.int z), .no]) ⟨.no, by simp⟩ fun i hi e ⟨v3, he⟩ => by
      subst he
      rw [rng_length] at hi
      have hi' : i < ys.length := by omega
      have e1 : (rng 0 ys.length)[i]'(by rw [rng_length]; omega) = .int (i : Int) := by
        unfold rng
        rw [List.getElem_map, List.getElem_range, Int.zero_add]
      obtain ⟨p, q1, q2, q3⟩ := ix_ints (xs := xs ++ [z]) (k := (i : Int)) (by omega) (by rw [List.length_append]; simp; omega)
      obtain ⟨r, r1, r2, r3⟩ := ix_ints (xs := ys) (k := (i : Int)) (by omega) (by omega)
      refine ⟨_, _, by rw [e1]; rfl, set_ok (op2 rfl (op2 (op2 rfl rfl q3) (op2 rfl rfl r3) (mul_l (by have := hz' p q2; omega) (by have := hz' p q2; omega))) rfl), .sh (.int i), ?_⟩
      have hx : i < (xs ++ [z]).length := by rw [List.length_append]; simp; omega
      obtain ⟨h3, h4⟩ := dotL_get hx hi'
      rw [Int.toNat_natCast, List.getElem?_eq_getElem hx] at q1
      rw [Int.toNat_natCast, List.getElem?_eq_getElem hi'] at r1
      cases q1
      cases r1
      rw [take_sum h3, h4]
      show [SV.sh _, SV.sh _, SV.sh (.int (((dotL (xs ++ [z]) ys).take i).sum + z + (xs ++ [z])[i] * ys[i])), SV.sh (.int i)] = _
      rw [Int.add_right_comm]
  refine fn_ret ((seq_next (set_ok (op2 rfl (op1 (o := opNeg) (x := .int 1) rfl rfl) hi))).trans ((seq_next (e' := e') ?_).trans ?_))
  · show (iR1 _ _).out _ = _
    rw [ir1 (n := ((ys.map PyData.int).length : Int)) (cl1 rfl rfl) (by omega) (by rw [List.length_map]; omega), List.length_map]
    exact f1
  · rw [f2]
    refine ret_to rfl ?_
    rw [rng_length, List.take_of_length_le (by rw [ll]; omega)]; rfl
theorem wd_ok {m : Int} {d : D} {ys : List Int} (h : Row m d) (h1 : 1 ≤ m) (h3 : m ≤ 3) (hy : St_ m ys) : m_worth [d, intL ys] = .ok (.int (wd d ys)) ∧ m_law_worth [d, intL ys] = .ok (.int (wd d ys)) := by
  obtain ⟨xs, z, rfl, l1, l2⟩ := row_split h h1
  have hy' : (ys.length : Int) = m := hy
  have a := m_worth_near (ys := ys) l2 (by omega) (by omega)
  have b := m_lworth (ys := ys) l2 (by omega) (by omega)
  have e : wd (intL (xs ++ [z])) ys = dot (xs ++ [z]) ys + z := by unfold wd; rw [a]
  rw [e]
  exact ⟨a, b⟩
/-- a comprehension with a test -/
theorem cLoop_filter {g : GF} {t : TF} {f : EF} {e : Env} (p : D → Bool) (F : D → D) : ∀ {xs : List D}, (∀ x ∈ xs, ∃ e1, g x e = .ok e1 ∧ t e1 = .ok (p x) ∧ (p x = true → f e1 = .ok (F x))) → cLoop g t f e xs = .ok ((xs.filter p).map F)
  | [], _ => rfl
  | x :: xs, h => by
    obtain ⟨e1, h1, h2, h3⟩ := h x List.mem_cons_self
    have ih := cLoop_filter p F (xs := xs) fun y hy => h y (List.mem_cons_of_mem _ hy)
    unfold cLoop
    rw [h1, R.calm_ok, R.bind_ok, h2, R.calm_ok, R.bind_ok, ih, List.filter_cons]
    cases e : p x with
    | true => rw [if_pos rfl, if_pos rfl, h3 e]; rfl
    | false => rw [if_neg Bool.false_ne_true, if_neg Bool.false_ne_true]
theorem cmp_filter {g : GF} {t : TF} {f : EF} {e : Env} {it : LF} {vs : List Nat} (p : D → Bool) (F : D → D) {xs : List D} (hi : it e = .ok xs) (hl : xs.length ≤ szL) (h : ∀ x ∈ xs, ∃ e1, g x (wip vs e) = .ok e1 ∧ t e1 = .ok (p x) ∧ (p x = true → f e1 = .ok (F x))) : cmp it vs g t f e = .ok ((xs.filter p).map F) := by
  unfold cmp
  rw [hi, R.bind_ok, if_pos hl]
  exact cLoop_filter p F h
theorem flat_ints : ∀ (xs : List Int) (n : Nat), flatAll n (xs.map PyData.int) = true
  | [], _ => rfl
  | x :: xs, n => by show (flatD n (.int x) && flatAll n (xs.map PyData.int)) = true; rw [flat_ints xs n]; unfold flatD; rfl
theorem flat_row {m : Int} {d : D} (h : Row m d) : flatD 19 d = true := by
  obtain ⟨xs, rfl, _, _⟩ := h
  exact flat_ints xs 18
theorem flat_rows {m : Int} : ∀ {ds : List D}, (∀ d ∈ ds, Row m d) → flatAll 19 ds = true
  | [], _ => rfl
  | d :: ds, h => by
    show (flatD 19 d && flatAll 19 ds) = true
    rw [flat_row (h d List.mem_cons_self), flat_rows fun y hy => h y (List.mem_cons_of_mem _ hy)]; rfl
theorem ne_nil {m : Int} {ds : List D} (h : ∀ d ∈ ds, Row m d) : opNe (.list ds) (.list []) = .ok (.bool (!ds.isEmpty)) := by
  cases ds with
  | nil => exact ne_refl (n := 1) ⟨by decide, fun _ h => by cases h⟩ (by decide) rfl
  | cons d ds =>
    have e : eqD (.list (d :: ds)) (.list []) = .ok false := by
      unfold eqD
      have e1 : same (.list (d :: ds)) (.list []) = false := rfl
      have e2 : flatD 20 (.list (d :: ds)) = true := flat_rows h
      have e3 : flatD 20 (.list []) = true := rfl
      rw [e1, e2, e3]
      rfl
    unfold opNe
    rw [e]; rfl
/-- where a way leads -/
def blocked (asks : List D) (ys : List Int) : Bool := asks.any fun r => decide (wd r ys < 0)
def ledv (w : D) (ys : List Int) : D := match w with
  | .tuple [.list asks, .list gives] => if blocked asks ys then .none else intL (gives.map fun r => wd r ys)
  | _ => .none
theorem filt_empty (asks : List D) (p : D → Bool) : ((asks.filter p).map fun d => d).isEmpty = !asks.any p := by
  induction asks with
  | nil => rfl
  | cons a asks ih =>
    rw [List.filter_cons, List.any_cons]
    cases h : p a with
    | true => rw [if_pos rfl]; rfl
    | false => rw [if_neg Bool.false_ne_true, ih]; rfl
section
variable {m : Int} {w : D} {ys : List Int}
theorem m_led_ok (h : Way m w) (h1 : 1 ≤ m) (h3 : m ≤ 3) (hy : St_ m ys) : m_led [w, intL ys] = .ok (ledv w ys) := by
  obtain ⟨asks, gives, rfl, h2, h4, h5, h6⟩ := h
  have hc : cmp (iL (e2 opIx (eB 0) (eK (.int 0)))) [2] (gN 2) (qV (e2 opLt (eC m_worth (aC (eV 2) (aC (eV 1) aN))) (eK (.int 0)))) (eV 2) [.sh (.tuple [.list asks, .list gives]), .sh (intL ys), .no] = .ok ((asks.filter fun r => decide (wd r ys < 0)).map fun d => d) :=
    cmp_filter _ _ (il (op2 rfl rfl rfl)) (by unfold szL; omega) fun x hx => ⟨_, rfl, qv (op2 (cl2 rfl rfl (wd_ok (h5 x hx) h1 h3 hy).1) rfl rfl), fun _ => rfl⟩
  have hq := qv (op2 (el hc) (el an) (ne_nil (m := m) (ds := (asks.filter fun r => decide (wd r ys < 0)).map fun d => d) fun d hd => by
    obtain ⟨x, hx, rfl⟩ := List.mem_map.mp hd
    exact h5 x (List.mem_filter.mp hx).1))
  rw [filt_empty, Bool.not_not] at hq
  cases hb : blocked asks ys with
  | true =>
    refine fn_ret (seq_ret ((if_t (hq.trans (by rw [show asks.any (fun r => decide (wd r ys < 0)) = true from hb]))).trans (ret_to rfl ?_)))
    unfold ledv
    dsimp only
    rw [hb]; rfl
  | false =>
    refine fn_ret ((seq_next ((if_f (hq.trans (by rw [show asks.any (fun r => decide (wd r ys < 0)) = false from hb]))).trans rfl)).trans (ret_to (el (cmp_map (fun r => .int (wd r ys)) (il (op2 rfl rfl rfl)) (by unfold szL; omega) fun x hx => ⟨_, rfl, rfl, cl2 rfl rfl (wd_ok (h6 x hx) h1 h3 hy).1⟩)) ?_))
    unfold ledv
    dsimp only
    rw [hb, if_neg Bool.false_ne_true]
    show _ = PyData.list ((gives.map fun r => wd r ys).map .int)
    rw [List.map_map]; rfl
theorem led_loop {way st : SV} {asks : List D} (hs : ∀ x v, m_law_worth [x, intL ys] = .ok (.int v) → True) : ∀ (as : List D) (v2 : SV), (∀ r ∈ as, Row m r) → 1 ≤ m → m ≤ 3 → St_ m ys →
    (blocked as ys = true → fLoop (gN 2) (sIf (qV (e2 opLt (eC m_law_worth (aC (eV 2) (aC (eV 1) aN))) (eK (.int 0)))) (sRet (eK .none)) sNil) as [way, .sh (intL ys), v2] = .ret .none) ∧
    (blocked as ys = false → ∃ v, fLoop (gN 2) (sIf (qV (e2 opLt (eC m_law_worth (aC (eV 2) (aC (eV 1) aN))) (eK (.int 0)))) (sRet (eK .none)) sNil) as [way, .sh (intL ys), v2] = .next [way, .sh (intL ys), v])
  | [], v2, _, _, _, _ => ⟨fun h => (by cases h), fun _ => ⟨v2, rfl⟩⟩
  | a :: as, v2, h, h1, h3, hy => by
    obtain ⟨ih1, ih2⟩ := led_loop (way := way) (st := st) (asks := asks) hs as (.sh a) (fun r hr => h r (List.mem_cons_of_mem _ hr)) h1 h3 hy
    have hw := (wd_ok (h a List.mem_cons_self) h1 h3 hy).2
    have hb : sIf (qV (e2 opLt (eC m_law_worth (aC (eV 2) (aC (eV 1) aN))) (eK (.int 0)))) (sRet (eK .none)) sNil [way, .sh (intL ys), .sh a] = if decide (wd a ys < 0) then .ret .none else .next [way, .sh (intL ys), .sh a] := (if_b (qv (op2 (cl2 rfl rfl hw) rfl rfl))).trans rfl
    have e : blocked (a :: as) ys = (decide (wd a ys < 0) || blocked as ys) := rfl
    have ef : fLoop (gN 2) (sIf (qV (e2 opLt (eC m_law_worth (aC (eV 2) (aC (eV 1) aN))) (eK (.int 0)))) (sRet (eK .none)) sNil) (a :: as) [way, .sh (intL ys), v2] = (match sIf (qV (e2 opLt (eC m_law_worth (aC (eV 2) (aC (eV 1) aN))) (eK (.int 0)))) (sRet (eK .none)) sNil [way, .sh (intL ys), .sh a] with
        | .next e' => fLoop (gN 2) (sIf (qV (e2 opLt (eC m_law_worth (aC (eV 2) (aC (eV 1) aN))) (eK (.int 0)))) (sRet (eK .none)) sNil) as e'
        | .cont e' => fLoop (gN 2) (sIf (qV (e2 opLt (eC m_law_worth (aC (eV 2) (aC (eV 1) aN))) (eK (.int 0)))) (sRet (eK .none)) sNil) as e'
        | .brk e' => .next e'
        | .ret d => .ret d
        | .err c => .err c
        | .stk => .stk) := rfl
    rw [e, ef, hb]
    cases hd : decide (wd a ys < 0) with
    | true => exact ⟨fun _ => rfl, fun q => by cases q⟩
    | false => exact ⟨fun q => ih1 q, fun q => ih2 q⟩
theorem m_lled_ok (h : Way m w) (h1 : 1 ≤ m) (h3 : m ≤ 3) (hy : St_ m ys) : m_law_led [w, intL ys] = .ok (ledv w ys) := by
  obtain ⟨asks, gives, rfl, h2, h4, h5, h6⟩ := h
  obtain ⟨q1, q2⟩ := led_loop (way := .sh (.tuple [.list asks, .list gives])) (st := .no) (asks := []) (fun _ _ _ => trivial) asks .no h5 h1 h3 hy
  have hf : ∀ o, fLoop (gN 2) (sIf (qV (e2 opLt (eC m_law_worth (aC (eV 2) (aC (eV 1) aN))) (eK (.int 0)))) (sRet (eK .none)) sNil) asks [.sh (.tuple [.list asks, .list gives]), .sh (intL ys), .no] = o → sFor (iL (e2 opIx (eB 0) (eK (.int 0)))) (gN 2) (sIf (qV (e2 opLt (eC m_law_worth (aC (eV 2) (aC (eV 1) aN))) (eK (.int 0)))) (sRet (eK .none)) sNil) [.sh (.tuple [.list asks, .list gives]), .sh (intL ys), .no] = o := fun o h => by
    show (iL _ _).out _ = o
    rw [il (xs := asks) (op2 rfl rfl rfl)]
    exact h
  cases hb : blocked asks ys with
  | true =>
    refine fn_ret (seq_ret ((hf _ (q1 hb)).trans ?_))
    unfold ledv
    dsimp only
    rw [hb]; rfl
  | false =>
    obtain ⟨v, q3⟩ := q2 hb
    refine fn_ret ((seq_next (hf _ q3)).trans (ret_to (el (cmp_map (fun r => .int (wd r ys)) (il (op2 rfl rfl rfl)) (by unfold szL; omega) fun x hx => ⟨_, rfl, rfl, cl2 rfl rfl (wd_ok (h6 x hx) h1 h3 hy).2⟩)) ?_))
    unfold ledv
    dsimp only
    rw [hb, if_neg Bool.false_ne_true]
    show _ = PyData.list ((gives.map fun r => wd r ys).map .int)
    rw [List.map_map]; rfl
end
end PL

namespace PL
open PySem
/-! ### loops while -/
theorem wLoop_succ {t : TF} {b : SF} : ∀ {n : Nat} {e : Env}, (wLoop t b n e).isStk = false → wLoop t b (n + 1) e = wLoop t b n e
  | 0, e, h => by cases h
  | n + 1, e, h => by
    have ih := fun e2 => wLoop_succ (t := t) (b := b) (n := n) (e := e2)
    show (t e).out _ = (t e).out _
    have h' : ((t e).out fun k => if k then (match b e with
      | .next e2 => wLoop t b n e2
      | .cont e2 => wLoop t b n e2
      | .brk e2 => .next e2
      | .ret d => .ret d
      | .err c => .err c
      | .stk => .stk) else .next e).isStk = false := h
    cases e1 : t e with
    | err c => rfl
    | stk => rfl
    | ok k =>
      rw [e1] at h'
      cases k with
      | false => rfl
      | true =>
        show (match b e with | .next e2 => wLoop t b (n + 1) e2 | .cont e2 => wLoop t b (n + 1) e2 | .brk e2 => .next e2 | .ret d => .ret d | .err c => .err c | .stk => .stk) = (match b e with | .next e2 => wLoop t b n e2 | .cont e2 => wLoop t b n e2 | .brk e2 => .next e2 | .ret d => .ret d | .err c => .err c | .stk => .stk)
        have h2 : (match b e with | .next e2 => wLoop t b n e2 | .cont e2 => wLoop t b n e2 | .brk e2 => .next e2 | .ret d => .ret d | .err c => .err c | .stk => .stk).isStk = false := h'
        cases e2 : b e with
        | next e3 => rw [e2] at h2; exact ih e3 h2
        | cont e3 => rw [e2] at h2; exact ih e3 h2
        | brk e3 => rfl
        | ret d => rfl
        | err c => rfl
        | stk => rfl
theorem wLoop_le {t : TF} {b : SF} {n k : Nat} {e : Env} (h : (wLoop t b n e).isStk = false) (hk : n ≤ k) : wLoop t b k e = wLoop t b n e := by
  induction hk with
  | refl => rfl
  | step _ ih => rw [wLoop_succ (by rw [ih]; exact h), ih]
theorem while_ok {t : TF} {b : SF} {n : Nat} {e : Env} {o : Out} (h : wLoop t b n e = o) (ho : o.isStk = false) : sWhile t b e = o := by
  have hx : ∃ n, (wLoop t b n e).isStk = false := ⟨n, by rw [h]; exact ho⟩
  unfold sWhile
  rw [dif_pos hx]
  have hc := Classical.choose_spec hx
  rcases Nat.le_total n (Classical.choose hx) with q | q
  · rw [wLoop_le (by rw [h]; exact ho) q, h]
  · rw [← wLoop_le hc q, h]
theorem w_stop {t : TF} {b : SF} {n : Nat} {e : Env} (h : t e = .ok false) : wLoop t b (n + 1) e = .next e := by
  show (t e).out _ = _
  rw [h]; rfl
theorem w_go {t : TF} {b : SF} {n : Nat} {e e2 : Env} (h : t e = .ok true) (hb : b e = .next e2) : wLoop t b (n + 1) e = wLoop t b n e2 := by
  show (t e).out _ = _
  rw [h]
  show (match b e with | .next e2 => wLoop t b n e2 | .cont e2 => wLoop t b n e2 | .brk e2 => .next e2 | .ret d => .ret d | .err c => .err c | .stk => .stk) = _
  rw [hb]
theorem w_ret {t : TF} {b : SF} {n : Nat} {e : Env} {d : D} (h : t e = .ok true) (hb : b e = .ret d) : wLoop t b (n + 1) e = .ret d := by
  show (t e).out _ = _
  rw [h]
  show (match b e with | .next e2 => wLoop t b n e2 | .cont e2 => wLoop t b n e2 | .brk e2 => .next e2 | .ret d => .ret d | .err c => .err c | .stk => .stk) = _
  rw [hb]
/-! ### the states of a run -/
theorem ledv_cases {m : Int} {w : D} (W : Way m w) (ys : List Int) : ledv w ys = .none ∨ ∃ zs : List Int, ledv w ys = intL zs ∧ (zs.length : Int) = m := by
  obtain ⟨asks, gives, rfl, h2, h4, h5, h6⟩ := W
  unfold ledv
  dsimp only
  split
  · exact .inl rfl
  · exact .inr ⟨_, rfl, by rw [List.length_map]; exact h4⟩
def nxD : List D → List Int → D
  | [], _ => .none
  | w :: r, ys => if isNone (ledv w ys) then nxD r ys else ledv w ys
def toI (l : List D) : List Int := l.filterMap fun d => match d with | .int z => some z | _ => none
theorem toI_map (zs : List Int) : toI (zs.map .int) = zs := by
  induction zs with
  | nil => rfl
  | cons z zs ih => show z :: toI (zs.map .int) = _; rw [ih]
theorem nxD_cases {m : Int} : ∀ {ws : List D}, (∀ w ∈ ws, Way m w) → ∀ ys : List Int, nxD ws ys = .none ∨ ∃ zs : List Int, nxD ws ys = intL zs ∧ (zs.length : Int) = m
  | [], _, _ => .inl rfl
  | w :: r, h, ys => by
    unfold nxD
    split
    · exact nxD_cases (fun w hw => h w (List.mem_cons_of_mem _ hw)) ys
    · rename_i hn
      rcases ledv_cases (h w List.mem_cons_self) ys with q | q
      · rw [q] at hn; exact absurd rfl hn
      · exact .inr q
def TT (ws : List D) : Nat → List Int → List (List Int)
  | 0, _ => []
  | n + 1, ys => match nxD ws ys with | .list l => toI l :: TT ws n (toI l) | _ => []
theorem TT_succ (ws : List D) (n : Nat) (ys : List Int) : TT ws (n + 1) ys = match nxD ws ys with | .list l => toI l :: TT ws n (toI l) | _ => [] := rfl
theorem TT_some {ws : List D} {n : Nat} {cur zs : List Int} (e : nxD ws cur = intL zs) : TT ws (n + 1) cur = zs :: TT ws n zs := by
  rw [TT_succ, e]
  dsimp only
  rw [toI_map]
theorem TT_none {ws : List D} {n : Nat} {cur : List Int} (e : nxD ws cur = .none) : TT ws (n + 1) cur = [] := by
  rw [TT_succ, e]
theorem TT_len {m : Int} {ws : List D} (h : ∀ w ∈ ws, Way m w) : ∀ (n : Nat) (ys : List Int), (TT ws n ys).length ≤ n ∧ ∀ zs ∈ TT ws n ys, (zs.length : Int) = m
  | 0, _ => ⟨Nat.le_refl _, fun _ h => by cases h⟩
  | n + 1, ys => by
    unfold TT
    rcases nxD_cases h ys with q | ⟨zs, q, hz⟩
    · rw [q]; exact ⟨Nat.zero_le _, fun _ h => by cases h⟩
    · rw [q]
      dsimp only
      rw [toI_map]
      obtain ⟨a, b⟩ := TT_len h n zs
      exact ⟨Nat.succ_le_succ a, fun ys hy => by
        rcases List.mem_cons.mp hy with rfl | hy
        · exact hz
        · exact b ys hy⟩
section
variable {m : Int} {ws : List D} {ys : List Int}
theorem m_turn_ok (L : Loop m ws) (hy : St_ m ys) : m_turn_of [lp m ws, intL ys] = .ok (nxD ws ys) := by
  have key : ∀ (r : List D) (v2 v3 : SV), (∀ w ∈ r, Way m w) → (nxD r ys = .none → ∃ u2 u3, fLoop (gN 2) (sSeq (sSet (gN 3) (eC m_led (aC (eV 2) (aC (eV 1) aN)))) (sIf (qV (e2 opIsNot (eB 3) (eK .none))) (sRet (eV 3)) sNil)) r [.sh (lp m ws), .sh (intL ys), v2, v3] = .next [.sh (lp m ws), .sh (intL ys), u2, u3]) ∧
      (nxD r ys ≠ .none → fLoop (gN 2) (sSeq (sSet (gN 3) (eC m_led (aC (eV 2) (aC (eV 1) aN)))) (sIf (qV (e2 opIsNot (eB 3) (eK .none))) (sRet (eV 3)) sNil)) r [.sh (lp m ws), .sh (intL ys), v2, v3] = .ret (nxD r ys)) := fun r => by
    induction r with
    | nil => exact fun v2 v3 _ => ⟨fun _ => ⟨v2, v3, rfl⟩, fun h => absurd rfl h⟩
    | cons w r ih =>
      intro v2 v3 h
      have W := h w List.mem_cons_self
      have hb : (sSeq (sSet (gN 3) (eC m_led (aC (eV 2) (aC (eV 1) aN)))) (sIf (qV (e2 opIsNot (eB 3) (eK .none))) (sRet (eV 3)) sNil)) [.sh (lp m ws), .sh (intL ys), .sh w, v3] = if !isNone (ledv w ys) then .ret (ledv w ys) else .next [.sh (lp m ws), .sh (intL ys), .sh w, .sh (ledv w ys)] :=
        (seq_next (set_ok (cl2 rfl rfl (m_led_ok W L.1 L.2.1 hy)))).trans ((if_b (qv (op2 rfl rfl rfl))).trans rfl)
      have ef : fLoop (gN 2) (sSeq (sSet (gN 3) (eC m_led (aC (eV 2) (aC (eV 1) aN)))) (sIf (qV (e2 opIsNot (eB 3) (eK .none))) (sRet (eV 3)) sNil)) (w :: r) [.sh (lp m ws), .sh (intL ys), v2, v3] = (match (sSeq (sSet (gN 3) (eC m_led (aC (eV 2) (aC (eV 1) aN)))) (sIf (qV (e2 opIsNot (eB 3) (eK .none))) (sRet (eV 3)) sNil)) [.sh (lp m ws), .sh (intL ys), .sh w, v3] with
        | .next e' => fLoop (gN 2) (sSeq (sSet (gN 3) (eC m_led (aC (eV 2) (aC (eV 1) aN)))) (sIf (qV (e2 opIsNot (eB 3) (eK .none))) (sRet (eV 3)) sNil)) r e'
        | .cont e' => fLoop (gN 2) (sSeq (sSet (gN 3) (eC m_led (aC (eV 2) (aC (eV 1) aN)))) (sIf (qV (e2 opIsNot (eB 3) (eK .none))) (sRet (eV 3)) sNil)) r e'
        | .brk e' => .next e'
        | .ret d => .ret d
        | .err c => .err c
        | .stk => .stk) := rfl
      rw [ef, hb]
      have en : nxD (w :: r) ys = if isNone (ledv w ys) then nxD r ys else ledv w ys := rfl
      rw [en]
      cases hn : isNone (ledv w ys) with
      | true => exact ih (.sh w) (.sh (ledv w ys)) fun w' hw => h w' (List.mem_cons_of_mem _ hw)
      | false => exact ⟨(fun q => by
          have q' : ledv w ys = .none := q
          rw [q'] at hn; cases hn), fun _ => rfl⟩
  obtain ⟨k1, k2⟩ := key ws .no .no L.2.2.2.2
  by_cases hn : nxD ws ys = .none
  · obtain ⟨v2, v3, f1⟩ := k1 hn
    exact fn_ret ((seq_next (for_ok (il (op2 rfl rfl rfl)) f1)).trans (ret_to rfl hn.symm))
  · exact fn_ret (seq_ret (for_ok (il (op2 rfl rfl rfl)) (k2 hn)))
theorem run_while (L : Loop m ws) {st : SV} {mo : Int} {v5 : SV} : ∀ (n : Nat) (acc : List D) (cur : List Int), (acc.length : Int) + n = mo + 1 → acc.length ≤ 1000 → St_ m cur → acc.length + n ≤ 1000 →
    ∃ v4, wLoop (qAnd (qV (e2 opIsNot (eB 4) (eK .none))) (qV (e2 opLe (eC bLen (aC (eB 3) aN)) (eB 2)))) (sSeq (sApp 3 (eV 4)) (sSet (gN 4) (eC m_turn_of (aC (eV 0) (aC (eV 4) aN))))) (n + 1) [.sh (lp m ws), st, .sh (.int mo), .ow acc, .sh (nxD ws cur), v5] =
      .next [.sh (lp m ws), st, .sh (.int mo), .ow (acc ++ (TT ws n cur).map intL), v4, v5]
  | 0, acc, cur, h, hl, hc, hn => by
    have q : qAnd (qV (e2 opIsNot (eB 4) (eK .none))) (qV (e2 opLe (eC bLen (aC (eB 3) aN)) (eB 2))) [.sh (lp m ws), st, .sh (.int mo), .ow acc, .sh (nxD ws cur), v5] = .ok false := by
      refine (qand (qv (op2 rfl rfl rfl)) fun _ => qv (op2 (cl1 rfl rfl) rfl rfl)).trans ?_
      rw [decide_eq_false (show ¬ (acc.length : Int) ≤ mo by omega), Bool.and_false]
    refine ⟨.sh (nxD ws cur), (w_stop q).trans ?_⟩
    rw [show TT ws 0 cur = [] from rfl, List.map_nil, List.append_nil]
  | n + 1, acc, cur, h, hl, hc, hn => by
    have q : qAnd (qV (e2 opIsNot (eB 4) (eK .none))) (qV (e2 opLe (eC bLen (aC (eB 3) aN)) (eB 2))) [.sh (lp m ws), st, .sh (.int mo), .ow acc, .sh (nxD ws cur), v5] = .ok (!isNone (nxD ws cur)) := by
      refine (qand (qv (op2 rfl rfl rfl)) fun _ => qv (op2 (cl1 rfl rfl) rfl rfl)).trans ?_
      rw [decide_eq_true (show (acc.length : Int) ≤ mo by omega), Bool.and_true]
    rcases nxD_cases L.2.2.2.2 cur with e | ⟨zs, e, hz⟩
    · refine ⟨.sh (nxD ws cur), (w_stop (q.trans (by rw [e]; rfl))).trans ?_⟩
      have et : TT ws (n + 1) cur = [] := TT_none e
      rw [et, List.map_nil, List.append_nil]
    · have et : TT ws (n + 1) cur = zs :: TT ws n zs := TT_some e
      obtain ⟨v4, ih⟩ := run_while L (st := st) (mo := mo) (v5 := v5) n (acc ++ [intL zs]) zs (by rw [List.length_append]; simp; omega) (by rw [List.length_append]; simp; omega) hz (by rw [List.length_append]; simp; omega)
      refine ⟨v4, (w_go (q.trans (by rw [e]; rfl)) ((seq_next (e' := [.sh (lp m ws), st, .sh (.int mo), .ow (acc ++ [intL zs]), .sh (intL zs), v5]) ?_).trans (set_ok (cl2 rfl rfl (m_turn_ok L hz))))).trans ?_⟩
      · rw [e]
        show (if acc.length < szL then _ else _) = _
        rw [if_pos (by unfold szL; omega)]; rfl
      · rw [et, List.map_cons]
        show wLoop _ _ (n + 1) [.sh (lp m ws), st, .sh (.int mo), .ow (acc ++ [intL zs]), .sh (nxD ws zs), v5] = _
        rw [ih, List.append_assoc]
        rfl
theorem cLoopT_lists {e : Env} : ∀ (L : List (List Int)), (∀ x, eB 5 ((wip [5] e).set 5 (.sh x)) = .ok x) → cLoopT (gN 5) (lLst (eB 5)) (wip [5] e) (L.map intL) = .ok (L.map fun l => l.map .int)
  | [], _ => rfl
  | l :: L, h => by
    show ((gN 5 (intL l) (wip [5] e)).calm).bind _ = _
    show ((lLst (eB 5) ((wip [5] e).set 5 (.sh (intL l)))).calm).bind _ = _
    have e1 : lLst (eB 5) ((wip [5] e).set 5 (.sh (intL l))) = .ok (l.map .int) := by unfold lLst; rw [h]; rfl
    rw [e1, R.calm_ok, R.bind_ok, cLoopT_lists L h]; rfl
abbrev rows (L : List (List Int)) : List (List D) := L.map fun l => l.map .int
theorem m_run_ok {mo : Int} (L : Loop m ws) (hy : St_ m ys) (h0 : 0 ≤ mo) (h6 : mo ≤ 60) : m_run [lp m ws, intL ys, .int mo] = .ok (tree (rows (ys :: TT ws mo.toNat ys))) := by
  have hyl : (ys.length : Int) = m := hy
  have m3 := L.2.1
  have sc : noScr (intL ys) := noScr_ints (by unfold szL; omega)
  have ar : arW m (intL ys) = true := by rw [arW_ints, decide_eq_true hyl]
  obtain ⟨v4, hw⟩ := run_while L (st := .sh (intL ys)) (mo := mo) (v5 := .no) mo.toNat [intL ys] ys (by simp; omega) (by simp) hy (by simp; omega)
  obtain ⟨tl, _⟩ := TT_len L.2.2.2.2 mo.toNat ys
  have hcm : cmpT (iL (eB 3)) [5] (gN 5) (lLst (eB 5)) [.sh (lp m ws), .sh (intL ys), .sh (.int mo), .ow ([intL ys] ++ (TT ws mo.toNat ys).map intL), v4, .no] = .ok (rows (ys :: TT ws mo.toNat ys)) := by
    unfold cmpT
    rw [il (xs := (ys :: TT ws mo.toNat ys).map intL) rfl, R.bind_ok, if_pos (by rw [List.length_map, List.length_cons]; unfold szL; omega)]
    exact cLoopT_lists _ fun _ => rfl
  have hb : b_run ([lp m ws, intL ys, .int mo].map SV.sh ++ [.no, .no, .no]) = .ret (tree (rows (ys :: TT ws mo.toNat ys))) := by
    refine (seq_next (do_ok (cl1 rfl (m_need_ok L)))).trans ((seq_next (do_ok (cl2 rfl rfl (m_state_ok sc ar)))).trans ((seq_next ((if_f ?_).trans rfl)).trans ?_))
    · refine (qor (qnot (qv (cl1 rfl (m_whole rfl)))) fun _ => qnot (qv (ch2 rfl rfl rfl fun _ => ⟨rfl, rfl⟩))).trans ?_
      rw [decide_eq_true h0, decide_eq_true h6]; rfl
    · refine (seq_next (e' := [.sh (lp m ws), .sh (intL ys), .sh (.int mo), .ow [intL ys], .no, .no]) ?_).trans ?_
      · unfold sOwn
        rw [ac (cl1 rfl rfl) an]; rfl
      · refine (seq_next (set_ok (cl2 rfl rfl (m_turn_ok L hy)))).trans ((seq_next (while_ok hw rfl)).trans ?_)
        refine ret_ok ?_
        unfold eTr
        rw [hcm]; rfl
  show (match b_run ([lp m ws, intL ys, .int mo].map SV.sh ++ [.no, .no, .no]) with | .ret d => R.ok d | .err c => .err c | _ => .stk) = _
  rw [hb]
end
/-! ### the law's own reckoning of a run -/
def gl (ws : List D) (ys : List Int) : List D := (ws.map fun w => ledv w ys).filter fun d => !isNone d
theorem gl_spec {m : Int} : ∀ {ws : List D}, (∀ w ∈ ws, Way m w) → ∀ ys : List Int, (nxD ws ys = .none → gl ws ys = []) ∧ (∀ zs, nxD ws ys = intL zs → ∃ r, gl ws ys = intL zs :: r) ∧ flatAll 19 (gl ws ys) = true
  | [], _, _ => ⟨fun _ => rfl, (fun zs h => by cases h), rfl⟩
  | w :: r, h, ys => by
    obtain ⟨i1, i2, i3⟩ := gl_spec (fun w hw => h w (List.mem_cons_of_mem _ hw)) (ws := r) ys
    have en : nxD (w :: r) ys = if isNone (ledv w ys) then nxD r ys else ledv w ys := rfl
    have eg : gl (w :: r) ys = if !isNone (ledv w ys) then ledv w ys :: gl r ys else gl r ys := by
      unfold gl
      rw [List.map_cons, List.filter_cons]
    rcases ledv_cases (h w List.mem_cons_self) ys with q | ⟨zs, q, _⟩
    · rw [en, eg, q]
      exact ⟨i1, i2, i3⟩
    · rw [en, eg, q]
      refine ⟨(fun h => by cases h), fun zs' h => ⟨gl r ys, ?_⟩, ?_⟩
      · have h' : intL zs = intL zs' := h
        rw [← h']; rfl
      · show (flatD 19 (intL zs) && flatAll 19 (gl r ys)) = true
        rw [i3, Bool.and_true]
        exact flat_ints zs 18
section
variable {m : Int} {ws : List D} {ys : List Int}
theorem ix_head (a : D) (r : List D) : opIx (.list (a :: r)) (.int 0) = .ok a := by
  obtain ⟨d, h1, _, h2⟩ := ix_list (xs := a :: r) (k := 0) (by decide) (by simp <;> omega)
  cases h1
  exact h2
theorem eq_nil {ds : List D} (h : flatAll 19 ds = true) : opEq (.list ds) (.list []) = .ok (.bool ds.isEmpty) ∧ opNe (.list ds) (.list []) = .ok (.bool (!ds.isEmpty)) := by
  cases ds with
  | nil =>
    have e : eqD (.list []) (.list []) = .ok true := rfl
    unfold opEq opNe; rw [e]; exact ⟨rfl, rfl⟩
  | cons d ds =>
    have e : eqD (.list (d :: ds)) (.list []) = .ok false := by
      unfold eqD
      have e1 : same (.list (d :: ds)) (.list []) = false := rfl
      have e2 : flatD 20 (.list (d :: ds)) = true := h
      have e3 : flatD 20 (.list []) = true := rfl
      rw [e1, e2, e3]
      rfl
    unfold opEq opNe; rw [e]; exact ⟨rfl, rfl⟩
theorem due_while (L : Loop m ws) {st : SV} {mo : Int} : ∀ (n : Nat) (pre : List D) (cur : List Int) (v4 : SV), (pre.length : Int) + 1 + n = mo + 1 → pre.length + n ≤ 900 → St_ m cur →
    ∃ o, wLoop (qV (e2 opLe (eC bLen (aC (eB 3) aN)) (eB 2))) (sSeq (sSet (gN 4) (eL (cmp (iL (e2 opIx (eB 0) (eK (.int 1)))) [5] (gN 5) qY (eC m_law_led (aC (eV 5) (aC (e2 opIx (eB 3) (e1 opNeg (eK (.int 1)))) aN))))))
  (sSeq (sSet (gN 4) (eL (cmp (iL (eB 4)) [6] (gN 6) (qV (e2 opIsNot (eB 6) (eK .none))) (eV 6))))
  (sSeq (sIf (qV (e2 opEq (eB 4) (eL aN))) (sFrz 3 (sRet (eV 3))) sNil)
  (sApp 3 (e2 opIx (eB 4) (eK (.int 0))))))) (n + 1) [.sh (lp m ws), st, .sh (.int mo), .ow (pre ++ [intL cur]), v4, .no, .no] = o ∧
      ((∃ u4, o = .next [.sh (lp m ws), st, .sh (.int mo), .ow (pre ++ [intL cur] ++ (TT ws n cur).map intL), u4, .no, .no]) ∨ o = .ret (.list (pre ++ [intL cur] ++ (TT ws n cur).map intL)))
  | 0, pre, cur, v4, h, hl, hc => by
    have q : qV (e2 opLe (eC bLen (aC (eB 3) aN)) (eB 2)) [.sh (lp m ws), st, .sh (.int mo), .ow (pre ++ [intL cur]), v4, .no, .no] = .ok false := by
      refine (qv (op2 (cl1 rfl rfl) rfl rfl)).trans ?_
      rw [decide_eq_false (by rw [List.length_append]; simp; omega)]
    refine ⟨_, rfl, .inl ⟨v4, (w_stop q).trans ?_⟩⟩
    rw [show TT ws 0 cur = [] from rfl, List.map_nil, List.append_nil]
  | n + 1, pre, cur, v4, h, hl, hc => by
    have m1 := L.1
    have m3 := L.2.1
    have q : qV (e2 opLe (eC bLen (aC (eB 3) aN)) (eB 2)) [.sh (lp m ws), st, .sh (.int mo), .ow (pre ++ [intL cur]), v4, .no, .no] = .ok true := by
      refine (qv (op2 (cl1 rfl rfl) rfl rfl)).trans ?_
      rw [decide_eq_true (by rw [List.length_append]; simp; omega)]
    have w3 := L.2.2.2.1
    have c1 : cmp (iL (e2 opIx (eB 0) (eK (.int 1)))) [5] (gN 5) qY (eC m_law_led (aC (eV 5) (aC (e2 opIx (eB 3) (e1 opNeg (eK (.int 1)))) aN))) [.sh (lp m ws), st, .sh (.int mo), .ow (pre ++ [intL cur]), v4, .no, .no] = .ok (ws.map fun w => ledv w cur) :=
      cmp_map _ (il (op2 rfl rfl rfl)) (by unfold szL; omega) fun x hx => ⟨_, rfl, rfl, cl2 rfl (op2 rfl (op1 (o := opNeg) (x := .int 1) rfl rfl) (ix_last pre (intL cur))) (m_lled_ok (L.2.2.2.2 x hx) m1 m3 hc)⟩
    have c2 : cmp (iL (eB 4)) [6] (gN 6) (qV (e2 opIsNot (eB 6) (eK .none))) (eV 6) [.sh (lp m ws), st, .sh (.int mo), .ow (pre ++ [intL cur]), .sh (.list (ws.map fun w => ledv w cur)), .no, .no] = .ok (gl ws cur) := by
      have := cmp_filter (it := iL (eB 4)) (vs := [6]) (g := gN 6) (t := qV (e2 opIsNot (eB 6) (eK .none))) (f := eV 6) (e := [.sh (lp m ws), st, .sh (.int mo), .ow (pre ++ [intL cur]), .sh (.list (ws.map fun w => ledv w cur)), .no, .no]) (fun d => !isNone d) (fun d => d) (xs := ws.map fun w => ledv w cur) (il rfl) (by rw [List.length_map]; unfold szL; omega) fun x hx => ⟨_, rfl, qv (op2 rfl rfl rfl), fun _ => rfl⟩
      rw [this, List.map_id']; rfl
    obtain ⟨g1, g2, g3⟩ := gl_spec L.2.2.2.2 cur
    have hq := qv (f := e2 opEq (eB 4) (eL aN)) (e := [.sh (lp m ws), st, .sh (.int mo), .ow (pre ++ [intL cur]), .sh (.list (gl ws cur)), .no, .no]) (op2 rfl (el rfl) (eq_nil g3).1)
    rcases nxD_cases L.2.2.2.2 cur with e | ⟨zs, e, hz⟩
    · refine ⟨_, rfl, .inr ((w_ret q ((seq_next (set_ok (el c1))).trans ((seq_next (set_ok (el c2))).trans (seq_ret ((if_t (hq.trans (by rw [g1 e]; rfl))).trans rfl))))).trans ?_)⟩
      rw [TT_none e, List.map_nil, List.append_nil]
    · obtain ⟨r, hr⟩ := g2 zs e
      obtain ⟨o, ih, ho⟩ := due_while L (st := st) (mo := mo) n (pre ++ [intL cur]) zs (.sh (.list (gl ws cur))) (by rw [List.length_append]; simp; omega) (by rw [List.length_append]; simp; omega) hz
      refine ⟨o, (w_go q ((seq_next (set_ok (el c1))).trans ((seq_next (set_ok (el c2))).trans ((seq_next ((if_f (hq.trans (by rw [hr]; rfl))).trans rfl)).trans ?_)))).trans ih, ?_⟩
      · show (e2 opIx (eB 4) (eK (.int 0)) _).out _ = _
        rw [op2 (f := eB 4) (g := eK (.int 0)) (x := .list (gl ws cur)) (y := .int 0) (r := .ok (intL zs)) rfl rfl (by rw [hr]; exact ix_head _ _)]
        show (if (pre ++ [intL cur]).length < szL then _ else _) = _
        rw [if_pos (by rw [List.length_append]; unfold szL; simp; omega)]; rfl
      · rw [TT_some e, List.map_cons]
        rw [List.append_assoc (pre ++ [intL cur])] at ho
        exact ho
theorem m_due_ok {mo : Int} (L : Loop m ws) (hy : St_ m ys) (h0 : 0 ≤ mo) (h6 : mo ≤ 60) : m_law_due [lp m ws, intL ys, .int mo] = .ok (tree (rows (ys :: TT ws mo.toNat ys))) := by
  obtain ⟨o, hw, ho⟩ := due_while L (st := .sh (intL ys)) (mo := mo) mo.toNat [] ys .no (by simp; omega) (by simp; omega) hy
  have et : tree (rows (ys :: TT ws mo.toNat ys)) = .list ([intL ys] ++ (TT ws mo.toNat ys).map intL) := by
    show PyData.list ((rows (ys :: TT ws mo.toNat ys)).map .list) = _
    unfold rows
    rw [List.map_map]; rfl
  rw [et]
  have hs : o.isStk = false := by
    rcases ho with ⟨u, h⟩ | h
    · rw [h]; rfl
    · rw [h]; rfl
  refine fn_ret ((seq_next (e' := [.sh (lp m ws), .sh (intL ys), .sh (.int mo), .ow ([] ++ [intL ys]), .no, .no, .no]) ?_).trans ?_)
  · unfold sOwn
    rw [ac (cl1 rfl rfl) an]; rfl
  · rcases ho with ⟨u, h⟩ | h
    · exact (seq_next ((while_ok hw hs).trans h)).trans rfl
    · exact seq_ret ((while_ok hw hs).trans h)
end
/-! ### refusals -/
section
variable {m : Int} {ws : List D} {ys : List Int}
def BadM (d : D) : Prop := isScr d = false ∧ (isWh d = false ∨ ∃ z, d = .int z ∧ ¬ (0 ≤ z ∧ z ≤ 60))
theorem runT_err {ds : List D} {c : Str} {b : SF} {n : Nat} (h : b (ds.map .sh ++ List.replicate (n - ds.length) .no) = .err c) : fnRT n b ds = .err c := by unfold fnRT; rw [h]
theorem m_run_state {d s : D} (L : Loop m ws) (hd : BadS m d) : m_run [lp m ws, d, s] = .err "BadState" :=
  runT_err ((seq_next (do_ok (cl1 rfl (m_need_ok L)))).trans (seq_err (do_err (cl2 rfl rfl (m_state_bad hd.1 hd.2)))))
theorem m_run_count {d : D} (L : Loop m ws) (hy : St_ m ys) (h : BadM d) : m_run [lp m ws, intL ys, d] = .err "BadCount" := by
  obtain ⟨hs, h⟩ := h
  have hyl : (ys.length : Int) = m := hy
  have m3 := L.2.1
  have sc : noScr (intL ys) := noScr_ints (by unfold szL; omega)
  have ar : arW m (intL ys) = true := by rw [arW_ints, decide_eq_true hyl]
  refine runT_err ((seq_next (do_ok (cl1 rfl (m_need_ok L)))).trans ((seq_next (do_ok (cl2 rfl rfl (m_state_ok sc ar)))).trans (seq_err ((if_t ?_).trans rfl))))
  rcases h with h | ⟨z, rfl, h⟩
  · refine (qor (j := true) (qnot (qv (cl1 rfl (m_whole hs)))) fun q => ?_).trans ?_
    · rw [h] at q; cases q
    · rw [h]; rfl
  · refine (qor (qnot (qv (cl1 rfl (m_whole rfl)))) fun _ => qnot (qv (ch2 rfl rfl rfl fun _ => ⟨rfl, rfl⟩))).trans ?_
    have e : (decide ((0 : Int) ≤ z) && decide (z ≤ 60)) = false := by
      rw [← Bool.decide_and]
      exact decide_eq_false h
    show R.ok (!true || !(decide ((0 : Int) ≤ z) && decide (z ≤ 60))) = _
    rw [e]; rfl
theorem m_word_err {a b c : D} {r z : Str} (h : m_run [a, b, c] = .err r) (hn : nmOf r = some z) : m_law_word [a, b, c] = .ok (.str z) := by
  refine fn_ret (seq_ret ?_)
  unfold sTry
  rw [do_err (cl3 rfl rfl rfl h)]
  dsimp only
  rw [hn]
end
theorem unL_rows : ∀ L : List (List Int), unL ((rows L).map .list) = some (rows L)
  | [] => rfl
  | l :: L => by
    have hs : (l.map PyData.int).all isSc = true := by
      rw [List.all_eq_true]; intro x hx; obtain ⟨y, _, rfl⟩ := List.mem_map.mp hx; rfl
    show (if (l.map PyData.int).all isSc then (unL ((rows L).map .list)).map (l.map PyData.int :: ·) else none) = _
    rw [hs, if_pos rfl, unL_rows L]; rfl
theorem cpy_tree {L : List (List Int)} (h1 : L.length ≤ 1000) (h2 : ∀ l ∈ L, l.length ≤ 1000) : cpy 3 (tree (rows L)) := by
  refine ⟨by show ((rows L).map PyData.list).length ≤ szL; rw [List.length_map, List.length_map]; exact Nat.le_trans h1 (by decide), fun x hx => ?_⟩
  obtain ⟨y, hy, rfl⟩ := List.mem_map.mp hx
  obtain ⟨l, hl, rfl⟩ := List.mem_map.mp hy
  exact cpy_ints (n := 0) (h2 l hl)
theorem badM_of {i : Int} (h1 : 0 ≤ i) (h2 : i < 8) : ∃ o, opIx (.list [.int 61, .int (-1), .bool true, .none, .str "1", .list [.int 1], .int (10 ^ 20), .bool false]) (.int i) = .ok o ∧ BadM o := by
  obtain ⟨o, _, ho, h⟩ := ix_list (xs := [.int 61, .int (-1), .bool true, .none, .str "1", .list [.int 1], .int (10 ^ 20), .bool false]) h1 h2
  refine ⟨o, h, ?_⟩
  simp only [List.mem_cons, List.not_mem_nil, or_false] at ho
  rcases ho with rfl | rfl | rfl | rfl | rfl | rfl | rfl | rfl
  · exact ⟨rfl, .inr ⟨_, rfl, by decide⟩⟩
  · exact ⟨rfl, .inr ⟨_, rfl, by decide⟩⟩
  · exact ⟨rfl, .inl rfl⟩
  · exact ⟨rfl, .inl rfl⟩
  · exact ⟨rfl, .inl rfl⟩
  · exact ⟨rfl, .inl rfl⟩
  · exact ⟨rfl, .inr ⟨_, rfl, by decide⟩⟩
  · exact ⟨rfl, .inl rfl⟩
theorem fr_ok {i : Nat} {p : Nat} {f : SF} {e e' : Env} {xss : List (List D)} (h : f e = .next e') (h2 : e'[i]? = some (.sh (adr p))) : tFrame i f p xss e = .next e' xss := by
  unfold tFrame
  rw [h]
  dsimp only
  rw [h2]
  show (if Int.ofNat p = Int.ofNat p then OutT.next e' xss else .stk) = _
  rw [if_pos rfl]
theorem tif_f {i : Nat} {p : Nat} {t : TF} {a : SF} {e : Env} {xss : List (List D)} (h : t (e.set i (.sh (tree xss))) = .ok false) : tIf i t a p xss e = .next e xss := by
  unfold tIf; rw [h]
theorem rc_next {f : STF} {g : STR} {p : Nat} {e e' : Env} {xss xss' : List (List D)} (h : f p xss e = .next e' xss') : rCons f g p xss e = g p xss' e' := by unfold rCons; rw [h]
theorem forL_ok {j : Nat} {t : TF} {a : SF} {f : EF} {e : Env} {d : D} : ∀ {rest dn : List (List D)}, (∀ xs ∈ rest, t (e.set j (.ow xs)) = .ok false ∧ f (e.set j (.ow xs)) = .ok d ∧ xs.length ≤ 1000) → tForL j t a f e dn rest = .next e (dn ++ rest.map fun xs => xs ++ [d])
  | [], dn, _ => by unfold tForL; rw [List.map_nil, List.append_nil]
  | xs :: rest, dn, h => by
    obtain ⟨h1, h2, h3⟩ := h xs List.mem_cons_self
    unfold tForL
    rw [h1]
    dsimp only
    rw [h2]
    dsimp only
    rw [if_pos (show xs.length < szL by unfold szL; omega), forL_ok (fun ys hy => h ys (List.mem_cons_of_mem _ hy)), List.map_cons, List.append_assoc]
    rfl
open Classical in
theorem sTree_ok {i : Nat} {mm : List D → R D} {fs : LF} {g : STR} {e : Env} {ds ls : List D} {xss : List (List D)} {o : Out} (h1 : fs e = .ok ds) (h2 : mm ds = .ok (.list ls)) (h3 : unL ls = some xss) (hi : i < e.length) (h : ∀ p, g p xss (e.set i (.sh (adr p))) = o) : sTree i mm fs g e = o := by
  unfold sTree
  rw [h1, out_ok, h2, out_ok]
  dsimp only
  rw [h3]
  dsimp only
  have hx : i < e.length ∧ ∃ o, ∀ p, g p xss (e.set i (.sh (adr p))) = o := ⟨hi, o, h⟩
  rw [dif_pos hx]
  have := Classical.choose_spec hx.2 0
  rw [← this]
  exact h 0
theorem eq_same {n : Nat} {d : D} (h : cpy n d) (hn : n ≤ 20) (hd : isDic d = false) : opEq d d = .ok (.bool true) := by
  unfold opEq; rw [eqD_refl h hn hd]; rfl
set_option maxHeartbeats 4000000 in
theorem law_true : ∀ ns : List Int, ns.length ≤ 63 → (∀ z ∈ ns, Builtin.Int.intBits z ≤ 1048576) → m_law [scr (ns.map .int)] = .ok (.bool true) := by
  intro ns _ _
  obtain ⟨m, ws, hl, L⟩ := m_loop_by (ns := ns) (at_ := 4) (by decide)
  have m1 := L.1
  have m3 := L.2.1
  have cL : cpy 12 (lp m ws) := cpy_loop (n := 6) L
  -- the state
  obtain ⟨fr, hfr, f1, f2⟩ : ∃ q : Int, opIx (intL [81, 4001]) (.int (cell ns 1 % 2)) = .ok (.int q) ∧ 1 ≤ q ∧ q ≤ 4001 := by
    obtain ⟨q, _, hq, h⟩ := ix_ints (xs := [81, 4001]) (k := cell ns 1 % 2) (by omega) (by simp; omega)
    have : ∀ z ∈ ([81, 4001] : List Int), 1 ≤ z ∧ z ≤ 4001 := by decide
    exact ⟨q, h, this q hq⟩
  obtain ⟨ys, hys, yl, _⟩ := cmp_ints (it := iR1 (e2 opIx (eB 1) (eK (.int 0)))) (vs := [6]) (g := gN 6) (t := qY) (f := e2 opSub (e2 opMod (eC m_law_drawn (aC (eV 3) (aC (eV 6) aN))) (eB 4)) (e2 opDiv (eB 4) (eK (.int 2))))
    (e := [.sh (scri ns), .sh (lp m ws), .sh (lp m ws), .sh (.int (cell ns 1)), .sh (.int fr), .no, .no, .no, .no, .no, .no, .no, .no, .no]) (fun _ => True) (ir1 (op2 rfl rfl rfl) (by omega) (by omega)) (by rw [rng_length]; omega) fun x hx => by
      obtain ⟨j, rfl, _, _⟩ := rng_mem hx
      exact ⟨_, _, rfl, rfl, op2 (op2 (cl2 rfl rfl (m_drawn _ _)) rfl (mod_ok (by omega))) (op2 rfl rfl (div_ok (by decide) (by decide))) rfl, trivial⟩
  have hy : St_ m ys := by
    rw [rng_length] at yl
    show (ys.length : Int) = m
    omega
  have hyl : (ys.length : Int) = m := hy
  have cy : cpy 2 (intL ys) := cpy_ints (n := 0) (by omega)
  -- most
  obtain ⟨mo, hmo, o1, o2⟩ : ∃ q : Int, opIx (intL [cell ns 0 % 61, cell ns 0 / 61 % 6]) (.int (cell ns 2 % 2)) = .ok (.int q) ∧ 0 ≤ q ∧ q ≤ 60 := by
    obtain ⟨q, _, hq, h⟩ := ix_ints (xs := [cell ns 0 % 61, cell ns 0 / 61 % 6]) (k := cell ns 2 % 2) (by omega) (by simp; omega)
    refine ⟨q, h, ?_⟩
    simp only [List.mem_cons, List.not_mem_nil, or_false] at hq
    rcases hq with rfl | rfl <;> omega
  obtain ⟨tl, tm⟩ := TT_len L.2.2.2.2 mo.toNat ys
  have hrun := m_run_ok L hy o1 o2
  have hdue := m_due_ok L hy o1 o2
  have lm : ∀ l ∈ ys :: TT ws mo.toNat ys, (l.length : Int) = m := fun l hl => by
    rcases List.mem_cons.mp hl with rfl | hl
    · exact hyl
    · exact tm l hl
  have cT : cpy 3 (tree (rows (ys :: TT ws mo.toNat ys))) := cpy_tree (by rw [List.length_cons]; omega) fun l hl => by have := lm l hl; omega
  generalize hT : ys :: TT ws mo.toNat ys = T at hrun hdue lm cT
  have hTl : T.length ≤ 61 := by rw [← hT, List.length_cons]; omega
  obtain ⟨q, hq, qB⟩ := badM_of (i := cell ns 3 % 8) (by omega) (by omega)
  have oB : Odd (.bool true) := ⟨trivial, rfl, rfl⟩
  obtain ⟨u, _, um, hu⟩ := ix_list (xs := [.list (ys.map .int ++ [.int 0]), .list ((ys.map .int).drop (Int.toNat 1)), .none, .tuple (ys.map .int), .list ([.bool true] ++ (ys.map .int).drop (Int.toNat 1)), .str "0", .dict []]) (k := cell ns 3 / 8 % 7) (by omega) (by simp; omega)
  have uB : BadS m u := by
    simp only [List.mem_cons, List.not_mem_nil, or_false] at um
    rcases um with rfl | rfl | rfl | rfl | rfl | rfl | rfl
    · refine ⟨noScr_mem (by simp; omega) fun x hx => ?_, arW_len (by simp; omega)⟩
      rcases List.mem_append.mp hx with h | h
      · exact scr_ints x h
      · rw [List.mem_singleton.mp h]; rfl
    · exact ⟨noScr_mem (by simp; omega) fun x hx => scr_ints x (List.mem_of_mem_drop hx), arW_len (by simp; omega)⟩
    · exact ⟨trivial, rfl⟩
    · exact ⟨trivial, rfl⟩
    · refine ⟨noScr_mem (by simp; omega) fun x hx => ?_, arW_odd (o := .bool true) (by simp) oB⟩
      rcases List.mem_append.mp hx with h | h
      · rw [List.mem_singleton.mp h]; rfl
      · exact scr_ints x (List.mem_of_mem_drop h)
    · exact ⟨trivial, rfl⟩
    · exact ⟨trivial, rfl⟩
  have w1 := m_word_err (m_run_count L hy qB) (z := "count ") rfl
  have w2 := m_word_err (m_run_state (s := q) L uB) (z := "state ") rfl
  have w3 := m_word_err (m_run_state (s := .int mo) L uB) (z := "state ") rfl
  refine fn_ret ?_
  refine (seq_next (set_ok (cl2 rfl rfl hl))).trans ?_
  refine (seq_next (set_ok (cl1 rfl (m_copied cL)))).trans ?_
  refine (seq_next (set_ok (cl2 rfl rfl (m_cell (by decide))))).trans ?_
  refine (seq_next (set_ok (op2 (el rfl) (op2 rfl rfl (mod_ok (by decide))) hfr))).trans ?_
  refine (seq_next (set_ok (el hys))).trans ?_
  refine (seq_next (set_ok (op2 (x := intL [cell ns 0 % 61, cell ns 0 / 61 % 6]) (el (ac (op2 (cl2 rfl rfl (m_cell (by decide))) rfl (mod_ok (by decide))) (ac (op2 (op2 (cl2 rfl rfl (m_cell (by decide))) rfl (div_ok (by decide) (by decide))) rfl (mod_ok (by decide))) rfl))) (op2 (cl2 rfl rfl (m_cell (by decide))) rfl (mod_ok (by decide))) hmo))).trans ?_
  refine (seq_next (set_ok (cl3 rfl rfl rfl hdue))).trans ?_
  refine (seq_next (e' := [.sh (scri ns), .sh (lp m ws), .sh (lp m ws), .sh (.int (cell ns 1)), .sh (.int fr), .sh (intL ys), .no, .sh (.int mo), .sh (tree (rows T)), .ow (ys.map .int), .no, .no, .no, .no]) rfl).trans ?_
  refine sTree_ok (xss := rows T) (ac rfl (ac rfl (ac rfl an))) hrun (unL_rows T) (by simp) fun p => ?_
  have hneT := ne_refl cT (by decide) rfl
  have hneL := ne_refl cL (by decide) rfl
  have hney := ne_refl cy (by decide) rfl
  refine (rc_next (tif_f ((qor (qnot (qv (cl1 rfl rfl))) fun _ => qor (qv (op2 rfl rfl hneT)) fun _ => qor (qv (op2 (x := intL ys) rfl rfl hney)) fun _ => qv (op2 rfl rfl hneL)).trans rfl))).trans ?_
  refine (rc_next (fr_ok (e' := [.sh (scri ns), .sh (lp m ws), .sh (lp m ws), .sh (.int (cell ns 1)), .sh (.int fr), .sh (intL ys), .no, .sh (.int mo), .sh (tree (rows T)), .ow (ys.map .int ++ [.int 7]), .sh (adr p), .no, .no, .no]) ?_ rfl)).trans ?_
  · show (if (ys.map PyData.int).length < szL then _ else _) = _
    rw [if_pos (by rw [List.length_map]; unfold szL; omega)]; rfl
  refine (rc_next (tif_f (qv (op2 rfl rfl hneT)))).trans ?_
  -- each list grows by one
  refine (rc_next (e' := [.sh (scri ns), .sh (lp m ws), .sh (lp m ws), .sh (.int (cell ns 1)), .sh (.int fr), .sh (intL ys), .no, .sh (.int mo), .sh (tree (rows T)), .ow (ys.map .int ++ [.int 7]), .sh (adr p), .no, .no, .no]) (xss' := [] ++ (rows T).map fun xs => xs ++ [.int 0]) ?_).trans ?_
  · refine forL_ok fun xs hx => ?_
    obtain ⟨l, hl, rfl⟩ := List.mem_map.mp hx
    have ll := lm l hl
    refine ⟨(qor (qnot (qv (cl1 rfl rfl))) fun _ => qv (op2 (x := .int 0) (cl1 (x := .list []) (el ?_) rfl) rfl rfl)).trans rfl, rfl, by rw [List.length_map]; omega⟩
    have := cmp_filter (it := iL (eB 11)) (vs := [6]) (g := gN 6) (t := qOr (qNot (qV (eC (bIsi .int) (aC (eB 6) aN)))) (qV (eC (bIsi .bool) (aC (eB 6) aN)))) (f := eV 6) (e := [.sh (scri ns), .sh (lp m ws), .sh (lp m ws), .sh (.int (cell ns 1)), .sh (.int fr), .sh (intL ys), .no, .sh (.int mo), .sh (tree (rows T)), .ow (ys.map .int ++ [.int 7]), .sh (adr p), .ow (l.map .int), .no, .no]) (fun _ => false) (fun d => d) (xs := l.map .int) (il rfl) (by rw [List.length_map]; unfold szL; omega) fun x hx => by
      obtain ⟨y, _, rfl⟩ := List.mem_map.mp hx
      exact ⟨_, rfl, (qor (qnot (qv (cl1 rfl rfl))) fun _ => qv (cl1 rfl rfl)).trans rfl, fun h => by cases h⟩
    refine this.trans ?_
    rw [List.filter_eq_nil_iff.mpr fun _ _ => Bool.false_ne_true]; rfl
  -- as a datum
  generalize hG : ([] ++ (rows T).map fun xs => xs ++ [PyData.int 0]) = G
  have gl_ : ∀ xs ∈ G, (xs.length : Int) = m + 1 := fun xs hx => by
    rw [← hG, List.nil_append] at hx
    obtain ⟨ys', hy', rfl⟩ := List.mem_map.mp hx
    obtain ⟨l, hl, rfl⟩ := List.mem_map.mp hy'
    have := lm l hl
    rw [List.length_append, List.length_map]
    simp
    omega
  have gz : G.length ≤ 61 := by rw [← hG]; simp; exact hTl
  have cG : cmp (iL (eB 10)) [11] (gN 11) (qV (e2 opNe (eC bLen (aC (eB 11) aN)) (e2 opAdd (e2 opIx (eB 1) (eK (.int 0))) (eK (.int 1))))) (eV 11) [.sh (scri ns), .sh (lp m ws), .sh (lp m ws), .sh (.int (cell ns 1)), .sh (.int fr), .sh (intL ys), .no, .sh (.int mo), .sh (tree (rows T)), .ow (ys.map .int ++ [.int 7]), .sh (tree G), .no, .no, .no] = .ok [] := by
    have := cmp_filter (it := iL (eB 10)) (vs := [11]) (g := gN 11) (t := qV (e2 opNe (eC bLen (aC (eB 11) aN)) (e2 opAdd (e2 opIx (eB 1) (eK (.int 0))) (eK (.int 1))))) (f := eV 11) (e := [.sh (scri ns), .sh (lp m ws), .sh (lp m ws), .sh (.int (cell ns 1)), .sh (.int fr), .sh (intL ys), .no, .sh (.int mo), .sh (tree (rows T)), .ow (ys.map .int ++ [.int 7]), .sh (tree G), .no, .no, .no]) (fun _ => false) (fun d => d) (xs := G.map .list) (il rfl) (by rw [List.length_map]; unfold szL; omega) fun x hx => by
      obtain ⟨xs, hxs, rfl⟩ := List.mem_map.mp hx
      have e := gl_ xs hxs
      refine ⟨_, rfl, (qv (op2 (cl1 rfl rfl) (op2 (op2 rfl rfl rfl) rfl rfl) (ne_int _ _))).trans ?_, fun h => by cases h⟩
      rw [decide_eq_true e]; rfl
    refine this.trans ?_
    rw [List.filter_eq_nil_iff.mpr fun _ _ => Bool.false_ne_true]; rfl
  have nn : opNe (.list []) (.list []) = .ok (.bool false) := (eq_nil (ds := []) rfl).2
  show sSeq _ _ [.sh (scri ns), .sh (lp m ws), .sh (lp m ws), .sh (.int (cell ns 1)), .sh (.int fr), .sh (intL ys), .no, .sh (.int mo), .sh (tree (rows T)), .ow (ys.map .int ++ [.int 7]), .sh (tree G), .no, .no, .no] = _
  refine (seq_next ((if_f ((qor (qv (op2 (el cG) (el rfl) nn)) fun _ => qv (op2 (cl3 rfl rfl rfl hrun) rfl hneT)).trans rfl)).trans rfl)).trans ?_
  refine (seq_next (set_ok (d := q) (op2 (x := .list [.int 61, .int (-1), .bool true, .none, .str "1", .list [.int 1], .int (10 ^ 20), .bool false]) (el (ac rfl (ac (op1 (o := opNeg) (x := .int 1) rfl rfl) (ac rfl (ac rfl (ac rfl (ac (el rfl) (ac (op2 (y := .int 20) rfl rfl rfl) (ac rfl rfl))))))))) (op2 (cl2 rfl rfl (m_cell (by decide))) rfl (mod_ok (by decide))) hq))).trans ?_
  refine (seq_next (set_ok (d := u) (op2 (el (ac (op2 rfl (el (ac rfl rfl)) (add_list (by simp; omega))) (ac (esl_from (xs := ys.map .int) rfl rfl (by decide)) (ac rfl (ac (cl1 rfl rfl) (ac (op2 (el (ac rfl rfl)) (esl_from (xs := ys.map .int) rfl rfl (by decide)) (add_list (by simp; omega))) (ac rfl (ac rfl rfl)))))))) (op2 (op2 (cl2 rfl rfl (m_cell (by decide))) rfl (div_ok (by decide) (by decide))) rfl (mod_ok (by decide))) hu))).trans ?_
  refine (seq_next ((if_f ((qor (qv (op2 (cl3 rfl rfl rfl w1) rfl (eq_str (eq_self _)).2)) fun _ => qv (op2 (cl3 rfl rfl rfl w2) rfl (eq_str (eq_self _)).2)).trans rfl)).trans rfl)).trans ?_
  exact ret_to (eand (op2 (cl3 rfl rfl rfl w3) rfl (eq_str (eq_self _)).1) fun _ => op2 rfl rfl (eq_same cL (by decide) rfl)) rfl
end PL

open PySem PySem.W PyProof.Rows
set_option maxHeartbeats 0 in
theorem PySem.Challenge.cw_loopgauge_k03_runs_holds : PySem.Challenge.rw_loopgauge_k03_runs.Holds := by
  w_on; o_law; k_head; (case hw => w_witness2)
  k_fill
  refine L2.walk_ofB (l := PySem.Challenge.rw_loopgauge_k03_runs) (n := 63) (k := 14) (x := "_law_script") (CX := fun w => L2.CX PySem.Challenge.rw_loopgauge_k03_runs.prog w) (sp := fun w => PL.spLaw _) rfl (by decide) rfl ⟨rfl, by decide, by decide⟩ (fun w h Y => PySem.W.kIn_of Y) ?F (fun _ _ a ns hl hb _ hS => ⟨a, ns, rfl, hS, hl, hb, fun _ => rfl⟩) (fun _ _ _ _ _ h => PL.cx_no h)
  case F =>
    intro w mg fa h KX G hmg
    refine' PL.all_mk KX G hmg ?a0 ?l0 ?c0 ?k0 ?a1 ?l1 ?c1 ?k1 ?a2 ?l2 ?c2 ?k2 ?a3 ?l3 ?c3 ?k3 ?a4 ?l4 ?c4 ?k4 ?a5 ?l5 ?c5 ?k5 ?a6 ?l6 ?c6 ?k6 ?a7 ?l7 ?c7 ?k7 ?a8 ?l8 ?c8 ?k8 ?a9 ?l9 ?c9 ?k9 ?a10 ?l10 ?c10 ?k10 ?a11 ?l11 ?c11 ?k11 ?a12 ?l12 ?c12 ?k12 ?a13 ?l13 ?c13 ?k13 ?a14 ?l14 ?c14 ?k14 ?a15 ?l15 ?c15 ?k15 ?a16 ?l16 ?c16 ?k16 ?a17 ?l17 ?c17 ?k17 ?a18 ?l18 ?c18 ?k18 ?a19 ?l19 ?c19 ?k19 ?a20 ?l20 ?c20 ?k20 ?a21 ?l21 ?c21 ?k21 ?a22 ?l22 ?c22 ?k22 ?a23 ?l23 ?c23 ?k23 ?a24 ?l24 ?c24 ?k24 ?z_ValueError ?z_all ?z_bool ?z_int ?z_isinstance ?z_len ?z_list ?z_max ?z_min ?z_range ?z_sum ?z_tuple ?z_zip ?q_MOST_NAMES ?q_MOST_WAYS ?q_MOST_ASKS ?q_MOST_TURNS ?q_FAR ?g_LoopError ?xi_LoopError ?kC_LoopError ?bC_LoopError ?tC_LoopError ?iC_LoopError ?vC_LoopError ?g_BadLoop ?xi_BadLoop ?kC_BadLoop ?bC_BadLoop ?tC_BadLoop ?iC_BadLoop ?vC_BadLoop ?g_BadState ?xi_BadState ?kC_BadState ?bC_BadState ?tC_BadState ?iC_BadState ?vC_BadState ?g_BadCount ?xi_BadCount ?kC_BadCount ?bC_BadCount ?tC_BadCount ?iC_BadCount ?vC_BadCount ?g_BadGauge ?xi_BadGauge ?kC_BadGauge ?bC_BadGauge ?tC_BadGauge ?iC_BadGauge ?vC_BadGauge ?g_BadTable ?xi_BadTable ?kC_BadTable ?bC_BadTable ?tC_BadTable ?iC_BadTable ?vC_BadTable ?g_BadText ?xi_BadText ?kC_BadText ?bC_BadText ?tC_BadText ?iC_BadText ?vC_BadText ?ea ?eb ?e1_BadLoop ?e2_BadLoop ?e3_BadLoop ?e4_BadLoop ?e5_BadLoop ?s_BadLoop_LoopError ?n_BadLoop_LoopError ?s_BadLoop_BadState ?n_BadLoop_BadState ?s_BadLoop_BadCount ?n_BadLoop_BadCount ?s_BadLoop_BadGauge ?n_BadLoop_BadGauge ?s_BadLoop_BadTable ?n_BadLoop_BadTable ?s_BadLoop_BadText ?n_BadLoop_BadText ?e1_BadState ?e2_BadState ?e3_BadState ?e4_BadState ?e5_BadState ?s_BadState_LoopError ?n_BadState_LoopError ?s_BadState_BadLoop ?n_BadState_BadLoop ?s_BadState_BadCount ?n_BadState_BadCount ?s_BadState_BadGauge ?n_BadState_BadGauge ?s_BadState_BadTable ?n_BadState_BadTable ?s_BadState_BadText ?n_BadState_BadText ?e1_BadCount ?e2_BadCount ?e3_BadCount ?e4_BadCount ?e5_BadCount ?s_BadCount_LoopError ?n_BadCount_LoopError ?s_BadCount_BadLoop ?n_BadCount_BadLoop ?s_BadCount_BadState ?n_BadCount_BadState ?s_BadCount_BadGauge ?n_BadCount_BadGauge ?s_BadCount_BadTable ?n_BadCount_BadTable ?s_BadCount_BadText ?n_BadCount_BadText PL.law_true
    (case a0 => k_is)
    (case l0 => k_is)
    (case c0 => k_is)
    (case k0 => k_is)
    (case a1 => k_is)
    (case l1 => k_is)
    (case c1 => k_is)
    (case k1 => k_is)
    (case a2 => k_is)
    (case l2 => k_is)
    (case c2 => k_is)
    (case k2 => k_is)
    (case a3 => k_is)
    (case l3 => k_is)
    (case c3 => k_is)
    (case k3 => k_is)
    (case a4 => k_is)
    (case l4 => k_is)
    (case c4 => k_is)
    (case k4 => k_is)
    (case a5 => k_is)
    (case l5 => k_is)
    (case c5 => k_is)
    (case k5 => k_is)
    (case a6 => k_is)
    (case l6 => k_is)
    (case c6 => k_is)
    (case k6 => k_is)
    (case a7 => k_is)
    (case l7 => k_is)
    (case c7 => k_is)
    (case k7 => k_is)
    (case a8 => k_is)
    (case l8 => k_is)
    (case c8 => k_is)
    (case k8 => k_is)
    (case a9 => k_is)
    (case l9 => k_is)
    (case c9 => k_is)
    (case k9 => k_is)
    (case a10 => k_is)
    (case l10 => k_is)
    (case c10 => k_is)
    (case k10 => k_is)
    (case a11 => k_is)
    (case l11 => k_is)
    (case c11 => k_is)
    (case k11 => k_is)
    (case a12 => k_is)
    (case l12 => k_is)
    (case c12 => k_is)
    (case k12 => k_is)
    (case a13 => k_is)
    (case l13 => k_is)
    (case c13 => k_is)
    (case k13 => k_is)
    (case a14 => k_is)
    (case l14 => k_is)
    (case c14 => k_is)
    (case k14 => k_is)
    (case a15 => k_is)
    (case l15 => k_is)
    (case c15 => k_is)
    (case k15 => k_is)
    (case a16 => k_is)
    (case l16 => k_is)
    (case c16 => k_is)
    (case k16 => k_is)
    (case a17 => k_is)
    (case l17 => k_is)
    (case c17 => k_is)
    (case k17 => k_is)
    (case a18 => k_is)
    (case l18 => k_is)
    (case c18 => k_is)
    (case k18 => k_is)
    (case a19 => k_is)
    (case l19 => k_is)
    (case c19 => k_is)
    (case k19 => k_is)
    (case a20 => k_is)
    (case l20 => k_is)
    (case c20 => k_is)
    (case k20 => k_is)
    (case a21 => k_is)
    (case l21 => k_is)
    (case c21 => k_is)
    (case k21 => k_is)
    (case a22 => k_is)
    (case l22 => k_is)
    (case c22 => k_is)
    (case k22 => k_is)
    (case a23 => k_is)
    (case l23 => k_is)
    (case c23 => k_is)
    (case k23 => k_is)
    (case a24 => k_is)
    (case l24 => k_is)
    (case c24 => k_is)
    (case k24 => k_is)
    (case z_ValueError => k_is)
    (case z_all => k_is)
    (case z_bool => k_is)
    (case z_int => k_is)
    (case z_isinstance => k_is)
    (case z_len => k_is)
    (case z_list => k_is)
    (case z_max => k_is)
    (case z_min => k_is)
    (case z_range => k_is)
    (case z_sum => k_is)
    (case z_tuple => k_is)
    (case z_zip => k_is)
    (case q_MOST_NAMES => k_is)
    (case q_MOST_WAYS => k_is)
    (case q_MOST_ASKS => k_is)
    (case q_MOST_TURNS => k_is)
    (case q_FAR => k_is)
    (case g_LoopError => k_is)
    (case xi_LoopError => k_exc)
    (case kC_LoopError => k_is)
    (case bC_LoopError => k_is)
    (case tC_LoopError => k_is)
    (case iC_LoopError => k_is)
    (case vC_LoopError => k_is)
    (case g_BadLoop => k_is)
    (case xi_BadLoop => k_exc)
    (case kC_BadLoop => k_is)
    (case bC_BadLoop => k_is)
    (case tC_BadLoop => k_is)
    (case iC_BadLoop => k_is)
    (case vC_BadLoop => k_is)
    (case g_BadState => k_is)
    (case xi_BadState => k_exc)
    (case kC_BadState => k_is)
    (case bC_BadState => k_is)
    (case tC_BadState => k_is)
    (case iC_BadState => k_is)
    (case vC_BadState => k_is)
    (case g_BadCount => k_is)
    (case xi_BadCount => k_exc)
    (case kC_BadCount => k_is)
    (case bC_BadCount => k_is)
    (case tC_BadCount => k_is)
    (case iC_BadCount => k_is)
    (case vC_BadCount => k_is)
    (case g_BadGauge => k_is)
    (case xi_BadGauge => k_exc)
    (case kC_BadGauge => k_is)
    (case bC_BadGauge => k_is)
    (case tC_BadGauge => k_is)
    (case iC_BadGauge => k_is)
    (case vC_BadGauge => k_is)
    (case g_BadTable => k_is)
    (case xi_BadTable => k_exc)
    (case kC_BadTable => k_is)
    (case bC_BadTable => k_is)
    (case tC_BadTable => k_is)
    (case iC_BadTable => k_is)
    (case vC_BadTable => k_is)
    (case g_BadText => k_is)
    (case xi_BadText => k_exc)
    (case kC_BadText => k_is)
    (case bC_BadText => k_is)
    (case tC_BadText => k_is)
    (case iC_BadText => k_is)
    (case vC_BadText => k_is)
    (case ea => k_is)
    (case eb => k_is)
    (case e1_BadLoop => k_is)
    (case e2_BadLoop => k_is)
    (case e3_BadLoop => k_is)
    (case e4_BadLoop => k_is)
    (case e5_BadLoop => k_is)
    (case s_BadLoop_LoopError => k_is)
    (case n_BadLoop_LoopError => rfl)
    (case s_BadLoop_BadState => k_is)
    (case n_BadLoop_BadState => rfl)
    (case s_BadLoop_BadCount => k_is)
    (case n_BadLoop_BadCount => rfl)
    (case s_BadLoop_BadGauge => k_is)
    (case n_BadLoop_BadGauge => rfl)
    (case s_BadLoop_BadTable => k_is)
    (case n_BadLoop_BadTable => rfl)
    (case s_BadLoop_BadText => k_is)
    (case n_BadLoop_BadText => rfl)
    (case e1_BadState => k_is)
    (case e2_BadState => k_is)
    (case e3_BadState => k_is)
    (case e4_BadState => k_is)
    (case e5_BadState => k_is)
    (case s_BadState_LoopError => k_is)
    (case n_BadState_LoopError => rfl)
    (case s_BadState_BadLoop => k_is)
    (case n_BadState_BadLoop => rfl)
    (case s_BadState_BadCount => k_is)
    (case n_BadState_BadCount => rfl)
    (case s_BadState_BadGauge => k_is)
    (case n_BadState_BadGauge => rfl)
    (case s_BadState_BadTable => k_is)
    (case n_BadState_BadTable => rfl)
    (case s_BadState_BadText => k_is)
    (case n_BadState_BadText => rfl)
    (case e1_BadCount => k_is)
    (case e2_BadCount => k_is)
    (case e3_BadCount => k_is)
    (case e4_BadCount => k_is)
    (case e5_BadCount => k_is)
    (case s_BadCount_LoopError => k_is)
    (case n_BadCount_LoopError => rfl)
    (case s_BadCount_BadLoop => k_is)
    (case n_BadCount_BadLoop => rfl)
    (case s_BadCount_BadState => k_is)
    (case n_BadCount_BadState => rfl)
    (case s_BadCount_BadGauge => k_is)
    (case n_BadCount_BadGauge => rfl)
    (case s_BadCount_BadTable => k_is)
    (case n_BadCount_BadTable => rfl)
    (case s_BadCount_BadText => k_is)
    (case n_BadCount_BadText => rfl)

